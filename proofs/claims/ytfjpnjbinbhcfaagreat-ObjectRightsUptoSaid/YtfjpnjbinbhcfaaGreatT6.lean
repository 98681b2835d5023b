/- The program's object.Right of any object and the document's tell the same, where what is read is of bulk at most 1048576: Rows.ObjectRightsUptoSaid. Part 6 of 10. -/
import Derived.Test.YtfjpnjbinbhcfaaGreatT5
set_option maxHeartbeats 8000000
set_option maxRecDepth 100000
set_option linter.unusedVariables false
set_option linter.unusedSimpArgs false
namespace Go.Proofs.YtfjpnjbinbhcfaaGreat
section
namespace Q
open Go.RowKit PA PC PB
attribute [local go_sem] qAU min2_int qBd min_two max_three min_three max_four min_four
def qB0.f (k : Nat) (s0_0 : List Int) (s0_1 : Int) (s0_2 : Int) : Option (List Int × Int × List Int × (List (S144)) × Int × Int) := (qA8.f k s0_0 s0_1 s0_2).bind fun aY => ((qAu.f s0_0 aY.2.1 aY.2.2).bind fun aR => ((qA8.f k s0_0 aR.2.1 aR.2.2).bind fun aP => ((qA9.f s0_0 aP.2.1 aP.2.2 16384).bind fun aG => ((qBk.f aG.1).bind fun aJ => (if aJ.2 = 0 then (some (aY.1, wrap64 (aR.1), aP.1, aJ.1, aG.2.1, aG.2.2)) else ((qAG.f s0_0 aG.2.1 aG.2.2 52).bind fun aN => (some (aY.1, wrap64 (aR.1), aP.1, aJ.1, aN.1, aN.2))))))))
theorem qB0.calls (k : Nat) (g : Nat) (s0_0 : List Int) (s0_1 : Int) (s0_2 : Int) (r1 : List Int) (r2 : Int) (r3 : List Int) (r4 : List (S144)) (r5 : Int) (r6 : Int) (w0 w : World) (hI : qAo w0 w g s0_0 s0_1 s0_2) (hB : Below w0.heap.size w0 w) (h : qB0.f k s0_0 s0_1 s0_2 = some (r1, r2, r3, r4, r5, r6)) :
  Calls Tryz.prog 62 #[.pointer (some ⟨g, 0, none⟩)] w fun e w' => ∃ v0_ v2_ v3_ : Value, e = .returned (.agg #[v0_, .int .i64 r2, v2_, v3_]) ∧ Kd.R (Kd.int .i64) 3 w' w.heap.size (fun k_ => some k_ ≠ (v2_ : Value).ownBlock) v0_ r1 ∧ Kd.R (Kd.int .i64) 3 w' w.heap.size (fun k_ => some k_ ≠ (v0_ : Value).ownBlock) v2_ r3 ∧ Kd.R k144 144 w' w.heap.size (fun _ => True) v3_ r4 ∧ qAo w0 w' g s0_0 r5 r6 ∧ Below w0.heap.size w0 w' ∧ qAn w w' g none := by
 have aL := am hI
 have HK := am (qAn.refl w g none)
 clear hI
 have bA := am hB.size
 have HB := am hB
 clear hB
 have H : ((qA8.f k s0_0 s0_1 s0_2).bind fun aY => ((qAu.f s0_0 aY.2.1 aY.2.2).bind fun aR => ((qA8.f k s0_0 aR.2.1 aR.2.2).bind fun aP => ((qA9.f s0_0 aP.2.1 aP.2.2 16384).bind fun aG => ((qBk.f aG.1).bind fun aJ => (if aJ.2 = 0 then (some (aY.1, wrap64 (aR.1), aP.1, aJ.1, aG.2.1, aG.2.2)) else ((qAG.f s0_0 aG.2.1 aG.2.2 52).bind fun aN => (some (aY.1, wrap64 (aR.1), aP.1, aJ.1, aN.1, aN.2))))))))) = some (r1, r2, r3, r4, r5, r6) := h
 clear h
 replace H := bm H
 obtain ⟨⟨aH, ap, aq⟩, cI, H⟩ := H
 replace H : ((qAu.f s0_0 ap aq).bind fun aR => ((qA8.f k s0_0 aR.2.1 aR.2.2).bind fun aP => ((qA9.f s0_0 aP.2.1 aP.2.2 16384).bind fun aG => ((qBk.f aG.1).bind fun aJ => (if aJ.2 = 0 then (some (aH, wrap64 (aR.1), aP.1, aJ.1, aG.2.1, aG.2.2)) else ((qAG.f s0_0 aG.2.1 aG.2.2 52).bind fun aN => (some (aH, wrap64 (aR.1), aP.1, aJ.1, aN.1, aN.2)))))))) = some (r1, r2, r3, r4, r5, r6) := H
 have A2 := am cI
 clear cI
 replace H := bm H
 obtain ⟨⟨aK, ar, au⟩, cJ, H⟩ := H
 replace H : ((qA8.f k s0_0 ar au).bind fun aP => ((qA9.f s0_0 aP.2.1 aP.2.2 16384).bind fun aG => ((qBk.f aG.1).bind fun aJ => (if aJ.2 = 0 then (some (aH, wrap64 (aK), aP.1, aJ.1, aG.2.1, aG.2.2)) else ((qAG.f s0_0 aG.2.1 aG.2.2 52).bind fun aN => (some (aH, wrap64 (aK), aP.1, aJ.1, aN.1, aN.2))))))) = some (r1, r2, r3, r4, r5, r6) := H
 have A3 := am cJ
 clear cJ
 replace H := bm H
 obtain ⟨⟨aQ, ab, ac⟩, cK, H⟩ := H
 replace H : ((qA9.f s0_0 ab ac 16384).bind fun aG => ((qBk.f aG.1).bind fun aJ => (if aJ.2 = 0 then (some (aH, wrap64 (aK), aQ, aJ.1, aG.2.1, aG.2.2)) else ((qAG.f s0_0 aG.2.1 aG.2.2 52).bind fun aN => (some (aH, wrap64 (aK), aQ, aJ.1, aN.1, aN.2)))))) = some (r1, r2, r3, r4, r5, r6) := H
 have A4 := am cK
 clear cK
 replace H := bm H
 obtain ⟨⟨ai, aj, ak⟩, cL, H⟩ := H
 replace H : ((qBk.f ai).bind fun aJ => (if aJ.2 = 0 then (some (aH, wrap64 (aK), aQ, aJ.1, aj, ak)) else ((qAG.f s0_0 aj ak 52).bind fun aN => (some (aH, wrap64 (aK), aQ, aJ.1, aN.1, aN.2))))) = some (r1, r2, r3, r4, r5, r6) := H
 have A5 := am cL
 clear cL
 replace H := bm H
 obtain ⟨⟨aS, al⟩, cM, H⟩ := H
 replace H : (if al = 0 then (some (aH, wrap64 (aK), aQ, aS, aj, ak)) else ((qAG.f s0_0 aj ak 52).bind fun aN => (some (aH, wrap64 (aK), aQ, aS, aN.1, aN.2)))) = some (r1, r2, r3, r4, r5, r6) := H
 have A6 := am cM
 clear cM
 by_cases c7 : al = 0
 ·rw [if_pos c7] at H
  have bp : (al != 0) = false := bn c7
  clear c7
  simp only [Option.some.injEq, Prod.mk.injEq] at H
  obtain ⟨rfl, rfl, rfl, rfl, rfl, rfl⟩ := H
  go_enter Tryz.func62, Tryz.ntmps62
  go_wp2_with (first | ((with_reducible refine qAI (N := 2) rfl ?_); refine bx 2 #[.slice none 0 0, .int .i64 0, .slice none 0 0, .slice none 0 0] 90 ?_; intro aD hg w8 hbox hb; have n_ := a2 (qAo.below aL.o hb) (a2 (qAn.trans HK.o (qAn.of_below hb g none) (.inl rfl)) (a2 (qAp HB.o hb) (a2 (hbox) (a2 (by rw [hg]; exact (qBz HK.o) : w.heap.size ≤ aD) (a2 (Nat.le_trans bA.o (by rw [hg]; exact (qBz HK.o) : w.heap.size ≤ aD) : w0.heap.size ≤ aD) (a2 (by rw [hg]; exact Nat.ne_of_lt (qAo.lt aL.o) : g ≠ aD) (am (by rw [hg]; exact Nat.ne_of_gt (qAo.lt aL.o) : aD ≠ g)))))))); clear aL HK HB; obtain ⟨aL, HK, HB, aA, ao, an, aX, aM⟩ := n_; clear hb hbox hg) | ((with_reducible refine qAv (f := 129) rfl ?_); refine gL 7 Tryz.func129 #[.pointer (some ⟨g, 0, none⟩)] ?_; (with_reducible refine (qA8.calls k g s0_0 s0_1 s0_2 aH ap aq w0 _ ?side1 ?side2 A2.o).mono ?_); (case side1 => exact aL.o); (case side2 => exact HB.o); rintro e w9 ⟨cE, rfl, a5, hi, hb, hk⟩; refine ⟨_, rfl, ?_⟩; have n_ := a2 (qAn.blk hk aA.o aM.o (by simp)) (a2 (Kd.R_lower a5 (qBz HK.o)) (a2 (qAn.trans HK.o hk (.inl rfl)) (a2 (hb) (am (hi))))); clear aA HK HB aL; obtain ⟨aA, aE, HK, HB, aL⟩ := n_) | ((with_reducible refine qAv (f := 56) rfl ?_); refine gL 9 Tryz.func56 #[.pointer (some ⟨g, 0, none⟩)] ?_; (with_reducible refine (qAu.calls g s0_0 ap aq aK ar au w0 _ ?side1 ?side2 A3.o).mono ?_); (case side1 => exact aL.o); (case side2 => exact HB.o); rintro e cY ⟨rfl, hi, hb, hk⟩; refine ⟨_, rfl, ?_⟩; have n_ := a2 (qAn.blk hk aA.o aM.o (by simp)) (a2 (Kd.R_kp (qAo.apart aL.o aE.o (by decide)) hk) (a2 (qAn.trans HK.o hk (.inl rfl)) (a2 (hb) (am (hi))))); clear aA aE HK HB aL; obtain ⟨aA, aE, HK, HB, aL⟩ := n_; obtain ⟨aV, aZ, bs⟩ := Kd.R_slice aE.o; subst bs) | ((with_reducible refine qAv (f := 129) rfl ?_); refine gL 13 Tryz.func129 #[.pointer (some ⟨g, 0, none⟩)] ?_; (with_reducible refine (qA8.calls k g s0_0 ar au aQ ab ac w0 _ ?side1 ?side2 A4.o).mono ?_); (case side1 => exact aL.o); (case side2 => exact HB.o); rintro e cZ ⟨cF, rfl, a5, hi, hb, hk⟩; refine ⟨_, rfl, ?_⟩; have n_ := a2 (qAn.blk hk aA.o aM.o (by simp)) (a2 (Kd.R_mono (Kd.R_told (Kd.R_oldK (qAo.apart aL.o aE.o (by decide)) hk) (Kd.R_base a5)) (fun _ h_ => h_.1)) (a2 (Kd.R_lower (Kd.R_new' a5 (Kd.R_lt aE.o)) (qBz HK.o)) (a2 (qAn.trans HK.o hk (.inl rfl)) (a2 (hb) (am (hi)))))); clear aA aE HK HB aL; obtain ⟨aA, aE, aI, HK, HB, aL⟩ := n_; obtain ⟨a7, a9, bu⟩ := Kd.R_slice aI.o; subst bu) | ((with_reducible refine qAI (N := 3) rfl ?_); refine bx 3 #[.slice none 0 0, .int .i64 0, .slice none 0 0, .slice none 0 0] 90 ?_; intro aC hg bj hbox hb; have n_ := a2 (Kd.R_below aE.o hb) (a2 (Kd.R_below aI.o hb) (a2 (qAo.below aL.o hb) (a2 (qAt aA.o hb) (a2 (qAn.trans HK.o (qAn.of_below hb g none) (.inl rfl)) (a2 (qAp HB.o hb) (a2 (hbox) (a2 (by rw [hg]; exact (qBz HK.o) : w.heap.size ≤ aC) (a2 (Nat.le_trans bA.o (by rw [hg]; exact (qBz HK.o) : w.heap.size ≤ aC) : w0.heap.size ≤ aC) (a2 (by rw [hg]; exact Nat.ne_of_lt (qAM aA.o) : aD ≠ aC) (a2 (by rw [hg]; exact Nat.ne_of_lt (qAo.lt aL.o) : g ≠ aC) (am (by rw [hg]; exact Nat.ne_of_gt (qAo.lt aL.o) : aC ≠ g)))))))))))); clear aE aI aL aA HK HB; obtain ⟨aE, aI, aL, aA, HK, HB, aB, a6, ad, aF, aO, aU⟩ := n_; clear hb hbox hg; have cR := aF.o; have cN := aU.o; have cS := aO.o; have bB : bj.cell? ⟨aC, 0, none⟩ = some (.slice none 0 0) := (qAa aB.o 0).trans rfl; have bC : bj.cell? ⟨aC, 1, none⟩ = some (.int .i64 0) := (qAa aB.o 1).trans rfl; have bD : bj.cell? ⟨aC, 2, none⟩ = some (.slice none 0 0) := (qAa aB.o 2).trans rfl; have bE : bj.cell? ⟨aC, 3, none⟩ = some (.slice none 0 0) := (qAa aB.o 3).trans rfl; have bZ := qAc aB.o 0; have b0 := qAc aB.o 1; have b1 := qAc aB.o 2; have b2 := qAc aB.o 3) | ((with_reducible refine qAv (f := 89) rfl ?_); refine gL 17 Tryz.func89 #[.pointer (some ⟨g, 0, none⟩), .int .i64 16384] ?_; (with_reducible refine (qA9.calls g s0_0 ab ac 16384 ai aj ak w0 _ ?side1 ?side2 A5.o).mono ?_); (case side1 => repeat (with_reducible first | exact aL.o | refine qAo.far ?_ aO.o (by (with_reducible repeat (apply TyB.set)); exact TyB.of aB.o) (by decide) _)); (case side2 => repeat (with_reducible first | exact HB.o | refine qAb ?_ ad.o)); rintro e c0 ⟨cG, rfl, a5, hi, hb, hk⟩; refine ⟨_, rfl, ?_⟩; have n_ := a2 (qAn.blk hk (g' := aD) (o := .cells #[.slice none 0 0, .int .i64 0, .slice none 0 0, .slice none 0 0] 90 (0, 0)) (by refine qA1 ?_ aF.o _; refine qA1 ?_ aF.o _; refine qA1 ?_ aF.o _; refine qA1 ?_ aF.o _; exact aA.o) aM.o (by simp)) (a2 (Kd.R_kp (qAo.apart (show qAo w0 _ g s0_0 ab ac from by repeat (with_reducible first | exact aL.o | refine qAo.far ?_ aO.o (by (with_reducible repeat (apply TyB.set)); exact TyB.of aB.o) (by decide) _)) (by exact (Kd.R_mono (Kd.R_far (p := ⟨aC, 3, none⟩) (Kd.R_far (p := ⟨aC, 2, none⟩) (Kd.R_far (p := ⟨aC, 1, none⟩) (Kd.R_far (p := ⟨aC, 0, none⟩) (Kd.R_types aE.o aB.o (by decide)) (fun _ hk => hk.2) (.slice aV aH.length aZ)) (fun _ hk => hk.2) (.int .i64 (wrap64 (aK)))) (fun _ hk => hk.2) (.slice a7 aQ.length a9)) (fun _ hk => hk.2) (.slice none 0 0)) (fun _ h_ => h_.1))) (by decide)) hk) (a2 (Kd.R_kp (qAo.apart (show qAo w0 _ g s0_0 ab ac from by repeat (with_reducible first | exact aL.o | refine qAo.far ?_ aO.o (by (with_reducible repeat (apply TyB.set)); exact TyB.of aB.o) (by decide) _)) (by exact (Kd.R_mono (Kd.R_far (p := ⟨aC, 3, none⟩) (Kd.R_far (p := ⟨aC, 2, none⟩) (Kd.R_far (p := ⟨aC, 1, none⟩) (Kd.R_far (p := ⟨aC, 0, none⟩) (Kd.R_types aI.o aB.o (by decide)) (fun _ hk => hk.2) (.slice aV aH.length aZ)) (fun _ hk => hk.2) (.int .i64 (wrap64 (aK)))) (fun _ hk => hk.2) (.slice a7 aQ.length a9)) (fun _ hk => hk.2) (.slice none 0 0)) (fun _ h_ => h_.1))) (by decide)) hk) (a2 (qAn.blk hk (g' := aC) (o := .cells #[.slice aV aH.length aZ, .int .i64 (wrap64 (aK)), .slice a7 aQ.length a9, .slice none 0 0] 90 (0, 0)) (by refine qA6 (cs := #[.slice aV aH.length aZ, .int .i64 (wrap64 (aK)), .slice a7 aQ.length a9, .slice none 0 0]) ?_ 3 _ rfl; refine qA6 (cs := #[.slice aV aH.length aZ, .int .i64 (wrap64 (aK)), .slice none 0 0, .slice none 0 0]) ?_ 2 _ rfl; refine qA6 (cs := #[.slice aV aH.length aZ, .int .i64 0, .slice none 0 0, .slice none 0 0]) ?_ 1 _ rfl; refine qA6 (cs := #[.slice none 0 0, .int .i64 0, .slice none 0 0, .slice none 0 0]) ?_ 0 _ rfl; exact aB.o) aU.o (by simp)) (a2 (Kd.R_lower a5 (qBz (w := w) (g := g) (row := none) (by repeat (with_reducible first | exact HK.o | refine qC4 ?_ a6.o _)))) (a2 (qAn.trans (by repeat (with_reducible first | exact HK.o | refine qC4 ?_ a6.o _)) hk (.inl rfl)) (a2 (hb) (am (hi)))))))); clear aA aE aI aB HK HB aL; obtain ⟨aA, aE, aI, aB, aT, HK, HB, aL⟩ := n_; obtain ⟨bl, bq, bw⟩ := Kd.R_slice aT.o; subst bw) | ((with_reducible refine qAv (f := 88) rfl ?_); refine gL 18 Tryz.func88 #[.slice bl ai.length bq] ?_; (with_reducible refine (qBk.calls _ _ ai aS al _ ?side1 ?side2 A6.o).mono ?_); (case side1 => exact (Kd.R_reads' aT.o).2.2); (case side2 => exact (Kd.R_reads' aT.o).2.1); rintro e av ⟨cH, rfl, a5, hb⟩; refine ⟨_, rfl, ?_⟩; have n_ := a2 (Kd.R_below aE.o hb) (a2 (Kd.R_below aI.o hb) (a2 (Kd.R_lower a5 (qBz HK.o)) (a2 (qAo.below aL.o hb) (a2 (qAt aA.o hb) (a2 (qAt aB.o hb) (a2 (qAn.trans HK.o (qAn.of_below hb g none) (.inl rfl)) (am (qAp HB.o hb)))))))); clear aE aI aT aL aA aB HK HB; obtain ⟨aE, aI, a4, aL, aA, aB, HK, HB⟩ := n_; obtain ⟨ae, ag, bz⟩ := Kd.R_slice a4.o; subst bz; have bF : av.cell? ⟨aC, 0, none⟩ = some (.slice aV aH.length aZ) := (qAa aB.o 0).trans rfl; have bG : av.cell? ⟨aC, 1, none⟩ = some (.int .i64 (wrap64 (aK))) := (qAa aB.o 1).trans rfl; have bH : av.cell? ⟨aC, 2, none⟩ = some (.slice a7 aQ.length a9) := (qAa aB.o 2).trans rfl; have bI : av.cell? ⟨aC, 3, none⟩ = some (.slice none 0 0) := (qAa aB.o 3).trans rfl; have b3 := qAc aB.o 3; have cO := aM.o; have cT := aX.o; have bJ : av.cell? ⟨aD, 0, none⟩ = some (.slice none 0 0) := (qAa aA.o 0).trans rfl; have bK : av.cell? ⟨aD, 1, none⟩ = some (.int .i64 0) := (qAa aA.o 1).trans rfl; have bL : av.cell? ⟨aD, 2, none⟩ = some (.slice none 0 0) := (qAa aA.o 2).trans rfl; have bM : av.cell? ⟨aD, 3, none⟩ = some (.slice none 0 0) := (qAa aA.o 3).trans rfl; have b4 := qAc aA.o 0; have b5 := qAc aA.o 1; have b6 := qAc aA.o 2; have b7 := qAc aA.o 3))
  refine bodyPost_ret (results_cell_row rfl _ _ aD 90 #[.slice aV aH.length aZ, .int .i64 (wrap64 (aK)), .slice a7 aQ.length a9, .slice ae aS.length ag] (0, 0) _ rfl (by refine qA6 (cs := #[.slice aV aH.length aZ, .int .i64 (wrap64 (aK)), .slice a7 aQ.length a9, .slice none 0 0]) ?_ 3 _ rfl; refine qA6 (cs := #[.slice aV aH.length aZ, .int .i64 (wrap64 (aK)), .slice none 0 0, .slice none 0 0]) ?_ 2 _ rfl; refine qA6 (cs := #[.slice aV aH.length aZ, .int .i64 0, .slice none 0 0, .slice none 0 0]) ?_ 1 _ rfl; refine qA6 (cs := #[.slice none 0 0, .int .i64 0, .slice none 0 0, .slice none 0 0]) ?_ 0 _ rfl; refine qA1 ?_ aF.o _; exact aA.o) Tryz.underlying90 rfl (by kernel_rfl)) rfl ?_
  exact ⟨_, _, _, by rfl, by exact Kd.R_mono (Kd.R_far (p := ⟨aD, 3, none⟩) (Kd.R_far (p := ⟨aD, 2, none⟩) (Kd.R_far (p := ⟨aD, 1, none⟩) (Kd.R_far (p := ⟨aD, 0, none⟩) (Kd.R_far (p := ⟨aC, 3, none⟩) (Kd.R_types (Kd.R_types aE.o aB.o (by decide)) aA.o (by decide)) (fun _ hk => hk.1.2) (.slice ae aS.length ag)) (fun _ hk => hk.2) (.slice aV aH.length aZ)) (fun _ hk => hk.2) (.int .i64 (wrap64 (aK)))) (fun _ hk => hk.2) (.slice a7 aQ.length a9)) (fun _ hk => hk.2) (.slice ae aS.length ag)) (fun _ hk => hk.1.1.2), by exact Kd.R_mono (Kd.R_far (p := ⟨aD, 3, none⟩) (Kd.R_far (p := ⟨aD, 2, none⟩) (Kd.R_far (p := ⟨aD, 1, none⟩) (Kd.R_far (p := ⟨aD, 0, none⟩) (Kd.R_far (p := ⟨aC, 3, none⟩) (Kd.R_types (Kd.R_types aI.o aB.o (by decide)) aA.o (by decide)) (fun _ hk => hk.1.2) (.slice ae aS.length ag)) (fun _ hk => hk.2) (.slice aV aH.length aZ)) (fun _ hk => hk.2) (.int .i64 (wrap64 (aK)))) (fun _ hk => hk.2) (.slice a7 aQ.length a9)) (fun _ hk => hk.2) (.slice ae aS.length ag)) (fun _ hk => hk.1.1.2), by exact Kd.R_mono (Kd.R_far (p := ⟨aD, 3, none⟩) (Kd.R_far (p := ⟨aD, 2, none⟩) (Kd.R_far (p := ⟨aD, 1, none⟩) (Kd.R_far (p := ⟨aD, 0, none⟩) (Kd.R_far (p := ⟨aC, 3, none⟩) (Kd.R_types (Kd.R_types a4.o aB.o (by decide)) aA.o (by decide)) (fun _ hk => hk.1.2) (.slice ae aS.length ag)) (fun _ hk => hk.2) (.slice aV aH.length aZ)) (fun _ hk => hk.2) (.int .i64 (wrap64 (aK)))) (fun _ hk => hk.2) (.slice a7 aQ.length a9)) (fun _ hk => hk.2) (.slice ae aS.length ag)) (fun _ hk => trivial), by repeat (with_reducible first | exact aL.o | refine qAo.far ?_ aX.o (by (with_reducible repeat (apply TyB.set)); exact TyB.of aA.o) (by decide) _ | refine qAo.far ?_ aO.o (by exact TyB.of aB.o) (by decide) _), by repeat (with_reducible first | exact HB.o | refine qAb ?_ an.o | refine qAb ?_ ad.o), by repeat (with_reducible first | exact HK.o | refine qC4 ?_ ao.o _ | refine qC4 ?_ a6.o _)⟩
 ·rw [if_neg c7] at H
  have bp : (al != 0) = true := bne_iff_ne.mpr c7
  replace H := bm H
  obtain ⟨⟨ay, az⟩, ax, H⟩ := H
  replace H : (some (aH, wrap64 (aK), aQ, aS, ay, az)) = some (r1, r2, r3, r4, r5, r6) := H
  have cX := am ax
  clear ax
  simp only [Option.some.injEq, Prod.mk.injEq] at H
  obtain ⟨rfl, rfl, rfl, rfl, rfl, rfl⟩ := H
  go_enter Tryz.func62, Tryz.ntmps62
  go_wp2_with (first | ((with_reducible refine qAI (N := 2) rfl ?_); refine bx 2 #[.slice none 0 0, .int .i64 0, .slice none 0 0, .slice none 0 0] 90 ?_; intro aD hg c1 hbox hb; have n_ := a2 (qAo.below aL.o hb) (a2 (qAn.trans HK.o (qAn.of_below hb g none) (.inl rfl)) (a2 (qAp HB.o hb) (a2 (hbox) (a2 (by rw [hg]; exact (qBz HK.o) : w.heap.size ≤ aD) (a2 (Nat.le_trans bA.o (by rw [hg]; exact (qBz HK.o) : w.heap.size ≤ aD) : w0.heap.size ≤ aD) (a2 (by rw [hg]; exact Nat.ne_of_lt (qAo.lt aL.o) : g ≠ aD) (am (by rw [hg]; exact Nat.ne_of_gt (qAo.lt aL.o) : aD ≠ g)))))))); clear aL HK HB; obtain ⟨aL, HK, HB, aA, ao, an, aX, aM⟩ := n_; clear hb hbox hg) | ((with_reducible refine qAv (f := 129) rfl ?_); refine gL 7 Tryz.func129 #[.pointer (some ⟨g, 0, none⟩)] ?_; (with_reducible refine (qA8.calls k g s0_0 s0_1 s0_2 aH ap aq w0 _ ?side1 ?side2 A2.o).mono ?_); (case side1 => exact aL.o); (case side2 => exact HB.o); rintro e ca ⟨cE, rfl, a5, hi, hb, hk⟩; refine ⟨_, rfl, ?_⟩; have n_ := a2 (qAn.blk hk aA.o aM.o (by simp)) (a2 (Kd.R_lower a5 (qBz HK.o)) (a2 (qAn.trans HK.o hk (.inl rfl)) (a2 (hb) (am (hi))))); clear aA HK HB aL; obtain ⟨aA, aE, HK, HB, aL⟩ := n_) | ((with_reducible refine qAv (f := 56) rfl ?_); refine gL 9 Tryz.func56 #[.pointer (some ⟨g, 0, none⟩)] ?_; (with_reducible refine (qAu.calls g s0_0 ap aq aK ar au w0 _ ?side1 ?side2 A3.o).mono ?_); (case side1 => exact aL.o); (case side2 => exact HB.o); rintro e cc ⟨rfl, hi, hb, hk⟩; refine ⟨_, rfl, ?_⟩; have n_ := a2 (qAn.blk hk aA.o aM.o (by simp)) (a2 (Kd.R_kp (qAo.apart aL.o aE.o (by decide)) hk) (a2 (qAn.trans HK.o hk (.inl rfl)) (a2 (hb) (am (hi))))); clear aA aE HK HB aL; obtain ⟨aA, aE, HK, HB, aL⟩ := n_; obtain ⟨aW, a3, cA⟩ := Kd.R_slice aE.o; subst cA) | ((with_reducible refine qAv (f := 129) rfl ?_); refine gL 13 Tryz.func129 #[.pointer (some ⟨g, 0, none⟩)] ?_; (with_reducible refine (qA8.calls k g s0_0 ar au aQ ab ac w0 _ ?side1 ?side2 A4.o).mono ?_); (case side1 => exact aL.o); (case side2 => exact HB.o); rintro e cd ⟨cF, rfl, a5, hi, hb, hk⟩; refine ⟨_, rfl, ?_⟩; have n_ := a2 (qAn.blk hk aA.o aM.o (by simp)) (a2 (Kd.R_mono (Kd.R_told (Kd.R_oldK (qAo.apart aL.o aE.o (by decide)) hk) (Kd.R_base a5)) (fun _ h_ => h_.1)) (a2 (Kd.R_lower (Kd.R_new' a5 (Kd.R_lt aE.o)) (qBz HK.o)) (a2 (qAn.trans HK.o hk (.inl rfl)) (a2 (hb) (am (hi)))))); clear aA aE HK HB aL; obtain ⟨aA, aE, aI, HK, HB, aL⟩ := n_; obtain ⟨a8, aa, cB⟩ := Kd.R_slice aI.o; subst cB) | ((with_reducible refine qAI (N := 3) rfl ?_); refine bx 3 #[.slice none 0 0, .int .i64 0, .slice none 0 0, .slice none 0 0] 90 ?_; intro aC hg bk hbox hb; have n_ := a2 (Kd.R_below aE.o hb) (a2 (Kd.R_below aI.o hb) (a2 (qAo.below aL.o hb) (a2 (qAt aA.o hb) (a2 (qAn.trans HK.o (qAn.of_below hb g none) (.inl rfl)) (a2 (qAp HB.o hb) (a2 (hbox) (a2 (by rw [hg]; exact (qBz HK.o) : w.heap.size ≤ aC) (a2 (Nat.le_trans bA.o (by rw [hg]; exact (qBz HK.o) : w.heap.size ≤ aC) : w0.heap.size ≤ aC) (a2 (by rw [hg]; exact Nat.ne_of_lt (qAM aA.o) : aD ≠ aC) (a2 (by rw [hg]; exact Nat.ne_of_lt (qAo.lt aL.o) : g ≠ aC) (am (by rw [hg]; exact Nat.ne_of_gt (qAo.lt aL.o) : aC ≠ g)))))))))))); clear aE aI aL aA HK HB; obtain ⟨aE, aI, aL, aA, HK, HB, aB, a6, ad, aF, aO, aU⟩ := n_; clear hb hbox hg; have cU := aF.o; have cP := aU.o; have cV := aO.o; have bN : bk.cell? ⟨aC, 0, none⟩ = some (.slice none 0 0) := (qAa aB.o 0).trans rfl; have bO : bk.cell? ⟨aC, 1, none⟩ = some (.int .i64 0) := (qAa aB.o 1).trans rfl; have bP : bk.cell? ⟨aC, 2, none⟩ = some (.slice none 0 0) := (qAa aB.o 2).trans rfl; have bQ : bk.cell? ⟨aC, 3, none⟩ = some (.slice none 0 0) := (qAa aB.o 3).trans rfl; have b8 := qAc aB.o 0; have b9 := qAc aB.o 1; have ba := qAc aB.o 2; have bb := qAc aB.o 3) | ((with_reducible refine qAv (f := 89) rfl ?_); refine gL 17 Tryz.func89 #[.pointer (some ⟨g, 0, none⟩), .int .i64 16384] ?_; (with_reducible refine (qA9.calls g s0_0 ab ac 16384 ai aj ak w0 _ ?side1 ?side2 A5.o).mono ?_); (case side1 => repeat (with_reducible first | exact aL.o | refine qAo.far ?_ aO.o (by (with_reducible repeat (apply TyB.set)); exact TyB.of aB.o) (by decide) _)); (case side2 => repeat (with_reducible first | exact HB.o | refine qAb ?_ ad.o)); rintro e ce ⟨cG, rfl, a5, hi, hb, hk⟩; refine ⟨_, rfl, ?_⟩; have n_ := a2 (qAn.blk hk (g' := aD) (o := .cells #[.slice none 0 0, .int .i64 0, .slice none 0 0, .slice none 0 0] 90 (0, 0)) (by refine qA1 ?_ aF.o _; refine qA1 ?_ aF.o _; refine qA1 ?_ aF.o _; refine qA1 ?_ aF.o _; exact aA.o) aM.o (by simp)) (a2 (Kd.R_kp (qAo.apart (show qAo w0 _ g s0_0 ab ac from by repeat (with_reducible first | exact aL.o | refine qAo.far ?_ aO.o (by (with_reducible repeat (apply TyB.set)); exact TyB.of aB.o) (by decide) _)) (by exact (Kd.R_mono (Kd.R_far (p := ⟨aC, 3, none⟩) (Kd.R_far (p := ⟨aC, 2, none⟩) (Kd.R_far (p := ⟨aC, 1, none⟩) (Kd.R_far (p := ⟨aC, 0, none⟩) (Kd.R_types aE.o aB.o (by decide)) (fun _ hk => hk.2) (.slice aW aH.length a3)) (fun _ hk => hk.2) (.int .i64 (wrap64 (aK)))) (fun _ hk => hk.2) (.slice a8 aQ.length aa)) (fun _ hk => hk.2) (.slice none 0 0)) (fun _ h_ => h_.1))) (by decide)) hk) (a2 (Kd.R_kp (qAo.apart (show qAo w0 _ g s0_0 ab ac from by repeat (with_reducible first | exact aL.o | refine qAo.far ?_ aO.o (by (with_reducible repeat (apply TyB.set)); exact TyB.of aB.o) (by decide) _)) (by exact (Kd.R_mono (Kd.R_far (p := ⟨aC, 3, none⟩) (Kd.R_far (p := ⟨aC, 2, none⟩) (Kd.R_far (p := ⟨aC, 1, none⟩) (Kd.R_far (p := ⟨aC, 0, none⟩) (Kd.R_types aI.o aB.o (by decide)) (fun _ hk => hk.2) (.slice aW aH.length a3)) (fun _ hk => hk.2) (.int .i64 (wrap64 (aK)))) (fun _ hk => hk.2) (.slice a8 aQ.length aa)) (fun _ hk => hk.2) (.slice none 0 0)) (fun _ h_ => h_.1))) (by decide)) hk) (a2 (qAn.blk hk (g' := aC) (o := .cells #[.slice aW aH.length a3, .int .i64 (wrap64 (aK)), .slice a8 aQ.length aa, .slice none 0 0] 90 (0, 0)) (by refine qA6 (cs := #[.slice aW aH.length a3, .int .i64 (wrap64 (aK)), .slice a8 aQ.length aa, .slice none 0 0]) ?_ 3 _ rfl; refine qA6 (cs := #[.slice aW aH.length a3, .int .i64 (wrap64 (aK)), .slice none 0 0, .slice none 0 0]) ?_ 2 _ rfl; refine qA6 (cs := #[.slice aW aH.length a3, .int .i64 0, .slice none 0 0, .slice none 0 0]) ?_ 1 _ rfl; refine qA6 (cs := #[.slice none 0 0, .int .i64 0, .slice none 0 0, .slice none 0 0]) ?_ 0 _ rfl; exact aB.o) aU.o (by simp)) (a2 (Kd.R_lower a5 (qBz (w := w) (g := g) (row := none) (by repeat (with_reducible first | exact HK.o | refine qC4 ?_ a6.o _)))) (a2 (qAn.trans (by repeat (with_reducible first | exact HK.o | refine qC4 ?_ a6.o _)) hk (.inl rfl)) (a2 (hb) (am (hi)))))))); clear aA aE aI aB HK HB aL; obtain ⟨aA, aE, aI, aB, aT, HK, HB, aL⟩ := n_; obtain ⟨bo, br, cC⟩ := Kd.R_slice aT.o; subst cC) | ((with_reducible refine qAv (f := 88) rfl ?_); refine gL 18 Tryz.func88 #[.slice bo ai.length br] ?_; (with_reducible refine (qBk.calls _ _ ai aS al _ ?side1 ?side2 A6.o).mono ?_); (case side1 => exact (Kd.R_reads' aT.o).2.2); (case side2 => exact (Kd.R_reads' aT.o).2.1); rintro e cf ⟨cH, rfl, a5, hb⟩; refine ⟨_, rfl, ?_⟩; have n_ := a2 (Kd.R_below aE.o hb) (a2 (Kd.R_below aI.o hb) (a2 (Kd.R_below aT.o hb) (a2 (Kd.R_lower a5 (qBz HK.o)) (a2 (qAo.below aL.o hb) (a2 (qAt aA.o hb) (a2 (qAt aB.o hb) (a2 (qAn.trans HK.o (qAn.of_below hb g none) (.inl rfl)) (am (qAp HB.o hb))))))))); clear aE aI aT aL aA aB HK HB; obtain ⟨aE, aI, aT, a4, aL, aA, aB, HK, HB⟩ := n_) | ((with_reducible refine qAv (f := 57) rfl ?_); refine gL 24 Tryz.func57 #[.pointer (some ⟨g, 0, none⟩), .int .i64 52] ?_; (with_reducible refine (qAG.calls g s0_0 aj ak 52 ay az w0 _ ?side1 ?side2 cX.o).mono ?_); (case side1 => exact aL.o); (case side2 => exact HB.o); rintro e aw ⟨rfl, hi, hb, hk⟩; refine ⟨_, rfl, ?_⟩; have n_ := a2 (qAn.blk hk aA.o aM.o (by simp)) (a2 (Kd.R_kp (qAo.apart aL.o aE.o (by decide)) hk) (a2 (Kd.R_kp (qAo.apart aL.o aI.o (by decide)) hk) (a2 (qAn.blk hk aB.o aU.o (by simp)) (a2 (Kd.R_kp (qAo.apart aL.o a4.o (by decide)) hk) (a2 (qAn.trans HK.o hk (.inl rfl)) (a2 (hb) (am (hi)))))))); clear aA aE aI aB aT a4 HK HB aL; obtain ⟨aA, aE, aI, aB, a4, HK, HB, aL⟩ := n_; obtain ⟨af, ah, cD⟩ := Kd.R_slice a4.o; subst cD; have bR : aw.cell? ⟨aC, 0, none⟩ = some (.slice aW aH.length a3) := (qAa aB.o 0).trans rfl; have bS : aw.cell? ⟨aC, 1, none⟩ = some (.int .i64 (wrap64 (aK))) := (qAa aB.o 1).trans rfl; have bT : aw.cell? ⟨aC, 2, none⟩ = some (.slice a8 aQ.length aa) := (qAa aB.o 2).trans rfl; have bU : aw.cell? ⟨aC, 3, none⟩ = some (.slice none 0 0) := (qAa aB.o 3).trans rfl; have bc := qAc aB.o 3; have cQ := aM.o; have cW := aX.o; have bV : aw.cell? ⟨aD, 0, none⟩ = some (.slice none 0 0) := (qAa aA.o 0).trans rfl; have bW : aw.cell? ⟨aD, 1, none⟩ = some (.int .i64 0) := (qAa aA.o 1).trans rfl; have bX : aw.cell? ⟨aD, 2, none⟩ = some (.slice none 0 0) := (qAa aA.o 2).trans rfl; have bY : aw.cell? ⟨aD, 3, none⟩ = some (.slice none 0 0) := (qAa aA.o 3).trans rfl; have bd := qAc aA.o 0; have bg := qAc aA.o 1; have bh := qAc aA.o 2; have bi := qAc aA.o 3))
  refine bodyPost_ret (results_cell_row rfl _ _ aD 90 #[.slice aW aH.length a3, .int .i64 (wrap64 (aK)), .slice a8 aQ.length aa, .slice af aS.length ah] (0, 0) _ rfl (by refine qA6 (cs := #[.slice aW aH.length a3, .int .i64 (wrap64 (aK)), .slice a8 aQ.length aa, .slice none 0 0]) ?_ 3 _ rfl; refine qA6 (cs := #[.slice aW aH.length a3, .int .i64 (wrap64 (aK)), .slice none 0 0, .slice none 0 0]) ?_ 2 _ rfl; refine qA6 (cs := #[.slice aW aH.length a3, .int .i64 0, .slice none 0 0, .slice none 0 0]) ?_ 1 _ rfl; refine qA6 (cs := #[.slice none 0 0, .int .i64 0, .slice none 0 0, .slice none 0 0]) ?_ 0 _ rfl; refine qA1 ?_ aF.o _; exact aA.o) Tryz.underlying90 rfl (by kernel_rfl)) rfl ?_
  exact ⟨_, _, _, by rfl, by exact Kd.R_mono (Kd.R_far (p := ⟨aD, 3, none⟩) (Kd.R_far (p := ⟨aD, 2, none⟩) (Kd.R_far (p := ⟨aD, 1, none⟩) (Kd.R_far (p := ⟨aD, 0, none⟩) (Kd.R_far (p := ⟨aC, 3, none⟩) (Kd.R_types (Kd.R_types aE.o aB.o (by decide)) aA.o (by decide)) (fun _ hk => hk.1.2) (.slice af aS.length ah)) (fun _ hk => hk.2) (.slice aW aH.length a3)) (fun _ hk => hk.2) (.int .i64 (wrap64 (aK)))) (fun _ hk => hk.2) (.slice a8 aQ.length aa)) (fun _ hk => hk.2) (.slice af aS.length ah)) (fun _ hk => hk.1.1.2), by exact Kd.R_mono (Kd.R_far (p := ⟨aD, 3, none⟩) (Kd.R_far (p := ⟨aD, 2, none⟩) (Kd.R_far (p := ⟨aD, 1, none⟩) (Kd.R_far (p := ⟨aD, 0, none⟩) (Kd.R_far (p := ⟨aC, 3, none⟩) (Kd.R_types (Kd.R_types aI.o aB.o (by decide)) aA.o (by decide)) (fun _ hk => hk.1.2) (.slice af aS.length ah)) (fun _ hk => hk.2) (.slice aW aH.length a3)) (fun _ hk => hk.2) (.int .i64 (wrap64 (aK)))) (fun _ hk => hk.2) (.slice a8 aQ.length aa)) (fun _ hk => hk.2) (.slice af aS.length ah)) (fun _ hk => hk.1.1.2), by exact Kd.R_mono (Kd.R_far (p := ⟨aD, 3, none⟩) (Kd.R_far (p := ⟨aD, 2, none⟩) (Kd.R_far (p := ⟨aD, 1, none⟩) (Kd.R_far (p := ⟨aD, 0, none⟩) (Kd.R_far (p := ⟨aC, 3, none⟩) (Kd.R_types (Kd.R_types a4.o aB.o (by decide)) aA.o (by decide)) (fun _ hk => hk.1.2) (.slice af aS.length ah)) (fun _ hk => hk.2) (.slice aW aH.length a3)) (fun _ hk => hk.2) (.int .i64 (wrap64 (aK)))) (fun _ hk => hk.2) (.slice a8 aQ.length aa)) (fun _ hk => hk.2) (.slice af aS.length ah)) (fun _ hk => trivial), by repeat (with_reducible first | exact aL.o | refine qAo.far ?_ aX.o (by (with_reducible repeat (apply TyB.set)); exact TyB.of aA.o) (by decide) _ | refine qAo.far ?_ aO.o (by exact TyB.of aB.o) (by decide) _), by repeat (with_reducible first | exact HB.o | refine qAb ?_ an.o | refine qAb ?_ ad.o), by repeat (with_reducible first | exact HK.o | refine qC4 ?_ ao.o _ | refine qC4 ?_ a6.o _)⟩
def qAY.f (s0_0 : List Int) (s0_1 : Int) (s0_2 : Int) : Option (Int × Int × Int) := (qBo.f s0_0 s0_1 s0_2).bind fun aA => (if aA.1 > 0 then (some (41, aA.2.1, aA.2.2)) else ((qAD.f s0_0 aA.2.1 aA.2.2).bind fun aB => (some (aB.1, aB.2.1, aB.2.2))))
theorem qAY.calls (g : Nat) (s0_0 : List Int) (s0_1 : Int) (s0_2 : Int) (r1 : Int) (r2 : Int) (r3 : Int) (w0 w : World) (hI : qAo w0 w g s0_0 s0_1 s0_2) (hB : Below w0.heap.size w0 w) (h : qAY.f s0_0 s0_1 s0_2 = some (r1, r2, r3)) :
  Calls Tryz.prog 64 #[.pointer (some ⟨g, 0, none⟩)] w fun e w' => e = .returned (.int .i64 r1) ∧ qAo w0 w' g s0_0 r2 r3 ∧ Below w0.heap.size w0 w' ∧ qAn w w' g none := by
 have aD := am hI
 have HK := am (qAn.refl w g none)
 clear hI
 have HB := am hB
 clear hB
 have H : ((qBo.f s0_0 s0_1 s0_2).bind fun aA => (if aA.1 > 0 then (some (41, aA.2.1, aA.2.2)) else ((qAD.f s0_0 aA.2.1 aA.2.2).bind fun aB => (some (aB.1, aB.2.1, aB.2.2))))) = some (r1, r2, r3) := h
 clear h
 replace H := bm H
 obtain ⟨⟨aC, aE, aF⟩, aK, H⟩ := H
 replace H : (if aC > 0 then (some (41, aE, aF)) else ((qAD.f s0_0 aE aF).bind fun aB => (some (aB.1, aB.2.1, aB.2.2)))) = some (r1, r2, r3) := H
 have A2 := am aK
 clear aK
 by_cases c3 : aC > 0
 ·rw [if_pos c3] at H
  replace c3 := d1 c3
  simp only [Option.some.injEq, Prod.mk.injEq] at H
  obtain ⟨rfl, rfl, rfl⟩ := H
  go_enter Tryz.func64, Tryz.ntmps64
  go_wp2_with ((with_reducible refine qAv (f := 131) rfl ?_); refine gL 4 Tryz.func131 #[.pointer (some ⟨g, 0, none⟩)] ?_; (with_reducible refine (qBo.calls g s0_0 s0_1 s0_2 aC aE aF w0 _ ?side1 ?side2 A2.o).mono ?_); (case side1 => exact aD.o); (case side2 => exact HB.o); rintro e w4 ⟨rfl, hi, hb, hk⟩; refine ⟨_, rfl, ?_⟩; have n_ := a2 (qAn.trans HK.o hk (.inl rfl)) (a2 (hb) (am (hi))); clear HK HB aD; obtain ⟨HK, HB, aD⟩ := n_)
  go_ret
  exact ⟨by rfl, by exact aD.o, by exact HB.o, by exact HK.o⟩
 ·rw [if_neg c3] at H
  replace c3 := d0 c3
  replace H := bm H
  obtain ⟨⟨aG, aH, aI⟩, aL, H⟩ := H
  replace H : (some (aG, aH, aI)) = some (r1, r2, r3) := H
  have A5 := am aL
  clear aL
  simp only [Option.some.injEq, Prod.mk.injEq] at H
  obtain ⟨rfl, rfl, rfl⟩ := H
  go_enter Tryz.func64, Tryz.ntmps64
  go_wp2_with (first | ((with_reducible refine qAv (f := 131) rfl ?_); refine gL 4 Tryz.func131 #[.pointer (some ⟨g, 0, none⟩)] ?_; (with_reducible refine (qBo.calls g s0_0 s0_1 s0_2 aC aE aF w0 _ ?side1 ?side2 A2.o).mono ?_); (case side1 => exact aD.o); (case side2 => exact HB.o); rintro e w6 ⟨rfl, hi, hb, hk⟩; refine ⟨_, rfl, ?_⟩; have n_ := a2 (qAn.trans HK.o hk (.inl rfl)) (a2 (hb) (am (hi))); clear HK HB aD; obtain ⟨HK, HB, aD⟩ := n_) | ((with_reducible refine qAv (f := 60) rfl ?_); refine gL 7 Tryz.func60 #[.pointer (some ⟨g, 0, none⟩)] ?_; (with_reducible refine (qAD.calls g s0_0 aE aF aG aH aI w0 _ ?side1 ?side2 A5.o).mono ?_); (case side1 => exact aD.o); (case side2 => exact HB.o); rintro e w7 ⟨rfl, hi, hb, hk⟩; refine ⟨_, rfl, ?_⟩; have n_ := a2 (qAn.trans HK.o hk (.inl rfl)) (a2 (hb) (am (hi))); clear HK HB aD; obtain ⟨HK, HB, aD⟩ := n_))
  go_ret
  exact ⟨by rfl, by exact aD.o, by exact HB.o, by exact HK.o⟩
def qA4.l0 : Nat → List Int → List Int → Int → Int → Option (Bool)
 | 0, _, _, _, _ => none
 | k + 1, x0, x1, aU, aJ => if aJ < aU then (if 0 ≤ aJ then (if aJ < (x0.length : Int) then (if aJ < (x1.length : Int) then (if (rd x0 aJ) = (rd x1 aJ) then (qA4.l0 k x0 x1 aU (wrap64 (aJ + 1))) else (some false)) else (none)) else (none)) else (none)) else (some true)
def qA4.f (k : Nat) (l0 : List Int) (l1 : List Int) : Option (Bool) := if (l0.length : Int) = (l1.length : Int) then (qA4.l0 k l0 l1 (l0.length : Int) 0) else (some false)
theorem qA4.calls (k : Nat) (A0 : Option Addr) (c0 : Nat) (l0 : List Int) (A1 : Option Addr) (c1 : Nat) (l1 : List Int) (r : Bool) (w : World) (hr0 : Kd.C (Kd.int .u8) w A0 l0.length l0) (hc0 : l0.length ≤ c0) (hr1 : Kd.C (Kd.int .u8) w A1 l1.length l1) (hc1 : l1.length ≤ c1) (h : qA4.f k l0 l1 = some r) :
  Calls Tryz.prog 65 #[.slice A0 l0.length c0, .slice A1 l1.length c1] w fun e w' => e = .returned (.bool r) ∧ qAW w w' := by
 have aS := am hr0
 clear hr0 hc0
 have aT := am hr1
 clear hr1 hc1
 have H : (if (l0.length : Int) = (l1.length : Int) then (qA4.l0 k l0 l1 (l0.length : Int) 0) else (some false)) = some r := h
 clear h
 by_cases c3 : (l0.length : Int) = (l1.length : Int)
 ·rw [if_pos c3] at H
  have aN : ((l0.length : Int) == (l1.length : Int)) = true := beq_iff_eq.mpr c3
  have aM : ((l0.length : Int) != (l1.length : Int)) = false := bn c3
  have aO : (l0.length == l1.length) = true := by (simp at c3 ⊢; omega)
  clear c3
  have H' := am H
  clear H
  go_enter Tryz.func65, Tryz.ntmps65
  go_wp2
  repeat (go_quiet (fail))
  go_loopg [13] k (fun kq aY w' => ∃ (aA : Int), aY = .int .i64 aA ∧ qAj (qA4.l0 kq l0 l1 (l0.length : Int) aA = some r) ∧ qAj (kq ≤ k) ∧ qAW w w')
  case atStart => exact ⟨(0), (by rfl), H', ⟨Nat.le_refl _⟩, by exact qAW.refl _⟩
  case round =>
   clear H'
   obtain ⟨aA, rfl, HA, aR, ⟨m1, rfl⟩⟩ := hrel
   cases gk with
   | zero => exact absurd HA.o (by simp [qA4.l0])
   | succ k1 =>
    have H := HA.o
    clear HA
    simp only [qA4.l0] at H
    by_cases c4 : aA < (l0.length : Int)
    rotate_left
    ·rw [if_neg c4] at H
     replace c4 := d0 c4
     obtain rfl := Option.some.inj H
     go_wp2
     repeat (go_quiet (fail))
     go_ret
     exact ⟨by rfl, by repeat (first | exact qAW.refl _ | apply qAW.step)⟩
    rw [if_pos c4] at H
    replace c4 := d1 c4
    obtain ⟨c5, H⟩ := gd H
    replace c5 := d1 c5
    obtain ⟨c6, H⟩ := gd H
    replace c6 := d1 c6
    obtain ⟨c7, H⟩ := gd H
    replace c7 := d1 c7
    by_cases c8 : (rd l0 aA) = (rd l1 aA)
    rotate_left
    ·rw [if_neg c8] at H
     have aQ : ((rd l0 aA) != (rd l1 aA)) = true := bne_iff_ne.mpr c8
     obtain rfl := Option.some.inj H
     have aB : 0 ≤ aA := od (by assumption)
     have aC : aA < (l0.length : Int) := od (by assumption)
     obtain ⟨aK, aG, aE⟩ := Kd.at_int aS.o aA aB aC
     cases aG
     replace aB := eq_true aB
     replace aC := eq_true aC
     have aI : 0 ≤ aA := od (by assumption)
     have aD : aA < (l1.length : Int) := od (by assumption)
     obtain ⟨aL, aH, aF⟩ := Kd.at_int aT.o aA aI aD
     cases aH
     replace aD := eq_true aD
     go_wp2
     repeat (go_quiet (fail); try go_wp2)
     go_ret
     exact ⟨by rfl, by repeat (first | exact qAW.refl _ | apply qAW.step)⟩
    rw [if_pos c8] at H
    have aQ : ((rd l0 aA) != (rd l1 aA)) = false := bn c8
    clear c8
    have H' := am H
    clear H
    have aB : 0 ≤ aA := od (by assumption)
    have aC : aA < (l0.length : Int) := od (by assumption)
    obtain ⟨aK, aG, aE⟩ := Kd.at_int aS.o aA aB aC
    cases aG
    replace aB := eq_true aB
    replace aC := eq_true aC
    have aI : 0 ≤ aA := od (by assumption)
    have aD : aA < (l1.length : Int) := od (by assumption)
    obtain ⟨aL, aH, aF⟩ := Kd.at_int aT.o aA aI aD
    cases aH
    replace aD := eq_true aD
    go_wp2
    repeat (go_quiet (fail); try go_wp2)
    go_roundg k1
    case measure => have := aR.o; omega
    case rel => exact ⟨(wrap64 (aA + 1)), (by rfl), H', ⟨by have := aR.o; omega⟩, by repeat (first | exact qAW.refl _ | apply qAW.step)⟩
 ·rw [if_neg c3] at H
  have aM : ((l0.length : Int) != (l1.length : Int)) = true := bne_iff_ne.mpr c3
  obtain rfl := Option.some.inj H
  go_enter Tryz.func65, Tryz.ntmps65
  go_wp2
  repeat (go_quiet (fail))
  go_ret
  exact ⟨by rfl, by exact qAW.refl _⟩
mutual
def qAg.l0 : Nat → List Int → List Int → Int → Int → List Int → Int → Int → Option (ByteArray × (List (S85)) × (List (S92)) × (List (S104)) × Int)
 | 0, _, _, _, _, _, _, _ => none
 | k + 1, x0, fz, g4, dt, aM, aZ, a1 => if dt < g4 then (if 0 ≤ dt then (if dt < (fz.length : Int) then ((qAu.f aM aZ a1).bind fun b6 => (if b6.1 = (rd fz dt) then (qAg.l0 k x0 fz g4 (wrap64 (dt + 1)) aM b6.2.1 b6.2.2) else ((qAG.f aM b6.2.1 b6.2.2 52).bind fun b7 => (qAg.l0 k x0 fz g4 (wrap64 (dt + 1)) aM b7.1 b7.2)))) else (none)) else (none)) else ((qA7.f aM aZ a1 32).bind fun cM => ((qAN.f aM cM.2.1 cM.2.2).bind fun bK => (qAg.l1 k x0 bK.1 aM bK.2.1 bK.2.2 cM.1 ([] : List (S85)))))
def qAg.l1 : Nat → List Int → Int → List Int → Int → Int → ByteArray → List (S85) → Option (ByteArray × (List (S85)) × (List (S92)) × (List (S104)) × Int)
 | 0, _, _, _, _, _, _, _ => none
 | k + 1, x0, x8, aM, aZ, a1, a4, a3 => if x8 > 0 then ((qAD.f aM aZ a1).bind fun cN => (qAg.j2 k x0 x8 (cN.1 == 0) aM cN.2.1 cN.2.2 a4 a3)) else (qAg.j2 k x0 x8 false aM aZ a1 a4 a3)
def qAg.j2 : Nat → List Int → Int → Bool → List Int → Int → Int → ByteArray → List (S85) → Option (ByteArray × (List (S85)) × (List (S92)) × (List (S104)) × Int)
 | 0, _, _, _, _, _, _, _, _ => none
 | k + 1, x0, x8, hI, aM, aZ, a1, a4, a3 => if hI = true then ((qA7.f aM aZ a1 32).bind fun bL => ((qAu.f aM bL.2.1 bL.2.2).bind fun bA => ((qAZ.f aM bA.2.1 bA.2.2).bind fun ao => (if a3.length < 4398046511104 then (qAg.l1 k x0 (wrap64 (x8 - 1)) aM ao.2.1 ao.2.2 a4 (a3 ++ [(⟨bL.1, (⟨wrap64 (bA.1), ao.1⟩ : S83)⟩ : S85)])) else (none))))) else ((qAN.f aM aZ a1).bind fun bM => (qAg.l2 k x0 bM.1 aM bM.2.1 bM.2.2 a4 a3 ([] : List (S92))))
def qAg.l2 : Nat → List Int → Int → List Int → Int → Int → ByteArray → List (S85) → List (S92) → Option (ByteArray × (List (S85)) × (List (S92)) × (List (S104)) × Int)
 | 0, _, _, _, _, _, _, _, _ => none
 | k + 1, x0, x9, aM, aZ, a1, a4, a3, a9 => if x9 > 0 then ((qAD.f aM aZ a1).bind fun cO => (qAg.j4 k x0 x9 (cO.1 == 0) aM cO.2.1 cO.2.2 a4 a3 a9)) else (qAg.j4 k x0 x9 false aM aZ a1 a4 a3 a9)
def qAg.j4 : Nat → List Int → Int → Bool → List Int → Int → Int → ByteArray → List (S85) → List (S92) → Option (ByteArray × (List (S85)) × (List (S92)) × (List (S104)) × Int)
 | 0, _, _, _, _, _, _, _, _, _ => none
 | k + 1, x0, x9, hJ, aM, aZ, a1, a4, a3, a9 => if hJ = true then ((qA7.f aM aZ a1 32).bind fun bN => ((qB0.f k aM bN.2.1 bN.2.2).bind fun ah => (if a9.length < 1466015503701 then (qAg.l2 k x0 (wrap64 (x9 - 1)) aM ah.2.2.2.2.1 ah.2.2.2.2.2 a4 a3 (a9 ++ [(⟨bN.1, (⟨(⟨ah.1, ah.2.1⟩ : S69), ah.2.2.1, ah.2.2.2.1⟩ : S90)⟩ : S92)])) else (none)))) else ((qAN.f aM aZ a1).bind fun bO => (qAg.l3 k x0 bO.1 aM bO.2.1 bO.2.2 a4 a3 a9 ([] : List (S104))))
def qAg.l3 : Nat → List Int → Int → List Int → Int → Int → ByteArray → List (S85) → List (S92) → List (S104) → Option (ByteArray × (List (S85)) × (List (S92)) × (List (S104)) × Int)
 | 0, _, _, _, _, _, _, _, _, _ => none
 | k + 1, x0, fg, aM, aZ, a1, a4, a3, a9, ay => if fg > 0 then ((qAD.f aM aZ a1).bind fun cP => (qAg.j6 k x0 fg (cP.1 == 0) aM cP.2.1 cP.2.2 a4 a3 a9 ay)) else (qAg.j6 k x0 fg false aM aZ a1 a4 a3 a9 ay)
def qAg.j6 : Nat → List Int → Int → Bool → List Int → Int → Int → ByteArray → List (S85) → List (S92) → List (S104) → Option (ByteArray × (List (S85)) × (List (S92)) × (List (S104)) × Int)
 | 0, _, _, _, _, _, _, _, _, _, _ => none
 | k + 1, x0, fg, hL, aM, aZ, a1, a4, a3, a9, ay => if hL = true then ((qAQ.f aM aZ a1).bind fun bP => ((qAQ.f aM bP.2.1 bP.2.2).bind fun bB => ((qAu.f aM bB.2.1 bB.2.2).bind fun ap => ((qA7.f aM ap.2.1 ap.2.2 32).bind fun ai => ((qA7.f aM ai.2.1 ai.2.2 32).bind fun a8 => (if ay.length < 2513169434916 then (qAg.l3 k x0 (wrap64 (fg - 1)) aM a8.2.1 a8.2.2 a4 a3 a9 (ay ++ [(⟨bP.1, bB.1, wrap64 (ap.1), ai.1, a8.1⟩ : S104)])) else (none))))))) else ((qAY.f aM aZ a1).bind fun cQ => (if cQ.1 = 0 then ((qBh.f a4 a3 a9 ay).bind fun bH => (if bH.2 = 0 then ((qA4.f k x0 bH.1).bind fun bW => (if bW = true then (some (a4, a3, a9, ay, 0)) else (some ((⟨#[]⟩ : ByteArray), ([] : List (S85)), ([] : List (S92)), ([] : List (S104)), 52)))) else (some ((⟨#[]⟩ : ByteArray), ([] : List (S85)), ([] : List (S92)), ([] : List (S104)), 52)))) else (some ((⟨#[]⟩ : ByteArray), ([] : List (S85)), ([] : List (S92)), ([] : List (S104)), 52))))
end
def qAg.f (k : Nat) (l0 : List Int) : Option (ByteArray × (List (S85)) × (List (S92)) × (List (S104)) × Int) := if (l0.length : Int) > 16384 then (some ((⟨#[]⟩ : ByteArray), ([] : List (S85)), ([] : List (S92)), ([] : List (S104)), 3)) else ((qCy.f l0).bind fun bJ => ((some (([102, 111, 98, 106] : List Int) : List Int)).bind fun aa => (qAg.l0 k l0 aa (aa.length : Int) 0 bJ.1 bJ.2.1 bJ.2.2)))
def qAg.T14 : Bool × List (List Nat × List Nat) := (true, [([], []), ([0], [0]), ([], []), ([2], [2]), ([], []), ([4, 3], [4]), ([5], [5]), ([], []), ([7, 5], [7]), ([6, 8], [6, 8]), ([3, 9], [3, 9]), ([10], [10]), ([1, 11, 8], [1, 11]), ([0, 1, 2, 3, 4, 5, 6, 7, 8, 9, 10, 11, 12], []), ([13, 12, 12, 0, 1, 2, 3, 4, 5, 6, 7, 8, 9, 10, 11, 12], [12, 13])])
def qAg.B14 : List Nat := [0, 1, 0, 4, 0, 28, 60, 0, 188, 508, 1020, 2044, 4095, 8191, 16383]
theorem qAg.tab14 : rtab .any (opsOf Tryz.f16 14) = qAg.T14 := by kernel_rfl
theorem qAg.bits14 : qCe qAg.T14.2 qAg.B14 = true := by kernel_rfl
def qAg.T18 : Bool × List (List Nat × List Nat) := (true, [([], []), ([0], [0]), ([], []), ([2], [2]), ([], []), ([4, 3], [4]), ([3, 5], [3, 5]), ([6], [6]), ([1, 7, 5], [1, 7]), ([0, 1, 2, 3, 4, 5, 6, 7, 8], []), ([9, 8, 8, 0, 1, 2, 3, 4, 5, 6, 7, 8], [8, 9])])
def qAg.B18 : List Nat := [0, 1, 0, 4, 0, 28, 60, 124, 255, 511, 1023]
theorem qAg.tab18 : rtab .any (opsOf Tryz.f16 18) = qAg.T18 := by kernel_rfl
theorem qAg.bits18 : qCe qAg.T18.2 qAg.B18 = true := by kernel_rfl
def qAg.T22 : Bool × List (List Nat × List Nat) := (true, [([], []), ([0], [0]), ([], []), ([2], [2]), ([], []), ([4, 3], [4]), ([], []), ([6, 5], [6]), ([7], [7]), ([], []), ([9, 7], [9]), ([], []), ([11, 10], [11]), ([3, 5, 8, 10, 12], [3, 5, 8, 10, 12]), ([13], [13]), ([1, 14, 12], [1, 14]), ([0, 1, 2, 3, 4, 5, 6, 7, 8, 9, 10, 11, 12, 13, 14, 15], []), ([16, 15, 15, 0, 1, 2, 3, 4, 5, 6, 7, 8, 9, 10, 11, 12, 13, 14, 15], [15, 16])])
def qAg.B22 : List Nat := [0, 1, 0, 4, 0, 28, 0, 124, 252, 0, 764, 0, 3836, 8188, 16380, 32767, 65535, 131071]
theorem qAg.tab22 : rtab .any (opsOf Tryz.f16 22) = qAg.T22 := by kernel_rfl
theorem qAg.bits22 : qCe qAg.T22.2 qAg.B22 = true := by kernel_rfl
theorem qAg.calls (k : Nat) (A0 : Option Addr) (c0 : Nat) (l0 : List Int) (r1 : ByteArray) (r2 : List (S85)) (r3 : List (S92)) (r4 : List (S104)) (r5 : Int) (w : World) (hr0 : Kd.C (Kd.int .u8) w A0 l0.length l0) (hc0 : l0.length ≤ c0) (h : qAg.f k l0 = some (r1, r2, r3, r4, r5)) :
  Calls Tryz.prog 16 #[.slice A0 l0.length c0] w fun e w' => ∃ v1_ v2_ v3_ : Value, e = .returned (.tuple #[.agg #[.string r1, v1_, v2_, v3_], .int .i64 r5]) ∧ Kd.R k85 85 w' w.heap.size (fun _ => True) v1_ r2 ∧ Kd.S k92 92 w' w.heap.size (fun _ => True) v2_ r3 ∧ Kd.R k104 104 w' w.heap.size (fun _ => True) v3_ r4 ∧ Below w.heap.size w w' := by
 have gE := am hr0
 have gD := am hc0
 clear hr0 hc0
 have HB := am (Below.refl w.heap.size w)
 have H : (if (l0.length : Int) > 16384 then (some ((⟨#[]⟩ : ByteArray), ([] : List (S85)), ([] : List (S92)), ([] : List (S104)), 3)) else ((qCy.f l0).bind fun bJ => ((some (([102, 111, 98, 106] : List Int) : List Int)).bind fun aa => (qAg.l0 k l0 aa (aa.length : Int) 0 bJ.1 bJ.2.1 bJ.2.2)))) = some (r1, r2, r3, r4, r5) := h
 clear h
 by_cases c2 : (l0.length : Int) > 16384
 ·rw [if_pos c2] at H
  have ea := d1 c2
  clear c2
  simp only [Option.some.injEq, Prod.mk.injEq] at H
  obtain ⟨rfl, rfl, rfl, rfl, rfl⟩ := H
  go_enter Tryz.func16, Tryz.ntmps16
  go_wp2_with ((with_reducible refine qAI (N := 2) rfl ?_); refine bx 2 #[.string ⟨#[]⟩, .slice none 0 0, .slice none 0 0, .slice none 0 0] 33 ?_; intro aR hg w3 hbox hb; have n_ := a2 (qAp HB.o hb) (a2 (hbox) (am (by rw [hg]; exact (qAs HB.o) : w.heap.size ≤ aR))); clear HB; obtain ⟨HB, aE, bX⟩ := n_; clear hb hbox hg; have gU : w3.cell? ⟨aR, 0, none⟩ = some (.string ⟨#[]⟩) := (qAa aE.o 0).trans rfl; have gV : w3.cell? ⟨aR, 1, none⟩ = some (.slice none 0 0) := (qAa aE.o 1).trans rfl; have gW : w3.cell? ⟨aR, 2, none⟩ = some (.slice none 0 0) := (qAa aE.o 2).trans rfl; have gX : w3.cell? ⟨aR, 3, none⟩ = some (.slice none 0 0) := (qAa aE.o 3).trans rfl; have gY := qAc aE.o 0; have gZ := qAc aE.o 1; have g0 := qAc aE.o 2; have g1 := qAc aE.o 3)
  refine bodyPost_ret (qCH rfl _ _ aR 33 #[.string ⟨#[]⟩, .slice none 0 0, .slice none 0 0, .slice none 0 0] (0, 0) _ rfl (by refine qA6 (cs := #[.string ⟨#[]⟩, .slice none 0 0, .slice none 0 0, .slice none 0 0]) ?_ 3 _ rfl; refine qA6 (cs := #[.string ⟨#[]⟩, .slice none 0 0, .slice none 0 0, .slice none 0 0]) ?_ 2 _ rfl; refine qA6 (cs := #[.string ⟨#[]⟩, .slice none 0 0, .slice none 0 0, .slice none 0 0]) ?_ 1 _ rfl; refine qA6 (cs := #[.string ⟨#[]⟩, .slice none 0 0, .slice none 0 0, .slice none 0 0]) ?_ 0 _ rfl; exact aE.o) Tryz.underlying33 rfl (by kernel_rfl)) rfl ?_
  exact ⟨_, _, _, by rfl, by (exact Kd.R_nil _ _ _ _ _), by (exact Kd.S_nil _ _ _ _ _), by (exact Kd.R_nil _ _ _ _ _), by repeat (with_reducible first | exact HB.o | refine qAb ?_ bX.o)⟩
 ·rw [if_neg c2] at H
  have ea := d0 c2
  have gF : decide (16384 < l0.length) = false := decide_eq_false (by omega)
  clear c2
  replace H := bm H
  obtain ⟨⟨aN, cl, cm⟩, g6, H⟩ := H
  replace H : ((some (([102, 111, 98, 106] : List Int) : List Int)).bind fun aa => (qAg.l0 k l0 aa (aa.length : Int) 0 aN cl cm)) = some (r1, r2, r3, r4, r5) := H
  have A5 := am g6
  clear g6
  obtain ⟨aa, cV⟩ : ∃ y_ : List Int, y_ = ([102, 111, 98, 106] : List Int) := ⟨_, rfl⟩
  replace H : (qAg.l0 k l0 aa (aa.length : Int) 0 aN cl cm) = some (r1, r2, r3, r4, r5) := by (have H2_ := (Option.bind_some _ _).symm.trans H; rw [cV]; with_reducible exact H2_)
  have dD := am cV
  clear cV
  have H' := am H
  clear H
  go_enter Tryz.func16, Tryz.ntmps16
  go_wp2_with (first | ((with_reducible refine qAI (N := 2) rfl ?_); refine bx 2 #[.string ⟨#[]⟩, .slice none 0 0, .slice none 0 0, .slice none 0 0] 33 ?_; intro aR hg w6 hbox hb; have n_ := a2 (qAp HB.o hb) (a2 (hbox) (am (by rw [hg]; exact (qAs HB.o) : w.heap.size ≤ aR))); clear HB; obtain ⟨HB, aE, bX⟩ := n_; clear hb hbox hg) | ((with_reducible refine qAv (f := 55) rfl ?_); refine gL 18 Tryz.func55 #[.slice A0 l0.length c0] ?_; (with_reducible refine (qCy.calls _ _ l0 aN cl cm w _ ?side1 ?side2 ?side3 A5.o).mono ?_); (case side1 => exact HB.o); (case side2 => exact gE.o); (case side3 => exact gD.o); rintro e w7 ⟨aY, rfl, hi, hb, hb2⟩; refine ⟨_, rfl, ?_⟩; have n_ := a2 (qAt aE.o hb2) (a2 (hb) (a2 (hi) (am (Ne.symm (qAo.ne_blk hi (qAt aE.o hb2) (by decide)))))); clear aE HB; obtain ⟨aE, HB, aG, aQ⟩ := n_) | ((with_reducible refine qAI (N := 19) rfl ?_); refine Kd.R_lit (Kd.int .u8) _ 5 ?hg (N := 19) ?hd (xs := ([102, 111, 98, 106] : List Int)) (inner := [.int .u8 102, .int .u8 111, .int .u8 98, .int .u8 106]) (ok := fun _ => True) (okp := fun _ => True) ?hr ?hp (fun _ hk => hk) trivial (Below.refl _ _) (Nat.le_refl _) (by simp) ?_; (case hd => rfl); (case hg => rfl); (case hr => (go_simp; done)); (case hp => exact (Reps.one (show Kd.M (Kd.int .u8) _ _ _ 102 [.int .u8 102] from rfl) (Reps.one (show Kd.M (Kd.int .u8) _ _ _ 111 [.int .u8 111] from rfl) (Reps.one (show Kd.M (Kd.int .u8) _ _ _ 98 [.int .u8 98] from rfl) (Reps.one (show Kd.M (Kd.int .u8) _ _ _ 106 [.int .u8 106] from rfl) (Reps.none _ _)))))); intro gx w8 fw hb hg_ hnew_; clear hg_ hnew_; (rw [← dD.o] at fw); obtain ⟨gB, gG, gI⟩ := Kd.R_slice fw; subst gI; have g8 := am fw; have HB9 := am hb; clear hb fw) | ((with_reducible refine qAI (N := 20) rfl ?_); refine mark_event rfl (.tmp 19) 38 5 rfl Tryz.underlying38 Tryz.underlying5 rfl g8.o HB9.o (by rw [dD.o]; decide) ?_; intro wm9 hmk hb; have n_ := a2 hmk (a2 (qAt aE.o hb) (a2 (qAo.below aG.o hb) (am (qAp HB.o hb)))); clear aE aG HB; obtain ⟨eZ, aE, aG, HB⟩ := n_; clear hb hmk; clear g8 HB9))
  go_loopg [22] k (fun kq gy w' => ∃ (a7 : Int) (al : Int) (an : Int), gy = .int .i64 a7 ∧ qAj (qAg.l0 kq l0 aa (aa.length : Int) a7 aN al an = some (r1, r2, r3, r4, r5)) ∧ qAj (kq ≤ k) ∧ qAj (MkR 5 w' (.slice gB aa.length gG) aa) ∧ qAj (w'.heap[aR]? = some (.cells #[.string ⟨#[]⟩, (.slice none 0 0), (.slice none 0 0), (.slice none 0 0)] 33 (0, 0))) ∧ qAj (qAo w w' aY aN al an) ∧ qAj (Below w.heap.size w w'))
  case atStart => exact ⟨(0), (cl), (cm), (by rfl), H', ⟨Nat.le_refl _⟩, ⟨by exact eZ.o⟩, ⟨by exact aE.o⟩, ⟨by exact aG.o⟩, ⟨by exact HB.o⟩⟩
  case round =>
   clear H'
   obtain ⟨a7, al, an, rfl, HA, bc, ag, aE, aG, HB⟩ := hrel
   cases gk with
   | zero => exact absurd HA.o (by simp [qAg.l0])
   | succ k1 =>
    have H := HA.o
    clear HA
    simp only [qAg.l0] at H
    by_cases dn : a7 < (aa.length : Int)
    ·rw [if_pos dn] at H
     replace dn := d1 dn
     obtain ⟨fj, H⟩ := gd H
     replace fj := d1 fj
     obtain ⟨fk, H⟩ := gd H
     replace fk := d1 fk
     replace H := bm H
     obtain ⟨⟨bz, cA, cB⟩, du, H⟩ := H
     replace H : (if bz = (rd aa a7) then (qAg.l0 k1 l0 aa (aa.length : Int) (wrap64 (a7 + 1)) aN cA cB) else ((qAG.f aN cA cB 52).bind fun b7 => (qAg.l0 k1 l0 aa (aa.length : Int) (wrap64 (a7 + 1)) aN b7.1 b7.2))) = some (r1, r2, r3, r4, r5) := H
     have g5 := am du
     clear du
     by_cases e7 : bz = (rd aa a7)
     ·rw [if_pos e7] at H
      have e8 : (bz != (rd aa a7)) = false := bn e7
      clear e7
      have H' := am H
      clear H
      have bd : 0 ≤ a7 := od (by assumption)
      have bg : a7 < (aa.length : Int) := od (by assumption)
      obtain ⟨e6, dK, ck⟩ := MkR.at_int ag.o a7 bd bg
      cases dK
      replace bd := eq_true bd
      replace bg := eq_true bg
      go_wp2_with ((with_reducible refine qAv (f := 56) rfl ?_); refine gL 27 Tryz.func56 #[.pointer (some ⟨aY, 0, none⟩)] ?_; (with_reducible refine (qAu.calls aY aN al an bz cA cB w _ ?side1 ?side2 g5.o).mono ?_); (case side1 => exact aG.o); (case side2 => exact HB.o); rintro e hM ⟨rfl, hi, hb, hk⟩; refine ⟨_, rfl, ?_⟩; have n_ := a2 (MkR.keepS ag.o hk aG.o (by decide)) (a2 (qAn.blk hk aE.o aQ.o (by simp)) (a2 (hb) (am (hi)))); clear ag aE HB aG; obtain ⟨ag, aE, HB, aG⟩ := n_)
      go_roundg k1
      case measure => have := bc.o; omega
      case rel => exact ⟨(wrap64 (a7 + 1)), (cA), (cB), (by rfl), H', ⟨by have := bc.o; omega⟩, ⟨by exact ag.o⟩, ⟨by exact aE.o⟩, ⟨by exact aG.o⟩, ⟨by exact HB.o⟩⟩
     rw [if_neg e7] at H
     have e8 : (bz != (rd aa a7)) = true := bne_iff_ne.mpr e7
     replace H := bm H
     obtain ⟨⟨dL, dM⟩, dv, H⟩ := H
     replace H : (qAg.l0 k1 l0 aa (aa.length : Int) (wrap64 (a7 + 1)) aN dL dM) = some (r1, r2, r3, r4, r5) := H
     have gb := am dv
     clear dv
     have H' := am H
     clear H
     have bd : 0 ≤ a7 := od (by assumption)
     have bg : a7 < (aa.length : Int) := od (by assumption)
     obtain ⟨e6, dK, ck⟩ := MkR.at_int ag.o a7 bd bg
     cases dK
     replace bd := eq_true bd
     replace bg := eq_true bg
     go_wp2_with (first | ((with_reducible refine qAv (f := 56) rfl ?_); refine gL 27 Tryz.func56 #[.pointer (some ⟨aY, 0, none⟩)] ?_; (with_reducible refine (qAu.calls aY aN al an bz cA cB w _ ?side1 ?side2 g5.o).mono ?_); (case side1 => exact aG.o); (case side2 => exact HB.o); rintro e hN ⟨rfl, hi, hb, hk⟩; refine ⟨_, rfl, ?_⟩; have n_ := a2 (MkR.keepS ag.o hk aG.o (by decide)) (a2 (qAn.blk hk aE.o aQ.o (by simp)) (a2 (hb) (am (hi)))); clear ag aE HB aG; obtain ⟨ag, aE, HB, aG⟩ := n_) | ((with_reducible refine qAv (f := 57) rfl ?_); refine gL 31 Tryz.func57 #[.pointer (some ⟨aY, 0, none⟩), .int .i64 52] ?_; (with_reducible refine (qAG.calls aY aN cA cB 52 dL dM w _ ?side1 ?side2 gb.o).mono ?_); (case side1 => exact aG.o); (case side2 => exact HB.o); rintro e hO ⟨rfl, hi, hb, hk⟩; refine ⟨_, rfl, ?_⟩; have n_ := a2 (MkR.keepS ag.o hk aG.o (by decide)) (a2 (qAn.blk hk aE.o aQ.o (by simp)) (a2 (hb) (am (hi)))); clear ag aE HB aG; obtain ⟨ag, aE, HB, aG⟩ := n_))
     go_roundg k1
     case measure => have := bc.o; omega
     case rel => exact ⟨(wrap64 (a7 + 1)), (dL), (dM), (by rfl), H', ⟨by have := bc.o; omega⟩, ⟨by exact ag.o⟩, ⟨by exact aE.o⟩, ⟨by exact aG.o⟩, ⟨by exact HB.o⟩⟩
    rw [if_neg dn] at H
    replace dn := d0 dn
    replace H := bm H
    obtain ⟨⟨aU, dN, dO⟩, dw, H⟩ := H
    replace H : ((qAN.f aN dN dO).bind fun bK => (qAg.l1 k1 l0 bK.1 aN bK.2.1 bK.2.2 aU ([] : List (S85)))) = some (r1, r2, r3, r4, r5) := H
    have gc := am dw
    clear dw
    replace H := bm H
    obtain ⟨⟨dP, dQ, dR⟩, dx, H⟩ := H
    replace H : (qAg.l1 k1 l0 dP aN dQ dR aU ([] : List (S85))) = some (r1, r2, r3, r4, r5) := H
    have gf := am dx
    clear dx
    have H' := am H
    clear H
    go_wp2_with (first | ((with_reducible refine qAv (f := 58) rfl ?_); refine gL 34 Tryz.func58 #[.pointer (some ⟨aY, 0, none⟩), .int .i64 32] ?_; (with_reducible refine (qA7.calls aY aN al an 32 aU dN dO w _ ?side1 ?side2 gc.o).mono ?_); (case side1 => exact aG.o); (case side2 => exact HB.o); rintro e hP ⟨rfl, hi, hb, hk⟩; refine ⟨_, rfl, ?_⟩; have n_ := a2 (MkR.keepS ag.o hk aG.o (by decide)) (a2 (qAn.blk hk aE.o aQ.o (by simp)) (a2 (hb) (am (hi)))); clear ag aE HB aG; obtain ⟨ag, aE, HB, aG⟩ := n_) | ((with_reducible refine qAI (N := 7) rfl ?_); refine bx 7 #[.string ⟨#[]⟩, .slice none 0 0, .slice none 0 0, .slice none 0 0] 33 ?_; intro aT hg fx hbox hb; have n_ := a2 (MkR.below ag.o hb) (a2 (qAt aE.o hb) (a2 (qAo.below aG.o hb) (a2 (qAp HB.o hb) (a2 (hbox) (a2 (by rw [hg]; exact (qAs HB.o) : w.heap.size ≤ aT) (a2 (by rw [hg]; exact Nat.ne_of_lt (qAM aE.o) : aR ≠ aT) (a2 (by rw [hg]; exact Nat.ne_of_lt (qAo.lt aG.o) : aY ≠ aT) (am (by rw [hg]; exact Nat.ne_of_gt (qAo.lt aG.o) : aT ≠ aY))))))))); clear ag aE aG HB; obtain ⟨ag, aE, aG, HB, aC, bq, aj, bC, aV⟩ := n_; clear hb hbox hg; have cc : fx.cell? ⟨aT, 0, none⟩ = some (.string ⟨#[]⟩) := (qAa aC.o 0).trans rfl; have cd : fx.cell? ⟨aT, 1, none⟩ = some (.slice none 0 0) := (qAa aC.o 1).trans rfl; have ce : fx.cell? ⟨aT, 2, none⟩ = some (.slice none 0 0) := (qAa aC.o 2).trans rfl; have cf : fx.cell? ⟨aT, 3, none⟩ = some (.slice none 0 0) := (qAa aC.o 3).trans rfl; have cg := qAc aC.o 0; have ch := qAc aC.o 1; have ci := qAc aC.o 2; have cj := qAc aC.o 3) | ((with_reducible refine qAv (f := 59) rfl ?_); refine gL 37 Tryz.func59 #[.pointer (some ⟨aY, 0, none⟩)] ?_; (with_reducible refine (qAN.calls aY aN dN dO dP dQ dR w _ ?side1 ?side2 gf.o).mono ?_); (case side1 => repeat (with_reducible first | exact aG.o | refine qAo.far ?_ bC.o (by (with_reducible repeat (apply TyB.set)); exact TyB.of aC.o) (by decide) _)); (case side2 => repeat (with_reducible first | exact HB.o | refine qAb ?_ bq.o)); rintro e hQ ⟨rfl, hi, hb, hk⟩; refine ⟨_, rfl, ?_⟩; have n_ := a2 (qAn.blk hk (g' := aR) (o := .cells #[.string ⟨#[]⟩, .slice none 0 0, .slice none 0 0, .slice none 0 0] 33 (0, 0)) (by refine qA1 ?_ aj.o _; refine qA1 ?_ aj.o _; refine qA1 ?_ aj.o _; refine qA1 ?_ aj.o _; exact aE.o) aQ.o (by simp)) (a2 (qAn.blk hk (g' := aT) (o := .cells #[.string aU, .slice none 0 0, .slice none 0 0, .slice none 0 0] 33 (0, 0)) (by refine qA6 (cs := #[.string aU, .slice none 0 0, .slice none 0 0, .slice none 0 0]) ?_ 3 _ rfl; refine qA6 (cs := #[.string aU, .slice none 0 0, .slice none 0 0, .slice none 0 0]) ?_ 2 _ rfl; refine qA6 (cs := #[.string aU, .slice none 0 0, .slice none 0 0, .slice none 0 0]) ?_ 1 _ rfl; refine qA6 (cs := #[.string ⟨#[]⟩, .slice none 0 0, .slice none 0 0, .slice none 0 0]) ?_ 0 _ rfl; exact aC.o) aV.o (by simp)) (a2 (hb) (am (hi)))); clear ag aE aC HB aG; obtain ⟨aE, aC, HB, aG⟩ := n_))
    go_loopg [8] k1 (fun kq v8 w' => ∃ (bE : Int) (aq : Int) (av : Int) (aH : List (S85)) (aW : Value), v8 = .int .i64 bE ∧ qAj (qAg.l1 kq l0 bE aN aq av aU aH = some (r1, r2, r3, r4, r5)) ∧ qAj (kq ≤ k1) ∧ qAj (Kd.R k85 85 w' w.heap.size (fun _ => True) aW aH) ∧ qAj (w'.heap[aR]? = some (.cells #[.string ⟨#[]⟩, (.slice none 0 0), (.slice none 0 0), (.slice none 0 0)] 33 (0, 0))) ∧ qAj (w'.heap[aT]? = some (.cells #[.string aU, aW, (.slice none 0 0), (.slice none 0 0)] 33 (0, 0))) ∧ qAj (qAo w w' aY aN aq av) ∧ qAj (Below w.heap.size w w'))
    case atStart => exact ⟨(dP), (dQ), (dR), ([] : List (S85)), (.slice none 0 0), (by rfl), H', ⟨Nat.le_refl _⟩, ⟨by (exact Kd.R_nil _ _ _ _ _)⟩, ⟨by exact aE.o⟩, ⟨by exact aC.o⟩, ⟨by exact aG.o⟩, ⟨by exact HB.o⟩⟩
    case round =>
     clear H'
     obtain ⟨bE, aq, av, aH, aW, rfl, HA, cI, aA, aE, aC, aG, HB⟩ := hrel
     cases gk with
     | zero => exact absurd HA.o (by simp [qAg.l1])
     | succ k2 =>
      have H := HA.o
      clear HA
      simp only [qAg.l1] at H
      have dG := am H
      clear H
      go_upto_region 12 with (fail)
      go_cut [44] (fun hF wc => ∃ (kq : Nat) (b2 : Bool) (ac : Int) (ae : Int), hF = .bool b2 ∧ qAj (qAg.j2 kq l0 bE b2 aN ac ae aU aH = some (r1, r2, r3, r4, r5)) ∧ qAj (kq ≤ k2) ∧ qAj (Kd.R k85 85 wc w.heap.size (fun _ => True) aW aH) ∧ qAj (wc.heap[aR]? = some (.cells #[.string ⟨#[]⟩, (.slice none 0 0), (.slice none 0 0), (.slice none 0 0)] 33 (0, 0))) ∧ qAj (wc.heap[aT]? = some (.cells #[.string aU, aW, (.slice none 0 0), (.slice none 0 0)] 33 (0, 0))) ∧ qAj (qAo w wc aY aN ac ae) ∧ qAj (Below w.heap.size w wc))
      case first =>
       have H := dG.o
       clear dG
       by_cases dp : bE > 0
       rotate_left
       ·rw [if_neg dp] at H
        replace dp := d0 dp
        (skip)
        have H' := am H
        clear H
        go_wp2
        go_meet
        case rel => exact ⟨_, (false), (aq), (av), (by rfl), H', ⟨by have := bc.o; have := cI.o; (omega)⟩, ⟨by exact aA.o⟩, ⟨by exact aE.o⟩, ⟨by exact aC.o⟩, ⟨by exact aG.o⟩, ⟨by exact HB.o⟩⟩
       rw [if_pos dp] at H
       replace dp := d1 dp
       (skip)
       replace H := bm H
       obtain ⟨⟨dS, dT, dU⟩, dy, H⟩ := H
       replace H : (qAg.j2 k2 l0 bE (dS == 0) aN dT dU aU aH) = some (r1, r2, r3, r4, r5) := H
       have gg := am dy
       clear dy
       have H' := am H
       clear H
       go_wp2_with (go_at_call 60; (with_reducible refine (qAD.calls aY aN aq av dS dT dU w _ ?side1 ?side2 gg.o).mono ?_); (case side1 => exact aG.o); (case side2 => exact HB.o); rintro e hR ⟨rfl, hi, hb, hk⟩; have n_ := a2 (Kd.R_kp (qAo.apart aG.o aA.o (by decide)) hk) (a2 (qAn.blk hk aE.o aQ.o (by simp)) (a2 (qAn.blk hk aC.o aV.o (by simp)) (a2 (hb) (am (hi))))); clear aA aE aC HB aG; obtain ⟨aA, aE, aC, HB, aG⟩ := n_)
       go_meet
       case rel => exact ⟨_, (dS == 0), (dT), (dU), (by rfl), H', ⟨by have := bc.o; have := cI.o; (omega)⟩, ⟨by exact aA.o⟩, ⟨by exact aE.o⟩, ⟨by exact aC.o⟩, ⟨by exact aG.o⟩, ⟨by exact HB.o⟩⟩
      case rest =>
       clear dG
       obtain ⟨kq, b2, ac, ae, rfl, HA, bR, aA, aE, aC, aG, HB⟩ := hcut
       cases kq with
       | zero => exact absurd HA.o (by simp [qAg.j2])
       | succ bT =>
        have H := HA.o
        clear HA
        simp only [qAg.j2] at H
        by_cases fl : b2 = true
        ·subst fl
         replace H : ((qA7.f aN ac ae 32).bind fun bL => ((qAu.f aN bL.2.1 bL.2.2).bind fun bA => ((qAZ.f aN bA.2.1 bA.2.2).bind fun ao => (if aH.length < 4398046511104 then (qAg.l1 bT l0 (wrap64 (bE - 1)) aN ao.2.1 ao.2.2 aU (aH ++ [(⟨bL.1, (⟨wrap64 (bA.1), ao.1⟩ : S83)⟩ : S85)])) else (none))))) = some (r1, r2, r3, r4, r5) := by rw [if_pos rfl] at H; exact H
         replace H := bm H
         obtain ⟨⟨b9, dV, dW⟩, dz, H⟩ := H
         replace H : ((qAu.f aN dV dW).bind fun bA => ((qAZ.f aN bA.2.1 bA.2.2).bind fun ao => (if aH.length < 4398046511104 then (qAg.l1 bT l0 (wrap64 (bE - 1)) aN ao.2.1 ao.2.2 aU (aH ++ [(⟨b9, (⟨wrap64 (bA.1), ao.1⟩ : S83)⟩ : S85)])) else (none)))) = some (r1, r2, r3, r4, r5) := H
         have gh := am dz
         clear dz
         replace H := bm H
         obtain ⟨⟨bh, dX, dY⟩, eA, H⟩ := H
         replace H : ((qAZ.f aN dX dY).bind fun ao => (if aH.length < 4398046511104 then (qAg.l1 bT l0 (wrap64 (bE - 1)) aN ao.2.1 ao.2.2 aU (aH ++ [(⟨b9, (⟨wrap64 (bh), ao.1⟩ : S83)⟩ : S85)])) else (none))) = some (r1, r2, r3, r4, r5) := H
         have gi := am eA
         clear eA
         replace H := bm H
         obtain ⟨⟨cC, cn, co⟩, eB, H⟩ := H
         replace H : (if aH.length < 4398046511104 then (qAg.l1 bT l0 (wrap64 (bE - 1)) aN cn co aU (aH ++ [(⟨b9, (⟨wrap64 (bh), cC⟩ : S83)⟩ : S85)])) else (none)) = some (r1, r2, r3, r4, r5) := H
         have gj := am eB
         clear eB
         obtain ⟨fm, H⟩ := gd H
         have e0 := am fm
         clear fm
         obtain ⟨cy, cW⟩ : ∃ y_ : List (S85), y_ = (aH ++ [(⟨b9, (⟨wrap64 (bh), cC⟩ : S83)⟩ : S85)]) := ⟨_, rfl⟩
         replace H : (qAg.l1 bT l0 (wrap64 (bE - 1)) aN cn co aU cy) = some (r1, r2, r3, r4, r5) := by (rw [cW]; with_reducible exact H)
         have e3 := am cW
         clear cW
         have H' := am H
         clear H
         try go_wp2
         have n_ := a2 (Kd.R_drew aA.o) (a2 (qAh aE.o) (a2 (qAh aC.o) (a2 (qAo.drew aG.o) (am (qAk HB.o)))))
         clear aA aE aC aG HB
         obtain ⟨aA, aE, aC, aG, HB⟩ := n_
         refine qDz (n := 15) (S := fun w' => w'.cell? ⟨aT, 0, none⟩ = some (.string aU) ∧ w'.cell? ⟨aT, 1, none⟩ = some (aW) ∧ w'.cell? ⟨aT, 2, none⟩ = some (.slice none 0 0) ∧ w'.cell? ⟨aT, 3, none⟩ = some (.slice none 0 0)) (ds := [14]) #[false, false, false, false, false, false, false, false, false, false, false, false, false, false, false] (by kernel_rfl) rfl rfl ⟨(qAa aC.o 0).trans rfl, (qAa aC.o 1).trans rfl, (qAa aC.o 2).trans rfl, (qAa aC.o 3).trans rfl⟩ (fun hHeld => ?_); refine qBM qAg.tab14 qAg.bits14 (fun HT_ HW_ => ?_)
         generalize wc.drew = hS at aA aE aC aG HB hHeld ⊢
         refine pu 0 47 #[true, false, false, false, false, false, false, false, false, false, false, false, false, false, false] (qAK HT_.o (by kernel_rfl)) ?_
         refine pu 2 49 #[true, false, true, false, false, false, false, false, false, false, false, false, false, false, false] (qAK HT_.o (by kernel_rfl)) ?_
         refine pu 4 51 #[true, false, true, false, true, false, false, false, false, false, false, false, false, false, false] (qAK HT_.o (by kernel_rfl)) ?_
         refine pu 7 54 #[true, false, true, false, true, false, false, true, false, false, false, false, false, false, false] (qAK HT_.o (by kernel_rfl)) ?_
         refine qBR (i := 1) (N := some 48) (v := ?_) (a' := ?_) #[true, true, true, false, true, false, false, true, false, false, false, false, false, false, false] rfl rfl (qBg HT_.o HW_.o (by kernel_rfl)) (fun _ _ _ h => h) (Or.inl ⟨by rfl, ?_⟩) hHeld ?_ ?_
         rotate_left
         ·rintro w' ⟨s0, s1, s2, s3⟩
          go_simp
          with_reducible rfl
         rotate_left
         ·simp only [Act.put, List.setIfInBounds_toArray, List.set_cons_zero, List.set_cons_succ]
          rfl
         refine one_ (i := 3) (N := some 50) #[true, true, true, true, true, false, false, true, false, false, false, false, false, false, false] rfl rfl (qBq HT_.o (by kernel_rfl)) (by decide) (fun K hK => ?_)
         refine qCP Tryz.func58 (by kernel_rfl) rfl #[.pointer (some ⟨aY, 0, none⟩), .int .i64 32] (by rfl) rfl rfl (by (try simp only [List.map_toArray, List.map_cons, List.map_nil]); (rfl)) ?_
         with_reducible refine (qA7.calls aY aN ac ae 32 b9 dV dW w _ ?side1 ?side2 gh.o).mono ?_
         (case side1 => exact aG.o)
         (case side2 => exact HB.o)
         rintro e hT ⟨rfl, hi, hb, hk⟩
         refine ⟨_, rfl, ?_⟩
         have n_ := a2 (Kd.R_kp (qAo.apart aG.o aA.o (by decide)) hk) (a2 (qAn.blk hk aE.o aQ.o (by simp)) (a2 (qAn.blk hk aC.o aV.o (by simp)) (a2 (hb) (am (hi)))))
         clear aA aE aC HB aG
         obtain ⟨aA, aE, aC, HB, aG⟩ := n_
         (try clear hb)
         (skip)
         (try clear hk)
         (try clear hi)
         refine hK.o _ _ ⟨(qAa aC.o 0).trans rfl, (qAa aC.o 1).trans rfl, (qAa aC.o 2).trans rfl, (qAa aC.o 3).trans rfl⟩ (fun hHeld => ?_)
         clear hK K
         refine qBc (a' := ?_) ?_ ?_
         rotate_left
         ·show Act.put _ (some 50) _ = _
          simp only [Act.put, List.setIfInBounds_toArray, List.set_cons_zero, List.set_cons_succ]
          rfl
         refine one_ (i := 5) (N := some 52) #[true, true, true, true, true, true, false, true, false, false, false, false, false, false, false] rfl rfl (qBq HT_.o (by kernel_rfl)) (by decide) (fun K hK => ?_)
         refine qCP Tryz.func56 (by kernel_rfl) rfl #[.pointer (some ⟨aY, 0, none⟩)] (by rfl) rfl rfl (by (try simp only [List.map_toArray, List.map_cons, List.map_nil]); (rfl)) ?_
         with_reducible refine (qAu.calls aY aN dV dW bh dX dY w _ ?side1 ?side2 gi.o).mono ?_
         (case side1 => exact aG.o)
         (case side2 => exact HB.o)
         rintro e hU ⟨rfl, hi, hb, hk⟩
         refine ⟨_, rfl, ?_⟩
         have n_ := a2 (Kd.R_kp (qAo.apart aG.o aA.o (by decide)) hk) (a2 (qAn.blk hk aE.o aQ.o (by simp)) (a2 (qAn.blk hk aC.o aV.o (by simp)) (a2 (hb) (am (hi)))))
         clear aA aE aC HB aG
         obtain ⟨aA, aE, aC, HB, aG⟩ := n_
         (try clear hb)
         (skip)
         (try clear hk)
         (try clear hi)
         refine hK.o _ _ ⟨(qAa aC.o 0).trans rfl, (qAa aC.o 1).trans rfl, (qAa aC.o 2).trans rfl, (qAa aC.o 3).trans rfl⟩ (fun hHeld => ?_)
         clear hK K
         refine qBc (a' := ?_) ?_ ?_
         rotate_left
         ·show Act.put _ (some 52) _ = _
          simp only [Act.put, List.setIfInBounds_toArray, List.set_cons_zero, List.set_cons_succ]
          rfl
         refine qBv (i := 6) (N := some 53) (v := ?_) (a' := ?_) #[true, true, true, true, true, true, true, true, false, false, false, false, false, false, false] rfl rfl (qAK HT_.o (by kernel_rfl)) (fun _ _ _ h => h) (Or.inl ⟨by rfl, ?_⟩) ?_ ?_
         rotate_left
         ·intro w'
          go_simp
          with_reducible rfl
         rotate_left
         ·simp only [Act.put, List.setIfInBounds_toArray, List.set_cons_zero, List.set_cons_succ, qAR]
          rfl
         refine one_ (i := 8) (N := some 55) #[true, true, true, true, true, true, true, true, true, false, false, false, false, false, false] rfl rfl (qBq HT_.o (by kernel_rfl)) (by decide) (fun K hK => ?_)
         refine qCP Tryz.func61 (by kernel_rfl) rfl #[.pointer (some ⟨aY, 0, none⟩)] (by rfl) rfl rfl (by (try simp only [List.map_toArray, List.map_cons, List.map_nil]); (rfl)) ?_
         with_reducible refine (qAZ.calls aY aN dX dY cC cn co w _ ?side1 ?side2 gj.o).mono ?_
         (case side1 => exact aG.o)
         (case side2 => exact HB.o)
         rintro e hV ⟨rfl, hi, hb, hk⟩
         refine ⟨_, rfl, ?_⟩
         have n_ := a2 (Kd.R_kp (qAo.apart aG.o aA.o (by decide)) hk) (a2 (qAn.blk hk aE.o aQ.o (by simp)) (a2 (qAn.blk hk aC.o aV.o (by simp)) (a2 (hb) (am (hi)))))
         clear aA aE aC HB aG
         obtain ⟨aA, aE, aC, HB, aG⟩ := n_
         (try clear hb)
         (skip)
         (try clear hk)
         (try clear hi)
         refine hK.o _ _ ⟨(qAa aC.o 0).trans rfl, (qAa aC.o 1).trans rfl, (qAa aC.o 2).trans rfl, (qAa aC.o 3).trans rfl⟩ (fun hHeld => ?_)
         clear hK K
         refine qBc (a' := ?_) ?_ ?_
         rotate_left
         ·show Act.put _ (some 55) _ = _
          simp only [Act.put, List.setIfInBounds_toArray, List.set_cons_zero, List.set_cons_succ]
          rfl
         refine pu 9 56 #[true, true, true, true, true, true, true, true, true, true, false, false, false, false, false] (qAK HT_.o (by kernel_rfl)) ?_
         refine pu 10 57 #[true, true, true, true, true, true, true, true, true, true, true, false, false, false, false] (qAK HT_.o (by kernel_rfl)) ?_
         refine one_ (i := 11) (N := some 58) #[true, true, true, true, true, true, true, true, true, true, true, true, false, false, false] rfl rfl (qBq HT_.o (by kernel_rfl)) (by decide) (fun K hK => ?_)
         refine value_ (w1 := ?_) (v := ?_) (by rfl) rfl ?_ ?_
         rotate_left 2
         ·go_simp
          constructor
          ·rfl
          rfl
         refine hK.o _ _ ⟨(qAa (qAe aC.o _) 0).trans rfl, (qAa (qAe aC.o _) 1).trans rfl, (qAa (qAe aC.o _) 2).trans rfl, (qAa (qAe aC.o _) 3).trans rfl⟩ (fun hHeld => ?_)
         clear hK K
         refine qBc (a' := ?_) ?_ ?_
         rotate_left
         ·show Act.put _ (some 58) _ = _
          simp only [Act.put, List.setIfInBounds_toArray, List.set_cons_zero, List.set_cons_succ]
          rfl
         refine one_ (i := 12) (N := some 59) #[true, true, true, true, true, true, true, true, true, true, true, true, true, false, false] rfl rfl (qBq HT_.o (by kernel_rfl)) (by decide) (fun K hK => ?_)
         refine Kd.R_append_step k85 (w0 := w) w.heap.size (by rfl) (.tmp 48) (.tmp 58) 29 85 (.agg #[(.string ⟨#[]⟩), (.int .i64 0), (.int .u64 0)]) 32 rfl Tryz.underlying29 info85 rfl (by decide) (by omega) aW aH (⟨b9, (⟨wrap64 (bh), cC⟩ : S83)⟩ : S85) [.string b9, .int .i64 (wrap64 (bh)), .int .u64 cC] (fun _ => True) (fun _ => False) rfl rfl ?aP (fun _ hk => hk.elim) ?aF ?aO ?aB ?aS ?aL ?_
         (case aP => exact k85_mkM _ _ _ (⟨b9, (⟨wrap64 (bh), cC⟩ : S83)⟩ : S85))
         (case aB => exact HB.o)
         (case aF => exact (fun _ _ => trivial))
         (case aO => exact aA.o)
         (case aS => exact (qAs HB.o))
         (case aL => have := e0.o; omega)
         intro gz hW ho hb hg ew
         rw [← e3.o] at ho
         have n_ := a2 (qAP (g := aR) (o := .cells #[.string ⟨#[]⟩, .slice none 0 0, .slice none 0 0, .slice none 0 0] 33 (0, 0)) aE.o hg (Kd.R_ne aA.o aE.o (by decide))) (a2 (qAP (g := aT) (o := .cells #[.string aU, aW, .slice none 0 0, .slice none 0 0] 33 (0, 0)) aC.o hg (Kd.R_ne aA.o aC.o (by decide))) (a2 (qAo.grownR aG.o hg aG.o aA.o (by decide) (fun b_ t_ h_ => h_)) (a2 (hb) (am (ho)))))
         clear aE aC aG HB aA
         obtain ⟨aE, aC, aG, HB, dA⟩ := n_
         clear ho hb hg ew
         obtain ⟨eU, el, gJ⟩ := Kd.R_slice dA.o
         (subst gJ)
         refine hK.o _ _ ⟨(qAa aC.o 0).trans rfl, (qAa aC.o 1).trans rfl, (qAa aC.o 2).trans rfl, (qAa aC.o 3).trans rfl⟩ (fun hHeld => ?_)
         clear hK K
         refine qBc (a' := ?_) ?_ ?_
         rotate_left
         ·show Act.put _ (some 59) _ = _
          simp only [Act.put, List.setIfInBounds_toArray, List.set_cons_zero, List.set_cons_succ]
          rfl
         refine pu 13 60 #[true, true, true, true, true, true, true, true, true, true, true, true, true, true, false] (qAK HT_.o (by kernel_rfl)) ?_
         refine last_ (i := 14) (N := none) #[true, true, true, true, true, true, true, true, true, true, true, true, true, true, true] rfl rfl (qBq HT_.o (by kernel_rfl)) (by decide) (fun K hK => ?_)
         have hfs43 := qAc aC.o 1
         refine skip_ (w1 := ?_) (by rfl) rfl ?_ ?_
         rotate_left
         ·go_simp
          rfl
         refine hK.o _ _ ?_
         clear hK K
         refine done_ (qC8 HT_.o (by kernel_rfl)) ?_
         try go_wp2
         go_roundg bT
         case measure => have := bc.o; have := cI.o; have := bR.o; omega
         case rel => exact ⟨(wrap64 (bE - 1)), (cn), (co), (cy), (.slice eU cy.length el), (by rfl), H', ⟨by have := bc.o; have := cI.o; have := bR.o; omega⟩, ⟨by exact Kd.R_mono (Kd.R_far (p := ⟨aT, 1, none⟩) (Kd.R_types dA.o aC.o (by decide)) (fun _ hk => hk.2) (.slice eU cy.length el)) (fun _ hk => trivial)⟩, ⟨by refine qA1 ?_ aj.o _; exact aE.o⟩, ⟨by refine qA6 (cs := #[.string aU, aW, .slice none 0 0, .slice none 0 0]) ?_ 1 _ rfl; exact aC.o⟩, ⟨by repeat (with_reducible first | exact aG.o | refine qAo.far ?_ bC.o (by exact TyB.of aC.o) (by decide) _)⟩, ⟨by repeat (with_reducible first | exact HB.o | refine qAb ?_ bq.o)⟩⟩
        replace fl := Bool.eq_false_iff.mpr fl
        subst fl
        replace H : ((qAN.f aN ac ae).bind fun bM => (qAg.l2 bT l0 bM.1 aN bM.2.1 bM.2.2 aU aH ([] : List (S92)))) = some (r1, r2, r3, r4, r5) := by rw [if_neg (show ¬ (false = true) by decide)] at H; exact H
        replace H := bm H
        obtain ⟨⟨dZ, d2, d3⟩, eC, H⟩ := H
        replace H : (qAg.l2 bT l0 dZ aN d2 d3 aU aH ([] : List (S92))) = some (r1, r2, r3, r4, r5) := H
        have gl := am eC
        clear eC
        have H' := am H
        clear H
        go_wp2_with ((with_reducible refine qAv (f := 59) rfl ?_); refine gL 62 Tryz.func59 #[.pointer (some ⟨aY, 0, none⟩)] ?_; (with_reducible refine (qAN.calls aY aN ac ae dZ d2 d3 w _ ?side1 ?side2 gl.o).mono ?_); (case side1 => exact aG.o); (case side2 => exact HB.o); rintro e hX ⟨rfl, hi, hb, hk⟩; refine ⟨_, rfl, ?_⟩; have n_ := a2 (Kd.R_kp (qAo.apart aG.o aA.o (by decide)) hk) (a2 (qAn.blk hk aE.o aQ.o (by simp)) (a2 (qAn.blk hk aC.o aV.o (by simp)) (a2 (hb) (am (hi))))); clear aA aE aC HB aG; obtain ⟨aA, aE, aC, HB, aG⟩ := n_)
        go_loopg [9] bT (fun kq v9 w' => ∃ (bG : Int) (ar : Int) (aw : Int) (aJ : List (S92)) (aX : Value), v9 = .int .i64 bG ∧ qAj (qAg.l2 kq l0 bG aN ar aw aU aH aJ = some (r1, r2, r3, r4, r5)) ∧ qAj (kq ≤ bT) ∧ qAj (Kd.R k85 85 w' w.heap.size (fun _ => True) aW aH) ∧ qAj (Kd.S k92 92 w' w.heap.size (fun _ => True) aX aJ) ∧ qAj (w'.heap[aR]? = some (.cells #[.string ⟨#[]⟩, (.slice none 0 0), (.slice none 0 0), (.slice none 0 0)] 33 (0, 0))) ∧ qAj (w'.heap[aT]? = some (.cells #[.string aU, aW, aX, (.slice none 0 0)] 33 (0, 0))) ∧ qAj (qAo w w' aY aN ar aw) ∧ qAj (Below w.heap.size w w'))
        case atStart => exact ⟨(dZ), (d2), (d3), ([] : List (S92)), (.slice none 0 0), (by rfl), H', ⟨Nat.le_refl _⟩, ⟨by exact aA.o⟩, ⟨by (exact Kd.S_nil _ _ _ _ _)⟩, ⟨by exact aE.o⟩, ⟨by exact aC.o⟩, ⟨by exact aG.o⟩, ⟨by exact HB.o⟩⟩
        case round =>
         clear H'
         obtain ⟨bG, ar, aw, aJ, aX, rfl, HA, cz, aA, aD, aE, aC, aG, HB⟩ := hrel
         cases gk with
         | zero => exact absurd HA.o (by simp [qAg.l2])
         | succ k4 =>
          have H := HA.o
          clear HA
          simp only [qAg.l2] at H
          have dH := am H
          clear H
          go_upto_region 16 with (fail)
          go_cut [69] (fun hG wc => ∃ (kq : Nat) (b3 : Bool) (ad : Int) (af : Int), hG = .bool b3 ∧ qAj (qAg.j4 kq l0 bG b3 aN ad af aU aH aJ = some (r1, r2, r3, r4, r5)) ∧ qAj (kq ≤ k4) ∧ qAj (Kd.R k85 85 wc w.heap.size (fun _ => True) aW aH) ∧ qAj (Kd.S k92 92 wc w.heap.size (fun _ => True) aX aJ) ∧ qAj (wc.heap[aR]? = some (.cells #[.string ⟨#[]⟩, (.slice none 0 0), (.slice none 0 0), (.slice none 0 0)] 33 (0, 0))) ∧ qAj (wc.heap[aT]? = some (.cells #[.string aU, aW, aX, (.slice none 0 0)] 33 (0, 0))) ∧ qAj (qAo w wc aY aN ad af) ∧ qAj (Below w.heap.size w wc))
          case first =>
           have H := dH.o
           clear dH
           by_cases dq : bG > 0
           rotate_left
           ·rw [if_neg dq] at H
            replace dq := d0 dq
            (skip)
            have H' := am H
            clear H
            go_wp2
            go_meet
            case rel => exact ⟨_, (false), (ar), (aw), (by rfl), H', ⟨by have := bc.o; have := cI.o; have := bR.o; have := cz.o; (omega)⟩, ⟨by exact aA.o⟩, ⟨by exact aD.o⟩, ⟨by exact aE.o⟩, ⟨by exact aC.o⟩, ⟨by exact aG.o⟩, ⟨by exact HB.o⟩⟩
           rw [if_pos dq] at H
           replace dq := d1 dq
           (skip)
           replace H := bm H
           obtain ⟨⟨d4, d5, d6⟩, eD, H⟩ := H
           replace H : (qAg.j4 k4 l0 bG (d4 == 0) aN d5 d6 aU aH aJ) = some (r1, r2, r3, r4, r5) := H
           have gm := am eD
           clear eD
           have H' := am H
           clear H
           go_wp2_with (go_at_call 60; (with_reducible refine (qAD.calls aY aN ar aw d4 d5 d6 w _ ?side1 ?side2 gm.o).mono ?_); (case side1 => exact aG.o); (case side2 => exact HB.o); rintro e hY ⟨rfl, hi, hb, hk⟩; have n_ := a2 (Kd.R_kp (qAo.apart aG.o aA.o (by decide)) hk) (a2 (Kd.S_mono (Kd.S_keep (qAo.apartS aG.o aD.o (by decide)) hk (fun _ h => h.2)) (fun _ h => h.1)) (a2 (qAn.blk hk aE.o aQ.o (by simp)) (a2 (qAn.blk hk aC.o aV.o (by simp)) (a2 (hb) (am (hi)))))); clear aA aD aE aC HB aG; obtain ⟨aA, aD, aE, aC, HB, aG⟩ := n_)
           go_meet
           case rel => exact ⟨_, (d4 == 0), (d5), (d6), (by rfl), H', ⟨by have := bc.o; have := cI.o; have := bR.o; have := cz.o; (omega)⟩, ⟨by exact aA.o⟩, ⟨by exact aD.o⟩, ⟨by exact aE.o⟩, ⟨by exact aC.o⟩, ⟨by exact aG.o⟩, ⟨by exact HB.o⟩⟩
          case rest =>
           clear dH
           obtain ⟨kq, b3, ad, af, rfl, HA, bw, aA, aD, aE, aC, aG, HB⟩ := hcut
           cases kq with
           | zero => exact absurd HA.o (by simp [qAg.j4])
           | succ bI =>
            have H := HA.o
            clear HA
            simp only [qAg.j4] at H
            by_cases fn : b3 = true
            ·subst fn
             replace H : ((qA7.f aN ad af 32).bind fun bN => ((qB0.f bI aN bN.2.1 bN.2.2).bind fun ah => (if aJ.length < 1466015503701 then (qAg.l2 bI l0 (wrap64 (bG - 1)) aN ah.2.2.2.2.1 ah.2.2.2.2.2 aU aH (aJ ++ [(⟨bN.1, (⟨(⟨ah.1, ah.2.1⟩ : S69), ah.2.2.1, ah.2.2.2.1⟩ : S90)⟩ : S92)])) else (none)))) = some (r1, r2, r3, r4, r5) := by rw [if_pos rfl] at H; exact H
             replace H := bm H
             obtain ⟨⟨bi, d7, d8⟩, eE, H⟩ := H
             replace H : ((qB0.f bI aN d7 d8).bind fun ah => (if aJ.length < 1466015503701 then (qAg.l2 bI l0 (wrap64 (bG - 1)) aN ah.2.2.2.2.1 ah.2.2.2.2.2 aU aH (aJ ++ [(⟨bi, (⟨(⟨ah.1, ah.2.1⟩ : S69), ah.2.2.1, ah.2.2.2.1⟩ : S90)⟩ : S92)])) else (none))) = some (r1, r2, r3, r4, r5) := H
             have gn := am eE
             clear eE
             replace H := bm H
             obtain ⟨⟨bj, cD, bk, bl, cp, cq⟩, eF, H⟩ := H
             replace H : (if aJ.length < 1466015503701 then (qAg.l2 bI l0 (wrap64 (bG - 1)) aN cp cq aU aH (aJ ++ [(⟨bi, (⟨(⟨bj, cD⟩ : S69), bk, bl⟩ : S90)⟩ : S92)])) else (none)) = some (r1, r2, r3, r4, r5) := H
             have go := am eF
             clear eF
             obtain ⟨fo, H⟩ := gd H
             have e1 := am fo
             clear fo
             obtain ⟨cZ, cX⟩ : ∃ y_ : List (S92), y_ = (aJ ++ [(⟨bi, (⟨(⟨bj, cD⟩ : S69), bk, bl⟩ : S90)⟩ : S92)]) := ⟨_, rfl⟩
             replace H : (qAg.l2 bI l0 (wrap64 (bG - 1)) aN cp cq aU aH cZ) = some (r1, r2, r3, r4, r5) := by (rw [cX]; with_reducible exact H)
             have e4 := am cX
             clear cX
             have H' := am H
             clear H
             try go_wp2
             have n_ := a2 (Kd.R_drew aA.o) (a2 (Kd.S_drew aD.o) (a2 (qAh aE.o) (a2 (qAh aC.o) (a2 (qAo.drew aG.o) (am (qAk HB.o))))))
             clear aA aD aE aC aG HB
             obtain ⟨aA, aD, aE, aC, aG, HB⟩ := n_
             refine qDz (n := 11) (S := fun w' => w'.cell? ⟨aT, 0, none⟩ = some (.string aU) ∧ w'.cell? ⟨aT, 1, none⟩ = some (aW) ∧ w'.cell? ⟨aT, 2, none⟩ = some (aX) ∧ w'.cell? ⟨aT, 3, none⟩ = some (.slice none 0 0)) (ds := [10]) #[false, false, false, false, false, false, false, false, false, false, false] (by kernel_rfl) rfl rfl ⟨(qAa aC.o 0).trans rfl, (qAa aC.o 1).trans rfl, (qAa aC.o 2).trans rfl, (qAa aC.o 3).trans rfl⟩ (fun hHeld => ?_); refine qBM qAg.tab18 qAg.bits18 (fun HT_ HW_ => ?_)
             generalize wc.drew = hZ at aA aD aE aC aG HB hHeld ⊢
             refine pu 0 72 #[true, false, false, false, false, false, false, false, false, false, false] (qAK HT_.o (by kernel_rfl)) ?_
             refine pu 2 74 #[true, false, true, false, false, false, false, false, false, false, false] (qAK HT_.o (by kernel_rfl)) ?_
             refine pu 4 76 #[true, false, true, false, true, false, false, false, false, false, false] (qAK HT_.o (by kernel_rfl)) ?_
             refine qBR (i := 1) (N := some 73) (v := ?_) (a' := ?_) #[true, true, true, false, true, false, false, false, false, false, false] rfl rfl (qBg HT_.o HW_.o (by kernel_rfl)) (fun _ _ _ h => h) (Or.inl ⟨by rfl, ?_⟩) hHeld ?_ ?_
             rotate_left
             ·rintro w' ⟨s0, s1, s2, s3⟩
              go_simp
              with_reducible rfl
             rotate_left
             ·simp only [Act.put, List.setIfInBounds_toArray, List.set_cons_zero, List.set_cons_succ]
              rfl
             refine one_ (i := 3) (N := some 75) #[true, true, true, true, true, false, false, false, false, false, false] rfl rfl (qBq HT_.o (by kernel_rfl)) (by decide) (fun K hK => ?_)
             refine qCP Tryz.func58 (by kernel_rfl) rfl #[.pointer (some ⟨aY, 0, none⟩), .int .i64 32] (by rfl) rfl rfl (by (try simp only [List.map_toArray, List.map_cons, List.map_nil]); (rfl)) ?_
             with_reducible refine (qA7.calls aY aN ad af 32 bi d7 d8 w _ ?side1 ?side2 gn.o).mono ?_
             (case side1 => exact aG.o)
             (case side2 => exact HB.o)
             rintro e h0 ⟨rfl, hi, hb, hk⟩
             refine ⟨_, rfl, ?_⟩
             have n_ := a2 (Kd.R_kp (qAo.apart aG.o aA.o (by decide)) hk) (a2 (Kd.S_mono (Kd.S_keep (qAo.apartS aG.o aD.o (by decide)) hk (fun _ h => h.2)) (fun _ h => h.1)) (a2 (qAn.blk hk aE.o aQ.o (by simp)) (a2 (qAn.blk hk aC.o aV.o (by simp)) (a2 (hb) (am (hi))))))
             clear aA aD aE aC HB aG
             obtain ⟨aA, aD, aE, aC, HB, aG⟩ := n_
             (try clear hb)
             (skip)
             (try clear hk)
             (try clear hi)
             refine hK.o _ _ ⟨(qAa aC.o 0).trans rfl, (qAa aC.o 1).trans rfl, (qAa aC.o 2).trans rfl, (qAa aC.o 3).trans rfl⟩ (fun hHeld => ?_)
             clear hK K
             refine qBc (a' := ?_) ?_ ?_
             rotate_left
             ·show Act.put _ (some 75) _ = _
              simp only [Act.put, List.setIfInBounds_toArray, List.set_cons_zero, List.set_cons_succ]
              rfl
             refine one_ (i := 5) (N := some 77) #[true, true, true, true, true, true, false, false, false, false, false] rfl rfl (qBq HT_.o (by kernel_rfl)) (by decide) (fun K hK => ?_)
             refine qCP Tryz.func62 (by kernel_rfl) rfl #[.pointer (some ⟨aY, 0, none⟩)] (by rfl) rfl rfl (by (try simp only [List.map_toArray, List.map_cons, List.map_nil]); (rfl)) ?_
             with_reducible refine (qB0.calls bI aY aN d7 d8 bj cD bk bl cp cq w _ ?side1 ?side2 go.o).mono ?_
             (case side1 => exact aG.o)
             (case side2 => exact HB.o)
             rintro e h1 ⟨hA, hB, hC, rfl, cU, g2, g3, hi, hb, hk⟩
             refine ⟨_, rfl, ?_⟩
             have n_ := a2 (Kd.R_kp (qAo.apart aG.o aA.o (by decide)) hk) (a2 (Kd.S_mono (Kd.S_told (Kd.S_told (Kd.S_told (Kd.S_oldK (qAo.apartS aG.o aD.o (by decide)) hk) (Kd.R_base cU)) (Kd.R_base g2)) (Kd.R_base g3)) (fun _ h_ => h_.1)) (a2 (qAn.blk hk aE.o aQ.o (by simp)) (a2 (qAn.blk hk aC.o aV.o (by simp)) (a2 (Kd.R_lower cU (qAs HB.o)) (a2 (Kd.R_lower g2 (qAs HB.o)) (a2 (Kd.R_lower g3 (qAs HB.o)) (a2 (hb) (am (hi)))))))))
             clear aA aD aE aC HB aG
             obtain ⟨aA, aD, aE, aC, br, bs, bu, HB, aG⟩ := n_
             (try clear hb)
             (skip)
             (try clear hk)
             (try clear hi)
             (try clear cU)
             (try clear g2)
             (try clear g3)
             obtain ⟨eV, em, gK⟩ := Kd.R_slice bu.o
             (subst gK)
             obtain ⟨eW, en, gM⟩ := Kd.R_slice bs.o
             (subst gM)
             obtain ⟨eX, eo, gN⟩ := Kd.R_slice br.o
             (subst gN)
             refine hK.o _ _ ⟨(qAa aC.o 0).trans rfl, (qAa aC.o 1).trans rfl, (qAa aC.o 2).trans rfl, (qAa aC.o 3).trans rfl⟩ (fun hHeld => ?_)
             clear hK K
             refine qBc (a' := ?_) ?_ ?_
             rotate_left
             ·show Act.put _ (some 77) _ = _
              simp only [Act.put, List.setIfInBounds_toArray, List.set_cons_zero, List.set_cons_succ]
              rfl
             refine pu 6 78 #[true, true, true, true, true, true, true, false, false, false, false] (qAK HT_.o (by kernel_rfl)) ?_
             refine one_ (i := 7) (N := some 79) #[true, true, true, true, true, true, true, true, false, false, false] rfl rfl (qBq HT_.o (by kernel_rfl)) (by decide) (fun K hK => ?_)
             refine value_ (w1 := ?_) (v := ?_) (by rfl) rfl ?_ ?_
             rotate_left 2
             ·go_simp
              constructor
              ·rfl
              rfl
             refine hK.o _ _ ⟨(qAa (qAe aC.o _) 0).trans rfl, (qAa (qAe aC.o _) 1).trans rfl, (qAa (qAe aC.o _) 2).trans rfl, (qAa (qAe aC.o _) 3).trans rfl⟩ (fun hHeld => ?_)
             clear hK K
             refine qBc (a' := ?_) ?_ ?_
             rotate_left
             ·show Act.put _ (some 79) _ = _
              simp only [Act.put, List.setIfInBounds_toArray, List.set_cons_zero, List.set_cons_succ]
              rfl
             refine one_ (i := 8) (N := some 80) #[true, true, true, true, true, true, true, true, true, false, false] rfl rfl (qBq HT_.o (by kernel_rfl)) (by decide) (fun K hK => ?_)
             refine Kd.S_append_step k92 (w0 := w) w.heap.size (by rfl) (.tmp 73) (.tmp 79) 30 92 (.agg #[(.string ⟨#[]⟩), (.slice none 0 0), (.int .i64 0), (.slice none 0 0), (.slice none 0 0)]) 96 rfl Tryz.underlying30 info92 rfl (by decide) (by omega) aX aJ (⟨bi, (⟨(⟨bj, cD⟩ : S69), bk, bl⟩ : S90)⟩ : S92) [.string bi, .slice eX bj.length eo, .int .i64 cD, .slice eW bk.length en, .slice eV bl.length em] (fun _ => True) (fun k_ => some k_ = (.slice eX bj.length eo : Value).ownBlock ∨ some k_ = (.slice eW bk.length en : Value).ownBlock ∨ some k_ = (.slice eV bl.length em : Value).ownBlock) rfl rfl ?aP (fun k_ hk_ => hk_.elim (fun h_ => (Kd.R_mono (ok' := fun k_ => (fun _ => True) k_ ∧ some k_ ≠ (aX : Value).ownBlock) (Kd.R_apart' br.o (Kd.S_typed aD.o) (by decide)) (fun k_ hk => ⟨trivial, hk.2⟩)).1 k_ h_.symm) (fun h_ => h_.elim (fun h_ => (Kd.R_mono (ok' := fun k_ => (fun _ => True) k_ ∧ some k_ ≠ (aX : Value).ownBlock) (Kd.R_apart' bs.o (Kd.S_typed aD.o) (by decide)) (fun k_ hk => ⟨trivial, hk.2⟩)).1 k_ h_.symm) (fun h_ => (Kd.R_mono (ok' := fun k_ => (fun _ => True) k_ ∧ some k_ ≠ (aX : Value).ownBlock) (Kd.R_apart' bu.o (Kd.S_typed aD.o) (by decide)) (fun k_ hk => ⟨trivial, hk.2⟩)).1 k_ h_.symm))) ?aF ?aO ?aB ?aS ?aL ?_
             (case aP => exact k92_mkM _ _ _ (⟨bi, (⟨(⟨bj, cD⟩ : S69), bk, bl⟩ : S90)⟩ : S92) (Kd.R_mono (Kd.R_tight rfl (Kd.R_mono (ok' := fun k_ => (fun _ => True) k_ ∧ some k_ ≠ (aX : Value).ownBlock) (Kd.R_apart' br.o (Kd.S_typed aD.o) (by decide)) (fun k_ hk => ⟨trivial, hk.2⟩))) (fun _ h_ => Or.inl h_)) (Kd.R_mono (Kd.R_tight rfl (Kd.R_mono (ok' := fun k_ => (fun _ => True) k_ ∧ some k_ ≠ (aX : Value).ownBlock) (Kd.R_apart' bs.o (Kd.S_typed aD.o) (by decide)) (fun k_ hk => ⟨trivial, hk.2⟩))) (fun _ h_ => Or.inr (Or.inl h_))) (Kd.R_mono (Kd.R_tight rfl (Kd.R_mono (ok' := fun k_ => (fun _ => True) k_ ∧ some k_ ≠ (aX : Value).ownBlock) (Kd.R_apart' bu.o (Kd.S_typed aD.o) (by decide)) (fun k_ hk => ⟨trivial, hk.2⟩))) (fun _ h_ => Or.inr (Or.inr (h_)))))
             (case aB => exact HB.o)
             (case aF => exact (fun _ _ => trivial))
             (case aO => exact (by exact Kd.S_mono aD.o (fun k_ hk => ⟨trivial, fun e_ => e_.elim (fun h_ => hk.1.1.2 h_) (fun h_ => h_.elim (fun h_ => hk.1.2 h_) (fun h_ => hk.2 h_))⟩)))
             (case aS => exact (qAs HB.o))
             (case aL => have := e1.o; omega)
             intro hD h2 ho hb hg ew
             rw [← e4.o] at ho
             have n_ := a2 (Kd.R_over' aA.o (Kd.S_typed aD.o) (by decide) hg) (a2 (qAP (g := aR) (o := .cells #[.string ⟨#[]⟩, .slice none 0 0, .slice none 0 0, .slice none 0 0] 33 (0, 0)) aE.o hg (Kd.S_ne aD.o aE.o (by decide))) (a2 (qAP (g := aT) (o := .cells #[.string aU, aW, aX, .slice none 0 0] 33 (0, 0)) aC.o hg (Kd.S_ne aD.o aC.o (by decide))) (a2 (qAo.grownRS aG.o hg aG.o aD.o (by decide) (fun b_ t_ h_ => h_)) (a2 (hb) (am (ho))))))
             clear aA aE aC aG HB aD br bs bu
             obtain ⟨aA, aE, aC, aG, HB, dB⟩ := n_
             clear ho hb hg ew
             obtain ⟨dF, dJ, gO⟩ := Kd.S_slice dB.o
             (subst gO)
             refine hK.o _ _ ⟨(qAa aC.o 0).trans rfl, (qAa aC.o 1).trans rfl, (qAa aC.o 2).trans rfl, (qAa aC.o 3).trans rfl⟩ (fun hHeld => ?_)
             clear hK K
             refine qBc (a' := ?_) ?_ ?_
             rotate_left
             ·show Act.put _ (some 80) _ = _
              simp only [Act.put, List.setIfInBounds_toArray, List.set_cons_zero, List.set_cons_succ]
              rfl
             refine pu 9 81 #[true, true, true, true, true, true, true, true, true, true, false] (qAK HT_.o (by kernel_rfl)) ?_
             refine last_ (i := 10) (N := none) #[true, true, true, true, true, true, true, true, true, true, true] rfl rfl (qBq HT_.o (by kernel_rfl)) (by decide) (fun K hK => ?_)
             have hfs62 := qAc aC.o 2
             refine skip_ (w1 := ?_) (by rfl) rfl ?_ ?_
             rotate_left
             ·go_simp
              rfl
             refine hK.o _ _ ?_
             clear hK K
             refine done_ (qC8 HT_.o (by kernel_rfl)) ?_
             try go_wp2
             go_roundg bI
             case measure => have := bc.o; have := cI.o; have := bR.o; have := cz.o; have := bw.o; omega
             case rel => exact ⟨(wrap64 (bG - 1)), (cp), (cq), (cZ), (.slice dF cZ.length dJ), (by rfl), H', ⟨by have := bc.o; have := cI.o; have := bR.o; have := cz.o; have := bw.o; omega⟩, ⟨by exact Kd.R_mono (Kd.R_far (p := ⟨aT, 2, none⟩) (Kd.R_types aA.o aC.o (by decide)) (fun _ hk => hk.2) (.slice dF cZ.length dJ)) (fun _ hk => trivial)⟩, ⟨by exact Kd.S_mono (Kd.S_far (p := ⟨aT, 2, none⟩) (Kd.S_types dB.o aC.o (by decide)) (fun _ hk => hk.2) (.slice dF cZ.length dJ)) (fun _ hk => trivial)⟩, ⟨by refine qA1 ?_ aj.o _; exact aE.o⟩, ⟨by refine qA6 (cs := #[.string aU, aW, aX, .slice none 0 0]) ?_ 2 _ rfl; exact aC.o⟩, ⟨by repeat (with_reducible first | exact aG.o | refine qAo.far ?_ bC.o (by exact TyB.of aC.o) (by decide) _)⟩, ⟨by repeat (with_reducible first | exact HB.o | refine qAb ?_ bq.o)⟩⟩
            replace fn := Bool.eq_false_iff.mpr fn
            subst fn
            replace H : ((qAN.f aN ad af).bind fun bO => (qAg.l3 bI l0 bO.1 aN bO.2.1 bO.2.2 aU aH aJ ([] : List (S104)))) = some (r1, r2, r3, r4, r5) := by rw [if_neg (show ¬ (false = true) by decide)] at H; exact H
            replace H := bm H
            obtain ⟨⟨d9, da, db⟩, eG, H⟩ := H
            replace H : (qAg.l3 bI l0 d9 aN da db aU aH aJ ([] : List (S104))) = some (r1, r2, r3, r4, r5) := H
            have gp := am eG
            clear eG
            have H' := am H
            clear H
            go_wp2_with ((with_reducible refine qAv (f := 59) rfl ?_); refine gL 83 Tryz.func59 #[.pointer (some ⟨aY, 0, none⟩)] ?_; (with_reducible refine (qAN.calls aY aN ad af d9 da db w _ ?side1 ?side2 gp.o).mono ?_); (case side1 => exact aG.o); (case side2 => exact HB.o); rintro e h3 ⟨rfl, hi, hb, hk⟩; refine ⟨_, rfl, ?_⟩; have n_ := a2 (Kd.R_kp (qAo.apart aG.o aA.o (by decide)) hk) (a2 (Kd.S_mono (Kd.S_keep (qAo.apartS aG.o aD.o (by decide)) hk (fun _ h => h.2)) (fun _ h => h.1)) (a2 (qAn.blk hk aE.o aQ.o (by simp)) (a2 (qAn.blk hk aC.o aV.o (by simp)) (a2 (hb) (am (hi)))))); clear aA aD aE aC HB aG; obtain ⟨aA, aD, aE, aC, HB, aG⟩ := n_)
            go_loopg [10] bI (fun kq gw w' => ∃ (ak : Int) (au : Int) (ax : Int) (aK : List (S104)) (ab : Value), gw = .int .i64 ak ∧ qAj (qAg.l3 kq l0 ak aN au ax aU aH aJ aK = some (r1, r2, r3, r4, r5)) ∧ qAj (kq ≤ bI) ∧ qAj (Kd.R k85 85 w' w.heap.size (fun _ => True) aW aH) ∧ qAj (Kd.S k92 92 w' w.heap.size (fun _ => True) aX aJ) ∧ qAj (Kd.R k104 104 w' w.heap.size (fun _ => True) ab aK) ∧ qAj (w'.heap[aR]? = some (.cells #[.string ⟨#[]⟩, (.slice none 0 0), (.slice none 0 0), (.slice none 0 0)] 33 (0, 0))) ∧ qAj (w'.heap[aT]? = some (.cells #[.string aU, aW, aX, ab] 33 (0, 0))) ∧ qAj (qAo w w' aY aN au ax) ∧ qAj (Below w.heap.size w w'))
            case atStart => exact ⟨(d9), (da), (db), ([] : List (S104)), (.slice none 0 0), (by rfl), H', ⟨Nat.le_refl _⟩, ⟨by exact aA.o⟩, ⟨by exact aD.o⟩, ⟨by (exact Kd.R_nil _ _ _ _ _)⟩, ⟨by exact aE.o⟩, ⟨by exact aC.o⟩, ⟨by exact aG.o⟩, ⟨by exact HB.o⟩⟩
            case round =>
             clear H'
             obtain ⟨ak, au, ax, aK, ab, rfl, HA, fi, aA, aD, aI, aE, aC, aG, HB⟩ := hrel
             cases gk with
             | zero => exact absurd HA.o (by simp [qAg.l3])
             | succ k6 =>
              have H := HA.o
              clear HA
              simp only [qAg.l3] at H
              have dI := am H
              clear H
              go_upto_region 20 with (fail)
              go_cut [90] (fun hH wc => ∃ (kq : Nat) (b4 : Bool) (a5 : Int) (a6 : Int), hH = .bool b4 ∧ qAj (qAg.j6 kq l0 ak b4 aN a5 a6 aU aH aJ aK = some (r1, r2, r3, r4, r5)) ∧ qAj (kq ≤ k6) ∧ qAj (Kd.R k85 85 wc w.heap.size (fun _ => True) aW aH) ∧ qAj (Kd.S k92 92 wc w.heap.size (fun _ => True) aX aJ) ∧ qAj (Kd.R k104 104 wc w.heap.size (fun _ => True) ab aK) ∧ qAj (wc.heap[aR]? = some (.cells #[.string ⟨#[]⟩, (.slice none 0 0), (.slice none 0 0), (.slice none 0 0)] 33 (0, 0))) ∧ qAj (wc.heap[aT]? = some (.cells #[.string aU, aW, aX, ab] 33 (0, 0))) ∧ qAj (qAo w wc aY aN a5 a6) ∧ qAj (Below w.heap.size w wc))
              case first =>
               have H := dI.o
               clear dI
               by_cases dr : ak > 0
               rotate_left
               ·rw [if_neg dr] at H
                replace dr := d0 dr
                (skip)
                have H' := am H
                clear H
                go_wp2
                go_meet
                case rel => exact ⟨_, (false), (au), (ax), (by rfl), H', ⟨by have := bc.o; have := cI.o; have := bR.o; have := cz.o; have := bw.o; have := fi.o; (omega)⟩, ⟨by exact aA.o⟩, ⟨by exact aD.o⟩, ⟨by exact aI.o⟩, ⟨by exact aE.o⟩, ⟨by exact aC.o⟩, ⟨by exact aG.o⟩, ⟨by exact HB.o⟩⟩
               rw [if_pos dr] at H
               replace dr := d1 dr
               (skip)
               replace H := bm H
               obtain ⟨⟨dc, dd, de⟩, eH, H⟩ := H
               replace H : (qAg.j6 k6 l0 ak (dc == 0) aN dd de aU aH aJ aK) = some (r1, r2, r3, r4, r5) := H
               have gq := am eH
               clear eH
               have H' := am H
               clear H
               go_wp2_with (go_at_call 60; (with_reducible refine (qAD.calls aY aN au ax dc dd de w _ ?side1 ?side2 gq.o).mono ?_); (case side1 => exact aG.o); (case side2 => exact HB.o); rintro e h4 ⟨rfl, hi, hb, hk⟩; have n_ := a2 (Kd.R_kp (qAo.apart aG.o aA.o (by decide)) hk) (a2 (Kd.S_mono (Kd.S_keep (qAo.apartS aG.o aD.o (by decide)) hk (fun _ h => h.2)) (fun _ h => h.1)) (a2 (Kd.R_kp (qAo.apart aG.o aI.o (by decide)) hk) (a2 (qAn.blk hk aE.o aQ.o (by simp)) (a2 (qAn.blk hk aC.o aV.o (by simp)) (a2 (hb) (am (hi))))))); clear aA aD aI aE aC HB aG; obtain ⟨aA, aD, aI, aE, aC, HB, aG⟩ := n_)
               go_meet
               case rel => exact ⟨_, (dc == 0), (dd), (de), (by rfl), H', ⟨by have := bc.o; have := cI.o; have := bR.o; have := cz.o; have := bw.o; have := fi.o; (omega)⟩, ⟨by exact aA.o⟩, ⟨by exact aD.o⟩, ⟨by exact aI.o⟩, ⟨by exact aE.o⟩, ⟨by exact aC.o⟩, ⟨by exact aG.o⟩, ⟨by exact HB.o⟩⟩
              case rest =>
               clear dI
               obtain ⟨kq, b4, a5, a6, rfl, HA, eY, aA, aD, aI, aE, aC, aG, HB⟩ := hcut
               cases kq with
               | zero => exact absurd HA.o (by simp [qAg.j6])
               | succ bF =>
                have H := HA.o
                clear HA
                simp only [qAg.j6] at H
                by_cases fp : b4 = true
                rotate_left
                ·replace fp := Bool.eq_false_iff.mpr fp
                 subst fp
                 replace H : ((qAY.f aN a5 a6).bind fun cQ => (if cQ.1 = 0 then ((qBh.f aU aH aJ aK).bind fun bH => (if bH.2 = 0 then ((qA4.f bF l0 bH.1).bind fun bW => (if bW = true then (some (aU, aH, aJ, aK, 0)) else (some ((⟨#[]⟩ : ByteArray), ([] : List (S85)), ([] : List (S92)), ([] : List (S104)), 52)))) else (some ((⟨#[]⟩ : ByteArray), ([] : List (S85)), ([] : List (S92)), ([] : List (S104)), 52)))) else (some ((⟨#[]⟩ : ByteArray), ([] : List (S85)), ([] : List (S92)), ([] : List (S104)), 52)))) = some (r1, r2, r3, r4, r5) := by rw [if_neg (show ¬ (false = true) by decide)] at H; exact H
                 replace H := bm H
                 obtain ⟨⟨bb, cF, cG⟩, eN, H⟩ := H
                 replace H : (if bb = 0 then ((qBh.f aU aH aJ aK).bind fun bH => (if bH.2 = 0 then ((qA4.f bF l0 bH.1).bind fun bW => (if bW = true then (some (aU, aH, aJ, aK, 0)) else (some ((⟨#[]⟩ : ByteArray), ([] : List (S85)), ([] : List (S92)), ([] : List (S104)), 52)))) else (some ((⟨#[]⟩ : ByteArray), ([] : List (S85)), ([] : List (S92)), ([] : List (S104)), 52)))) else (some ((⟨#[]⟩ : ByteArray), ([] : List (S85)), ([] : List (S92)), ([] : List (S104)), 52))) = some (r1, r2, r3, r4, r5) := H
                 have fh := am eN
                 clear eN
                 by_cases ed : bb = 0
                 rotate_left
                 ·rw [if_neg ed] at H
                  have ee : (bb != 0) = true := bne_iff_ne.mpr ed
                  simp only [Option.some.injEq, Prod.mk.injEq] at H
                  obtain ⟨rfl, rfl, rfl, rfl, rfl⟩ := H
                  go_wp2_with ((with_reducible refine qAv (f := 64) rfl ?_); refine gL 111 Tryz.func64 #[.pointer (some ⟨aY, 0, none⟩)] ?_; (with_reducible refine (qAY.calls aY aN a5 a6 bb cF cG w _ ?side1 ?side2 fh.o).mono ?_); (case side1 => exact aG.o); (case side2 => exact HB.o); rintro e cx ⟨rfl, hi, hb, hk⟩; refine ⟨_, rfl, ?_⟩; have n_ := a2 (qAn.blk hk aE.o aQ.o (by simp)) (am (hb)); clear aA aD aI aE aC HB aG; obtain ⟨aE, HB⟩ := n_; have fV : cx.cell? ⟨aR, 0, none⟩ = some (.string ⟨#[]⟩) := (qAa aE.o 0).trans rfl; have fW : cx.cell? ⟨aR, 1, none⟩ = some (.slice none 0 0) := (qAa aE.o 1).trans rfl; have fX : cx.cell? ⟨aR, 2, none⟩ = some (.slice none 0 0) := (qAa aE.o 2).trans rfl; have fY : cx.cell? ⟨aR, 3, none⟩ = some (.slice none 0 0) := (qAa aE.o 3).trans rfl; have fb := qAc aE.o 0; have fc := qAc aE.o 1; have fd := qAc aE.o 2; have fe := qAc aE.o 3)
                  refine bodyPost_ret (qCH rfl _ _ aR 33 #[.string ⟨#[]⟩, .slice none 0 0, .slice none 0 0, .slice none 0 0] (0, 0) _ rfl (by refine qA6 (cs := #[.string ⟨#[]⟩, .slice none 0 0, .slice none 0 0, .slice none 0 0]) ?_ 3 _ rfl; refine qA6 (cs := #[.string ⟨#[]⟩, .slice none 0 0, .slice none 0 0, .slice none 0 0]) ?_ 2 _ rfl; refine qA6 (cs := #[.string ⟨#[]⟩, .slice none 0 0, .slice none 0 0, .slice none 0 0]) ?_ 1 _ rfl; refine qA6 (cs := #[.string ⟨#[]⟩, .slice none 0 0, .slice none 0 0, .slice none 0 0]) ?_ 0 _ rfl; exact aE.o) Tryz.underlying33 rfl (by kernel_rfl)) rfl ?_
                  exact ⟨_, _, _, by rfl, by (exact Kd.R_nil _ _ _ _ _), by (exact Kd.S_nil _ _ _ _ _), by (exact Kd.R_nil _ _ _ _ _), by repeat (with_reducible first | exact HB.o | refine qAb ?_ bX.o)⟩
                 rw [if_pos ed] at H
                 have ee : (bb != 0) = false := bn ed
                 clear ed
                 replace H := bm H
                 obtain ⟨⟨bV, bp⟩, eO, H⟩ := H
                 replace H : (if bp = 0 then ((qA4.f bF l0 bV).bind fun bW => (if bW = true then (some (aU, aH, aJ, aK, 0)) else (some ((⟨#[]⟩ : ByteArray), ([] : List (S85)), ([] : List (S92)), ([] : List (S104)), 52)))) else (some ((⟨#[]⟩ : ByteArray), ([] : List (S85)), ([] : List (S92)), ([] : List (S104)), 52))) = some (r1, r2, r3, r4, r5) := H
                 have gA := am eO
                 clear eO
                 by_cases ef : bp = 0
                 rotate_left
                 ·rw [if_neg ef] at H
                  have eg : (bp != 0) = true := bne_iff_ne.mpr ef
                  simp only [Option.some.injEq, Prod.mk.injEq] at H
                  obtain ⟨rfl, rfl, rfl, rfl, rfl⟩ := H
                  go_wp2_with (first | ((with_reducible refine qAv (f := 64) rfl ?_); refine gL 111 Tryz.func64 #[.pointer (some ⟨aY, 0, none⟩)] ?_; (with_reducible refine (qAY.calls aY aN a5 a6 bb cF cG w _ ?side1 ?side2 fh.o).mono ?_); (case side1 => exact aG.o); (case side2 => exact HB.o); rintro e cv ⟨rfl, hi, hb, hk⟩; refine ⟨_, rfl, ?_⟩; have n_ := a2 (Kd.R_kp (qAo.apart aG.o aA.o (by decide)) hk) (a2 (Kd.S_mono (Kd.S_keep (qAo.apartS aG.o aD.o (by decide)) hk (fun _ h => h.2)) (fun _ h => h.1)) (a2 (Kd.R_kp (qAo.apart aG.o aI.o (by decide)) hk) (a2 (qAn.blk hk aE.o aQ.o (by simp)) (a2 (qAn.blk hk aC.o aV.o (by simp)) (a2 (hb) (am (hi))))))); clear aA aD aI aE aC HB aG; obtain ⟨aA, aD, aI, aE, aC, HB, aG⟩ := n_; have fN : cv.cell? ⟨aT, 0, none⟩ = some (.string aU) := (qAa aC.o 0).trans rfl; have fO : cv.cell? ⟨aT, 1, none⟩ = some (aW) := (qAa aC.o 1).trans rfl; have fP : cv.cell? ⟨aT, 2, none⟩ = some (aX) := (qAa aC.o 2).trans rfl; have fQ : cv.cell? ⟨aT, 3, none⟩ = some (ab) := (qAa aC.o 3).trans rfl; obtain ⟨eR, ei, et⟩ := Kd.R_slice aA.o; subst et; obtain ⟨eS, ej, eu⟩ := Kd.S_slice aD.o; subst eu; obtain ⟨eT, ek, ev⟩ := Kd.R_slice aI.o; subst ev) | ((with_reducible refine qAv (f := 13) rfl ?_); refine gL 116 Tryz.func13 #[.agg #[.string aU, .slice eR aH.length ei, .slice eS aJ.length ej, .slice eT aK.length ek]] ?_; (with_reducible refine (qBh.calls aU _ _ aH _ _ aJ _ _ aK bV bp _ ?side1 ?side2 ?side3 ?side4 ?side5 ?side6 gA.o).mono ?_); (case side1 => exact (Kd.R_reads' aA.o).2.2); (case side2 => exact (Kd.R_reads' aA.o).2.1); (case side3 => exact (Kd.S_reads' aD.o).2.2); (case side4 => exact (Kd.S_reads' aD.o).2.1); (case side5 => exact (Kd.R_reads' aI.o).2.2); (case side6 => exact (Kd.R_reads' aI.o).2.1); rintro e cw ⟨ff, rfl, cU, hb⟩; refine ⟨_, rfl, ?_⟩; have n_ := a2 (qAt aE.o hb) (am (qAp HB.o hb)); clear aA aD aI aE aC aG HB; obtain ⟨aE, HB⟩ := n_; have fR : cw.cell? ⟨aR, 0, none⟩ = some (.string ⟨#[]⟩) := (qAa aE.o 0).trans rfl; have fS : cw.cell? ⟨aR, 1, none⟩ = some (.slice none 0 0) := (qAa aE.o 1).trans rfl; have fT : cw.cell? ⟨aR, 2, none⟩ = some (.slice none 0 0) := (qAa aE.o 2).trans rfl; have fU : cw.cell? ⟨aR, 3, none⟩ = some (.slice none 0 0) := (qAa aE.o 3).trans rfl; have f7 := qAc aE.o 0; have f8 := qAc aE.o 1; have f9 := qAc aE.o 2; have fa := qAc aE.o 3))
                  refine bodyPost_ret (qCH rfl _ _ aR 33 #[.string ⟨#[]⟩, .slice none 0 0, .slice none 0 0, .slice none 0 0] (0, 0) _ rfl (by refine qA6 (cs := #[.string ⟨#[]⟩, .slice none 0 0, .slice none 0 0, .slice none 0 0]) ?_ 3 _ rfl; refine qA6 (cs := #[.string ⟨#[]⟩, .slice none 0 0, .slice none 0 0, .slice none 0 0]) ?_ 2 _ rfl; refine qA6 (cs := #[.string ⟨#[]⟩, .slice none 0 0, .slice none 0 0, .slice none 0 0]) ?_ 1 _ rfl; refine qA6 (cs := #[.string ⟨#[]⟩, .slice none 0 0, .slice none 0 0, .slice none 0 0]) ?_ 0 _ rfl; exact aE.o) Tryz.underlying33 rfl (by kernel_rfl)) rfl ?_
                  exact ⟨_, _, _, by rfl, by (exact Kd.R_nil _ _ _ _ _), by (exact Kd.S_nil _ _ _ _ _), by (exact Kd.R_nil _ _ _ _ _), by repeat (with_reducible first | exact HB.o | refine qAb ?_ bX.o)⟩
                 rw [if_pos ef] at H
                 have eg : (bp != 0) = false := bn ef
                 clear ef
                 replace H := bm H
                 obtain ⟨bW, eP, H⟩ := H
                 replace H : (if bW = true then (some (aU, aH, aJ, aK, 0)) else (some ((⟨#[]⟩ : ByteArray), ([] : List (S85)), ([] : List (S92)), ([] : List (S104)), 52))) = some (r1, r2, r3, r4, r5) := H
                 have g7 := am eP
                 clear eP
                 by_cases fr : bW = true
                 rotate_left
                 ·replace fr := Bool.eq_false_iff.mpr fr
                  subst fr
                  replace H : (some ((⟨#[]⟩ : ByteArray), ([] : List (S85)), ([] : List (S92)), ([] : List (S104)), 52)) = some (r1, r2, r3, r4, r5) := by rw [if_neg (show ¬ (false = true) by decide)] at H; exact H
                  simp only [Option.some.injEq, Prod.mk.injEq] at H
                  obtain ⟨rfl, rfl, rfl, rfl, rfl⟩ := H
                  go_wp2_with (first | ((with_reducible refine qAv (f := 64) rfl ?_); refine gL 111 Tryz.func64 #[.pointer (some ⟨aY, 0, none⟩)] ?_; (with_reducible refine (qAY.calls aY aN a5 a6 bb cF cG w _ ?side1 ?side2 fh.o).mono ?_); (case side1 => exact aG.o); (case side2 => exact HB.o); rintro e cu ⟨rfl, hi, hb, hk⟩; refine ⟨_, rfl, ?_⟩; have n_ := a2 (Kd.R_kp (qAo.apart aG.o aA.o (by decide)) hk) (a2 (Kd.S_mono (Kd.S_keep (qAo.apartS aG.o aD.o (by decide)) hk (fun _ h => h.2)) (fun _ h => h.1)) (a2 (Kd.R_kp (qAo.apart aG.o aI.o (by decide)) hk) (a2 (qAn.blk hk aE.o aQ.o (by simp)) (a2 (qAn.blk hk aC.o aV.o (by simp)) (a2 (hb) (am (hi))))))); clear aA aD aI aE aC HB aG; obtain ⟨aA, aD, aI, aE, aC, HB, aG⟩ := n_; have fF : cu.cell? ⟨aT, 0, none⟩ = some (.string aU) := (qAa aC.o 0).trans rfl; have fG : cu.cell? ⟨aT, 1, none⟩ = some (aW) := (qAa aC.o 1).trans rfl; have fH : cu.cell? ⟨aT, 2, none⟩ = some (aX) := (qAa aC.o 2).trans rfl; have fI : cu.cell? ⟨aT, 3, none⟩ = some (ab) := (qAa aC.o 3).trans rfl; obtain ⟨cJ, cR, ep⟩ := Kd.R_slice aA.o; subst ep; obtain ⟨cK, cS, eq⟩ := Kd.S_slice aD.o; subst eq; obtain ⟨cL, cT, er⟩ := Kd.R_slice aI.o; subst er) | ((with_reducible refine qAv (f := 13) rfl ?_); refine gL 116 Tryz.func13 #[.agg #[.string aU, .slice cJ aH.length cR, .slice cK aJ.length cS, .slice cL aK.length cT]] ?_; (with_reducible refine (qBh.calls aU _ _ aH _ _ aJ _ _ aK bV bp _ ?side1 ?side2 ?side3 ?side4 ?side5 ?side6 gA.o).mono ?_); (case side1 => exact (Kd.R_reads' aA.o).2.2); (case side2 => exact (Kd.R_reads' aA.o).2.1); (case side3 => exact (Kd.S_reads' aD.o).2.2); (case side4 => exact (Kd.S_reads' aD.o).2.1); (case side5 => exact (Kd.R_reads' aI.o).2.2); (case side6 => exact (Kd.R_reads' aI.o).2.1); rintro e bD ⟨ff, rfl, cU, hb⟩; refine ⟨_, rfl, ?_⟩; have n_ := a2 (Kd.R_below aA.o hb) (a2 (Kd.S_below aD.o hb) (a2 (Kd.R_below aI.o hb) (a2 (Kd.R_lower cU (qAs HB.o)) (a2 (qAt aE.o hb) (a2 (qAt aC.o hb) (a2 (qAo.below aG.o hb) (am (qAp HB.o hb)))))))); clear aA aD aI aE aC aG HB; obtain ⟨aA, aD, aI, az, aE, aC, aG, HB⟩ := n_; obtain ⟨eQ, eh, es⟩ := Kd.R_slice az.o; subst es) | (go_at_call 65; (with_reducible refine (qA4.calls bF _ _ l0 _ _ bV false _ ?side1 ?side2 ?side3 ?side4 g7.o).mono ?_); (case side1 => exact (Kd.C_below gE.o HB.o)); (case side2 => exact gD.o); (case side3 => exact (Kd.R_reads' az.o).2.2); (case side4 => exact (Kd.R_reads' az.o).2.1); rintro e w' ⟨rfl, ⟨nd, rfl⟩⟩; (try (rw [drewN_self bD]; generalize hq_ : World.drewN bD _ = bD; have n0_ : qAj (Kd.R (Kd.int .u8) 5 bD w.heap.size (fun _ => True) (.slice eQ bV.length eh) bV) := ⟨by rw [← hq_]; exact (by (with_reducible repeat (apply Kd.R_drewN)); exact az.o)⟩; have n1_ : qAj (Kd.R k85 85 bD w.heap.size (fun _ => True) (.slice cJ aH.length cR) aH) := ⟨by rw [← hq_]; exact (by (with_reducible repeat (apply Kd.R_drewN)); exact aA.o)⟩; have n2_ : qAj (Kd.S k92 92 bD w.heap.size (fun _ => True) (.slice cK aJ.length cS) aJ) := ⟨by rw [← hq_]; exact (by (with_reducible repeat (apply Kd.S_drewN)); exact aD.o)⟩; have n3_ : qAj (Kd.R k104 104 bD w.heap.size (fun _ => True) (.slice cL aK.length cT) aK) := ⟨by rw [← hq_]; exact (by (with_reducible repeat (apply Kd.R_drewN)); exact aI.o)⟩; have n4_ : qAj (bD.heap[aR]? = some (.cells #[.string ⟨#[]⟩, .slice none 0 0, .slice none 0 0, .slice none 0 0] 33 (0, 0))) := ⟨by rw [← hq_]; exact (by (with_reducible repeat (refine qAf ?_ _)); exact aE.o)⟩; have n5_ : qAj (bD.heap[aT]? = some (.cells #[.string aU, .slice cJ aH.length cR, .slice cK aJ.length cS, .slice cL aK.length cT] 33 (0, 0))) := ⟨by rw [← hq_]; exact (by (with_reducible repeat (refine qAf ?_ _)); exact aC.o)⟩; have n6_ : qAj (qAo w bD aY aN cF cG) := ⟨by rw [← hq_]; exact (by repeat (with_reducible first | exact aG.o | apply qAo.drewN))⟩; have n7_ : qAj (Below w.heap.size w bD) := ⟨by rw [← hq_]; exact (by repeat (with_reducible first | exact HB.o | apply qAd))⟩; clear az aA aD aI aE aC aG HB hq_; have aE := n4_; have HB := n7_; clear n0_ n1_ n2_ n3_ n4_ n5_ n6_ n7_)); have fJ : bD.cell? ⟨aR, 0, none⟩ = some (.string ⟨#[]⟩) := (qAa aE.o 0).trans rfl; have fK : bD.cell? ⟨aR, 1, none⟩ = some (.slice none 0 0) := (qAa aE.o 1).trans rfl; have fL : bD.cell? ⟨aR, 2, none⟩ = some (.slice none 0 0) := (qAa aE.o 2).trans rfl; have fM : bD.cell? ⟨aR, 3, none⟩ = some (.slice none 0 0) := (qAa aE.o 3).trans rfl; have f3 := qAc aE.o 0; have f4 := qAc aE.o 1; have f5 := qAc aE.o 2; have f6 := qAc aE.o 3))
                  refine bodyPost_ret (qCH rfl _ _ aR 33 #[.string ⟨#[]⟩, .slice none 0 0, .slice none 0 0, .slice none 0 0] (0, 0) _ rfl (by refine qA6 (cs := #[.string ⟨#[]⟩, .slice none 0 0, .slice none 0 0, .slice none 0 0]) ?_ 3 _ rfl; refine qA6 (cs := #[.string ⟨#[]⟩, .slice none 0 0, .slice none 0 0, .slice none 0 0]) ?_ 2 _ rfl; refine qA6 (cs := #[.string ⟨#[]⟩, .slice none 0 0, .slice none 0 0, .slice none 0 0]) ?_ 1 _ rfl; refine qA6 (cs := #[.string ⟨#[]⟩, .slice none 0 0, .slice none 0 0, .slice none 0 0]) ?_ 0 _ rfl; exact aE.o) Tryz.underlying33 rfl (by kernel_rfl)) rfl ?_
                  exact ⟨_, _, _, by rfl, by (exact Kd.R_nil _ _ _ _ _), by (exact Kd.S_nil _ _ _ _ _), by (exact Kd.R_nil _ _ _ _ _), by repeat (with_reducible first | exact HB.o | refine qAb ?_ bX.o)⟩
                 subst fr
                 replace H : (some (aU, aH, aJ, aK, 0)) = some (r1, r2, r3, r4, r5) := by rw [if_pos rfl] at H; exact H
                 simp only [Option.some.injEq, Prod.mk.injEq] at H
                 obtain ⟨rfl, rfl, rfl, rfl, rfl⟩ := H
                 go_wp2_with (first | ((with_reducible refine qAv (f := 64) rfl ?_); refine gL 111 Tryz.func64 #[.pointer (some ⟨aY, 0, none⟩)] ?_; (with_reducible refine (qAY.calls aY aN a5 a6 bb cF cG w _ ?side1 ?side2 fh.o).mono ?_); (case side1 => exact aG.o); (case side2 => exact HB.o); rintro e fy ⟨rfl, hi, hb, hk⟩; refine ⟨_, rfl, ?_⟩; have n_ := a2 (Kd.R_kp (qAo.apart aG.o aA.o (by decide)) hk) (a2 (Kd.S_mono (Kd.S_keep (qAo.apartS aG.o aD.o (by decide)) hk (fun _ h => h.2)) (fun _ h => h.1)) (a2 (Kd.R_kp (qAo.apart aG.o aI.o (by decide)) hk) (a2 (qAn.blk hk aE.o aQ.o (by simp)) (a2 (qAn.blk hk aC.o aV.o (by simp)) (a2 (hb) (am (hi))))))); clear aA aD aI aE aC HB aG; obtain ⟨aA, aD, aI, aE, aC, HB, aG⟩ := n_; have fs : fy.cell? ⟨aT, 0, none⟩ = some (.string aU) := (qAa aC.o 0).trans rfl; have ft : fy.cell? ⟨aT, 1, none⟩ = some (aW) := (qAa aC.o 1).trans rfl; have fu : fy.cell? ⟨aT, 2, none⟩ = some (aX) := (qAa aC.o 2).trans rfl; have fv : fy.cell? ⟨aT, 3, none⟩ = some (ab) := (qAa aC.o 3).trans rfl; obtain ⟨bQ, bS, gQ⟩ := Kd.R_slice aA.o; subst gQ; obtain ⟨bY, bZ, gR⟩ := Kd.S_slice aD.o; subst gR; obtain ⟨b5, b8, gS⟩ := Kd.R_slice aI.o; subst gS) | ((with_reducible refine qAv (f := 13) rfl ?_); refine gL 116 Tryz.func13 #[.agg #[.string aU, .slice bQ aH.length bS, .slice bY aJ.length bZ, .slice b5 aK.length b8]] ?_; (with_reducible refine (qBh.calls aU _ _ aH _ _ aJ _ _ aK bV bp _ ?side1 ?side2 ?side3 ?side4 ?side5 ?side6 gA.o).mono ?_); (case side1 => exact (Kd.R_reads' aA.o).2.2); (case side2 => exact (Kd.R_reads' aA.o).2.1); (case side3 => exact (Kd.S_reads' aD.o).2.2); (case side4 => exact (Kd.S_reads' aD.o).2.1); (case side5 => exact (Kd.R_reads' aI.o).2.2); (case side6 => exact (Kd.R_reads' aI.o).2.1); rintro e b1 ⟨ff, rfl, cU, hb⟩; refine ⟨_, rfl, ?_⟩; have n_ := a2 (Kd.R_below aA.o hb) (a2 (Kd.S_below aD.o hb) (a2 (Kd.R_below aI.o hb) (a2 (Kd.R_lower cU (qAs HB.o)) (a2 (qAt aE.o hb) (a2 (qAt aC.o hb) (a2 (qAo.below aG.o hb) (am (qAp HB.o hb)))))))); clear aA aD aI aE aC aG HB; obtain ⟨aA, aD, aI, az, aE, aC, aG, HB⟩ := n_; obtain ⟨gC, gH, gT⟩ := Kd.R_slice az.o; subst gT) | (go_at_call 65; (with_reducible refine (qA4.calls bF _ _ l0 _ _ bV true _ ?side1 ?side2 ?side3 ?side4 g7.o).mono ?_); (case side1 => exact (Kd.C_below gE.o HB.o)); (case side2 => exact gD.o); (case side3 => exact (Kd.R_reads' az.o).2.2); (case side4 => exact (Kd.R_reads' az.o).2.1); rintro e w' ⟨rfl, ⟨nd, rfl⟩⟩; (try (rw [drewN_self b1]; generalize hq_ : World.drewN b1 _ = b1; have n0_ : qAj (Kd.R (Kd.int .u8) 5 b1 w.heap.size (fun _ => True) (.slice gC bV.length gH) bV) := ⟨by rw [← hq_]; exact (by (with_reducible repeat (apply Kd.R_drewN)); exact az.o)⟩; have n1_ : qAj (Kd.R k85 85 b1 w.heap.size (fun _ => True) (.slice bQ aH.length bS) aH) := ⟨by rw [← hq_]; exact (by (with_reducible repeat (apply Kd.R_drewN)); exact aA.o)⟩; have n2_ : qAj (Kd.S k92 92 b1 w.heap.size (fun _ => True) (.slice bY aJ.length bZ) aJ) := ⟨by rw [← hq_]; exact (by (with_reducible repeat (apply Kd.S_drewN)); exact aD.o)⟩; have n3_ : qAj (Kd.R k104 104 b1 w.heap.size (fun _ => True) (.slice b5 aK.length b8) aK) := ⟨by rw [← hq_]; exact (by (with_reducible repeat (apply Kd.R_drewN)); exact aI.o)⟩; have n4_ : qAj (b1.heap[aR]? = some (.cells #[.string ⟨#[]⟩, .slice none 0 0, .slice none 0 0, .slice none 0 0] 33 (0, 0))) := ⟨by rw [← hq_]; exact (by (with_reducible repeat (refine qAf ?_ _)); exact aE.o)⟩; have n5_ : qAj (b1.heap[aT]? = some (.cells #[.string aU, .slice bQ aH.length bS, .slice bY aJ.length bZ, .slice b5 aK.length b8] 33 (0, 0))) := ⟨by rw [← hq_]; exact (by (with_reducible repeat (refine qAf ?_ _)); exact aC.o)⟩; have n6_ : qAj (qAo w b1 aY aN cF cG) := ⟨by rw [← hq_]; exact (by repeat (with_reducible first | exact aG.o | apply qAo.drewN))⟩; have n7_ : qAj (Below w.heap.size w b1) := ⟨by rw [← hq_]; exact (by repeat (with_reducible first | exact HB.o | apply qAd))⟩; clear az aA aD aI aE aC aG HB hq_; have aA := n1_; have aD := n2_; have aI := n3_; have aE := n4_; have aC := n5_; have HB := n7_; clear n0_ n1_ n2_ n3_ n4_ n5_ n6_ n7_)); have ex : b1.cell? ⟨aT, 0, none⟩ = some (.string aU) := (qAa aC.o 0).trans rfl; have ey : b1.cell? ⟨aT, 1, none⟩ = some (.slice bQ aH.length bS) := (qAa aC.o 1).trans rfl; have ez : b1.cell? ⟨aT, 2, none⟩ = some (.slice bY aJ.length bZ) := (qAa aC.o 2).trans rfl; have fA : b1.cell? ⟨aT, 3, none⟩ = some (.slice b5 aK.length b8) := (qAa aC.o 3).trans rfl; have fB : b1.cell? ⟨aR, 0, none⟩ = some (.string ⟨#[]⟩) := (qAa aE.o 0).trans rfl; have fC : b1.cell? ⟨aR, 1, none⟩ = some (.slice none 0 0) := (qAa aE.o 1).trans rfl; have fD : b1.cell? ⟨aR, 2, none⟩ = some (.slice none 0 0) := (qAa aE.o 2).trans rfl; have fE : b1.cell? ⟨aR, 3, none⟩ = some (.slice none 0 0) := (qAa aE.o 3).trans rfl; have fZ := qAc aE.o 0; have f0 := qAc aE.o 1; have f1 := qAc aE.o 2; have f2 := qAc aE.o 3))
                 refine bodyPost_ret (qCH rfl _ _ aR 33 #[.string aU, .slice bQ aH.length bS, .slice bY aJ.length bZ, .slice b5 aK.length b8] (0, 0) _ rfl (by refine qA6 (cs := #[.string aU, .slice bQ aH.length bS, .slice bY aJ.length bZ, .slice none 0 0]) ?_ 3 _ rfl; refine qA6 (cs := #[.string aU, .slice bQ aH.length bS, .slice none 0 0, .slice none 0 0]) ?_ 2 _ rfl; refine qA6 (cs := #[.string aU, .slice none 0 0, .slice none 0 0, .slice none 0 0]) ?_ 1 _ rfl; refine qA6 (cs := #[.string ⟨#[]⟩, .slice none 0 0, .slice none 0 0, .slice none 0 0]) ?_ 0 _ rfl; exact aE.o) Tryz.underlying33 rfl (by kernel_rfl)) rfl ?_
                 exact ⟨_, _, _, by rfl, by exact Kd.R_mono (Kd.R_far (p := ⟨aR, 3, none⟩) (Kd.R_far (p := ⟨aR, 2, none⟩) (Kd.R_far (p := ⟨aR, 1, none⟩) (Kd.R_far (p := ⟨aR, 0, none⟩) (Kd.R_types aA.o aE.o (by decide)) (fun _ hk => hk.2) (.string aU)) (fun _ hk => hk.2) (.slice bQ aH.length bS)) (fun _ hk => hk.2) (.slice bY aJ.length bZ)) (fun _ hk => hk.2) (.slice b5 aK.length b8)) (fun _ hk => trivial), by exact Kd.S_mono (Kd.S_far (p := ⟨aR, 3, none⟩) (Kd.S_far (p := ⟨aR, 2, none⟩) (Kd.S_far (p := ⟨aR, 1, none⟩) (Kd.S_far (p := ⟨aR, 0, none⟩) (Kd.S_types aD.o aE.o (by decide)) (fun _ hk => hk.2) (.string aU)) (fun _ hk => hk.2) (.slice bQ aH.length bS)) (fun _ hk => hk.2) (.slice bY aJ.length bZ)) (fun _ hk => hk.2) (.slice b5 aK.length b8)) (fun _ hk => trivial), by exact Kd.R_mono (Kd.R_far (p := ⟨aR, 3, none⟩) (Kd.R_far (p := ⟨aR, 2, none⟩) (Kd.R_far (p := ⟨aR, 1, none⟩) (Kd.R_far (p := ⟨aR, 0, none⟩) (Kd.R_types aI.o aE.o (by decide)) (fun _ hk => hk.2) (.string aU)) (fun _ hk => hk.2) (.slice bQ aH.length bS)) (fun _ hk => hk.2) (.slice bY aJ.length bZ)) (fun _ hk => hk.2) (.slice b5 aK.length b8)) (fun _ hk => trivial), by repeat (with_reducible first | exact HB.o | refine qAb ?_ bX.o)⟩
                subst fp
                replace H : ((qAQ.f aN a5 a6).bind fun bP => ((qAQ.f aN bP.2.1 bP.2.2).bind fun bB => ((qAu.f aN bB.2.1 bB.2.2).bind fun ap => ((qA7.f aN ap.2.1 ap.2.2 32).bind fun ai => ((qA7.f aN ai.2.1 ai.2.2 32).bind fun a8 => (if aK.length < 2513169434916 then (qAg.l3 bF l0 (wrap64 (ak - 1)) aN a8.2.1 a8.2.2 aU aH aJ (aK ++ [(⟨bP.1, bB.1, wrap64 (ap.1), ai.1, a8.1⟩ : S104)])) else (none))))))) = some (r1, r2, r3, r4, r5) := by rw [if_pos rfl] at H; exact H
                replace H := bm H
                obtain ⟨⟨bU, df, dg⟩, eI, H⟩ := H
                replace H : ((qAQ.f aN df dg).bind fun bB => ((qAu.f aN bB.2.1 bB.2.2).bind fun ap => ((qA7.f aN ap.2.1 ap.2.2 32).bind fun ai => ((qA7.f aN ai.2.1 ai.2.2 32).bind fun a8 => (if aK.length < 2513169434916 then (qAg.l3 bF l0 (wrap64 (ak - 1)) aN a8.2.1 a8.2.2 aU aH aJ (aK ++ [(⟨bU, bB.1, wrap64 (ap.1), ai.1, a8.1⟩ : S104)])) else (none)))))) = some (r1, r2, r3, r4, r5) := H
                have gr := am eI
                clear eI
                replace H := bm H
                obtain ⟨⟨b0, dh, di⟩, eJ, H⟩ := H
                replace H : ((qAu.f aN dh di).bind fun ap => ((qA7.f aN ap.2.1 ap.2.2 32).bind fun ai => ((qA7.f aN ai.2.1 ai.2.2 32).bind fun a8 => (if aK.length < 2513169434916 then (qAg.l3 bF l0 (wrap64 (ak - 1)) aN a8.2.1 a8.2.2 aU aH aJ (aK ++ [(⟨bU, b0, wrap64 (ap.1), ai.1, a8.1⟩ : S104)])) else (none))))) = some (r1, r2, r3, r4, r5) := H
                have gs := am eJ
                clear eJ
                replace H := bm H
                obtain ⟨⟨ba, dj, dk⟩, eK, H⟩ := H
                replace H : ((qA7.f aN dj dk 32).bind fun ai => ((qA7.f aN ai.2.1 ai.2.2 32).bind fun a8 => (if aK.length < 2513169434916 then (qAg.l3 bF l0 (wrap64 (ak - 1)) aN a8.2.1 a8.2.2 aU aH aJ (aK ++ [(⟨bU, b0, wrap64 (ba), ai.1, a8.1⟩ : S104)])) else (none)))) = some (r1, r2, r3, r4, r5) := H
                have gt := am eK
                clear eK
                replace H := bm H
                obtain ⟨⟨bo, dl, dm⟩, eL, H⟩ := H
                replace H : ((qA7.f aN dl dm 32).bind fun a8 => (if aK.length < 2513169434916 then (qAg.l3 bF l0 (wrap64 (ak - 1)) aN a8.2.1 a8.2.2 aU aH aJ (aK ++ [(⟨bU, b0, wrap64 (ba), bo, a8.1⟩ : S104)])) else (none))) = some (r1, r2, r3, r4, r5) := H
                have gu := am eL
                clear eL
                replace H := bm H
                obtain ⟨⟨cE, cr, ct⟩, eM, H⟩ := H
                replace H : (if aK.length < 2513169434916 then (qAg.l3 bF l0 (wrap64 (ak - 1)) aN cr ct aU aH aJ (aK ++ [(⟨bU, b0, wrap64 (ba), bo, cE⟩ : S104)])) else (none)) = some (r1, r2, r3, r4, r5) := H
                have gv := am eM
                clear eM
                obtain ⟨fq, H⟩ := gd H
                have e2 := am fq
                clear fq
                obtain ⟨cH, cY⟩ : ∃ y_ : List (S104), y_ = (aK ++ [(⟨bU, b0, wrap64 (ba), bo, cE⟩ : S104)]) := ⟨_, rfl⟩
                replace H : (qAg.l3 bF l0 (wrap64 (ak - 1)) aN cr ct aU aH aJ cH) = some (r1, r2, r3, r4, r5) := by (rw [cY]; with_reducible exact H)
                have e5 := am cY
                clear cY
                have H' := am H
                clear H
                try go_wp2
                have n_ := a2 (Kd.R_drew aA.o) (a2 (Kd.S_drew aD.o) (a2 (Kd.R_drew aI.o) (a2 (qAh aE.o) (a2 (qAh aC.o) (a2 (qAo.drew aG.o) (am (qAk HB.o)))))))
                clear aA aD aI aE aC aG HB
                obtain ⟨aA, aD, aI, aE, aC, aG, HB⟩ := n_
                refine qDz (n := 18) (S := fun w' => w'.cell? ⟨aT, 0, none⟩ = some (.string aU) ∧ w'.cell? ⟨aT, 1, none⟩ = some (aW) ∧ w'.cell? ⟨aT, 2, none⟩ = some (aX) ∧ w'.cell? ⟨aT, 3, none⟩ = some (ab)) (ds := [17]) #[false, false, false, false, false, false, false, false, false, false, false, false, false, false, false, false, false, false] (by kernel_rfl) rfl rfl ⟨(qAa aC.o 0).trans rfl, (qAa aC.o 1).trans rfl, (qAa aC.o 2).trans rfl, (qAa aC.o 3).trans rfl⟩ (fun hHeld => ?_); refine qBM qAg.tab22 qAg.bits22 (fun HT_ HW_ => ?_)
                generalize wc.drew = h5 at aA aD aI aE aC aG HB hHeld ⊢
                refine pu 0 93 #[true, false, false, false, false, false, false, false, false, false, false, false, false, false, false, false, false, false] (qAK HT_.o (by kernel_rfl)) ?_
                refine pu 2 95 #[true, false, true, false, false, false, false, false, false, false, false, false, false, false, false, false, false, false] (qAK HT_.o (by kernel_rfl)) ?_
                refine pu 4 97 #[true, false, true, false, true, false, false, false, false, false, false, false, false, false, false, false, false, false] (qAK HT_.o (by kernel_rfl)) ?_
                refine pu 6 99 #[true, false, true, false, true, false, true, false, false, false, false, false, false, false, false, false, false, false] (qAK HT_.o (by kernel_rfl)) ?_
                refine pu 9 102 #[true, false, true, false, true, false, true, false, false, true, false, false, false, false, false, false, false, false] (qAK HT_.o (by kernel_rfl)) ?_
                refine pu 11 104 #[true, false, true, false, true, false, true, false, false, true, false, true, false, false, false, false, false, false] (qAK HT_.o (by kernel_rfl)) ?_
                refine qBR (i := 1) (N := some 94) (v := ?_) (a' := ?_) #[true, true, true, false, true, false, true, false, false, true, false, true, false, false, false, false, false, false] rfl rfl (qBg HT_.o HW_.o (by kernel_rfl)) (fun _ _ _ h => h) (Or.inl ⟨by rfl, ?_⟩) hHeld ?_ ?_
                rotate_left
                ·rintro w' ⟨s0, s1, s2, s3⟩
                 go_simp
                 with_reducible rfl
                rotate_left
                ·simp only [Act.put, List.setIfInBounds_toArray, List.set_cons_zero, List.set_cons_succ]
                 rfl
                refine one_ (i := 3) (N := some 96) #[true, true, true, true, true, false, true, false, false, true, false, true, false, false, false, false, false, false] rfl rfl (qBq HT_.o (by kernel_rfl)) (by decide) (fun K hK => ?_)
                refine qCP Tryz.func63 (by kernel_rfl) rfl #[.pointer (some ⟨aY, 0, none⟩)] (by rfl) rfl rfl (by (try simp only [List.map_toArray, List.map_cons, List.map_nil]); (rfl)) ?_
                with_reducible refine (qAQ.calls aY aN a5 a6 bU df dg w _ ?side1 ?side2 gr.o).mono ?_
                (case side1 => exact aG.o)
                (case side2 => exact HB.o)
                rintro e h6 ⟨rfl, hi, hb, hk⟩
                refine ⟨_, rfl, ?_⟩
                have n_ := a2 (Kd.R_kp (qAo.apart aG.o aA.o (by decide)) hk) (a2 (Kd.S_mono (Kd.S_keep (qAo.apartS aG.o aD.o (by decide)) hk (fun _ h => h.2)) (fun _ h => h.1)) (a2 (Kd.R_kp (qAo.apart aG.o aI.o (by decide)) hk) (a2 (qAn.blk hk aE.o aQ.o (by simp)) (a2 (qAn.blk hk aC.o aV.o (by simp)) (a2 (hb) (am (hi)))))))
                clear aA aD aI aE aC HB aG
                obtain ⟨aA, aD, aI, aE, aC, HB, aG⟩ := n_
                (try clear hb)
                (skip)
                (try clear hk)
                (try clear hi)
                refine hK.o _ _ ⟨(qAa aC.o 0).trans rfl, (qAa aC.o 1).trans rfl, (qAa aC.o 2).trans rfl, (qAa aC.o 3).trans rfl⟩ (fun hHeld => ?_)
                clear hK K
                refine qBc (a' := ?_) ?_ ?_
                rotate_left
                ·show Act.put _ (some 96) _ = _
                 simp only [Act.put, List.setIfInBounds_toArray, List.set_cons_zero, List.set_cons_succ]
                 rfl
                refine one_ (i := 5) (N := some 98) #[true, true, true, true, true, true, true, false, false, true, false, true, false, false, false, false, false, false] rfl rfl (qBq HT_.o (by kernel_rfl)) (by decide) (fun K hK => ?_)
                refine qCP Tryz.func63 (by kernel_rfl) rfl #[.pointer (some ⟨aY, 0, none⟩)] (by rfl) rfl rfl (by (try simp only [List.map_toArray, List.map_cons, List.map_nil]); (rfl)) ?_
                with_reducible refine (qAQ.calls aY aN df dg b0 dh di w _ ?side1 ?side2 gs.o).mono ?_
                (case side1 => exact aG.o)
                (case side2 => exact HB.o)
                rintro e h7 ⟨rfl, hi, hb, hk⟩
                refine ⟨_, rfl, ?_⟩
                have n_ := a2 (Kd.R_kp (qAo.apart aG.o aA.o (by decide)) hk) (a2 (Kd.S_mono (Kd.S_keep (qAo.apartS aG.o aD.o (by decide)) hk (fun _ h => h.2)) (fun _ h => h.1)) (a2 (Kd.R_kp (qAo.apart aG.o aI.o (by decide)) hk) (a2 (qAn.blk hk aE.o aQ.o (by simp)) (a2 (qAn.blk hk aC.o aV.o (by simp)) (a2 (hb) (am (hi)))))))
                clear aA aD aI aE aC HB aG
                obtain ⟨aA, aD, aI, aE, aC, HB, aG⟩ := n_
                (try clear hb)
                (skip)
                (try clear hk)
                (try clear hi)
                refine hK.o _ _ ⟨(qAa aC.o 0).trans rfl, (qAa aC.o 1).trans rfl, (qAa aC.o 2).trans rfl, (qAa aC.o 3).trans rfl⟩ (fun hHeld => ?_)
                clear hK K
                refine qBc (a' := ?_) ?_ ?_
                rotate_left
                ·show Act.put _ (some 98) _ = _
                 simp only [Act.put, List.setIfInBounds_toArray, List.set_cons_zero, List.set_cons_succ]
                 rfl
                refine one_ (i := 7) (N := some 100) #[true, true, true, true, true, true, true, true, false, true, false, true, false, false, false, false, false, false] rfl rfl (qBq HT_.o (by kernel_rfl)) (by decide) (fun K hK => ?_)
                refine qCP Tryz.func56 (by kernel_rfl) rfl #[.pointer (some ⟨aY, 0, none⟩)] (by rfl) rfl rfl (by (try simp only [List.map_toArray, List.map_cons, List.map_nil]); (rfl)) ?_
                with_reducible refine (qAu.calls aY aN dh di ba dj dk w _ ?side1 ?side2 gt.o).mono ?_
                (case side1 => exact aG.o)
                (case side2 => exact HB.o)
                rintro e h8 ⟨rfl, hi, hb, hk⟩
                refine ⟨_, rfl, ?_⟩
                have n_ := a2 (Kd.R_kp (qAo.apart aG.o aA.o (by decide)) hk) (a2 (Kd.S_mono (Kd.S_keep (qAo.apartS aG.o aD.o (by decide)) hk (fun _ h => h.2)) (fun _ h => h.1)) (a2 (Kd.R_kp (qAo.apart aG.o aI.o (by decide)) hk) (a2 (qAn.blk hk aE.o aQ.o (by simp)) (a2 (qAn.blk hk aC.o aV.o (by simp)) (a2 (hb) (am (hi)))))))
                clear aA aD aI aE aC HB aG
                obtain ⟨aA, aD, aI, aE, aC, HB, aG⟩ := n_
                (try clear hb)
                (skip)
                (try clear hk)
                (try clear hi)
                refine hK.o _ _ ⟨(qAa aC.o 0).trans rfl, (qAa aC.o 1).trans rfl, (qAa aC.o 2).trans rfl, (qAa aC.o 3).trans rfl⟩ (fun hHeld => ?_)
                clear hK K
                refine qBc (a' := ?_) ?_ ?_
                rotate_left
                ·show Act.put _ (some 100) _ = _
                 simp only [Act.put, List.setIfInBounds_toArray, List.set_cons_zero, List.set_cons_succ]
                 rfl
                refine qBv (i := 8) (N := some 101) (v := ?_) (a' := ?_) #[true, true, true, true, true, true, true, true, true, true, false, true, false, false, false, false, false, false] rfl rfl (qAK HT_.o (by kernel_rfl)) (fun _ _ _ h => h) (Or.inl ⟨by rfl, ?_⟩) ?_ ?_
                rotate_left
                ·intro w'
                 go_simp
                 with_reducible rfl
                rotate_left
                ·simp only [Act.put, List.setIfInBounds_toArray, List.set_cons_zero, List.set_cons_succ, qAR]
                 rfl
                refine one_ (i := 10) (N := some 103) #[true, true, true, true, true, true, true, true, true, true, true, true, false, false, false, false, false, false] rfl rfl (qBq HT_.o (by kernel_rfl)) (by decide) (fun K hK => ?_)
                refine qCP Tryz.func58 (by kernel_rfl) rfl #[.pointer (some ⟨aY, 0, none⟩), .int .i64 32] (by rfl) rfl rfl (by (try simp only [List.map_toArray, List.map_cons, List.map_nil]); (rfl)) ?_
                with_reducible refine (qA7.calls aY aN dj dk 32 bo dl dm w _ ?side1 ?side2 gu.o).mono ?_
                (case side1 => exact aG.o)
                (case side2 => exact HB.o)
                rintro e h9 ⟨rfl, hi, hb, hk⟩
                refine ⟨_, rfl, ?_⟩
                have n_ := a2 (Kd.R_kp (qAo.apart aG.o aA.o (by decide)) hk) (a2 (Kd.S_mono (Kd.S_keep (qAo.apartS aG.o aD.o (by decide)) hk (fun _ h => h.2)) (fun _ h => h.1)) (a2 (Kd.R_kp (qAo.apart aG.o aI.o (by decide)) hk) (a2 (qAn.blk hk aE.o aQ.o (by simp)) (a2 (qAn.blk hk aC.o aV.o (by simp)) (a2 (hb) (am (hi)))))))
                clear aA aD aI aE aC HB aG
                obtain ⟨aA, aD, aI, aE, aC, HB, aG⟩ := n_
                (try clear hb)
                (skip)
                (try clear hk)
                (try clear hi)
                refine hK.o _ _ ⟨(qAa aC.o 0).trans rfl, (qAa aC.o 1).trans rfl, (qAa aC.o 2).trans rfl, (qAa aC.o 3).trans rfl⟩ (fun hHeld => ?_)
                clear hK K
                refine qBc (a' := ?_) ?_ ?_
                rotate_left
                ·show Act.put _ (some 103) _ = _
                 simp only [Act.put, List.setIfInBounds_toArray, List.set_cons_zero, List.set_cons_succ]
                 rfl
                refine one_ (i := 12) (N := some 105) #[true, true, true, true, true, true, true, true, true, true, true, true, true, false, false, false, false, false] rfl rfl (qBq HT_.o (by kernel_rfl)) (by decide) (fun K hK => ?_)
                refine qCP Tryz.func58 (by kernel_rfl) rfl #[.pointer (some ⟨aY, 0, none⟩), .int .i64 32] (by rfl) rfl rfl (by (try simp only [List.map_toArray, List.map_cons, List.map_nil]); (rfl)) ?_
                with_reducible refine (qA7.calls aY aN dl dm 32 cE cr ct w _ ?side1 ?side2 gv.o).mono ?_
                (case side1 => exact aG.o)
                (case side2 => exact HB.o)
                rintro e ha ⟨rfl, hi, hb, hk⟩
                refine ⟨_, rfl, ?_⟩
                have n_ := a2 (Kd.R_kp (qAo.apart aG.o aA.o (by decide)) hk) (a2 (Kd.S_mono (Kd.S_keep (qAo.apartS aG.o aD.o (by decide)) hk (fun _ h => h.2)) (fun _ h => h.1)) (a2 (Kd.R_kp (qAo.apart aG.o aI.o (by decide)) hk) (a2 (qAn.blk hk aE.o aQ.o (by simp)) (a2 (qAn.blk hk aC.o aV.o (by simp)) (a2 (hb) (am (hi)))))))
                clear aA aD aI aE aC HB aG
                obtain ⟨aA, aD, aI, aE, aC, HB, aG⟩ := n_
                (try clear hb)
                (skip)
                (try clear hk)
                (try clear hi)
                refine hK.o _ _ ⟨(qAa aC.o 0).trans rfl, (qAa aC.o 1).trans rfl, (qAa aC.o 2).trans rfl, (qAa aC.o 3).trans rfl⟩ (fun hHeld => ?_)
                clear hK K
                refine qBc (a' := ?_) ?_ ?_
                rotate_left
                ·show Act.put _ (some 105) _ = _
                 simp only [Act.put, List.setIfInBounds_toArray, List.set_cons_zero, List.set_cons_succ]
                 rfl
                refine pu 13 106 #[true, true, true, true, true, true, true, true, true, true, true, true, true, true, false, false, false, false] (qAK HT_.o (by kernel_rfl)) ?_
                refine one_ (i := 14) (N := some 107) #[true, true, true, true, true, true, true, true, true, true, true, true, true, true, true, false, false, false] rfl rfl (qBq HT_.o (by kernel_rfl)) (by decide) (fun K hK => ?_)
                refine value_ (w1 := ?_) (v := ?_) (by rfl) rfl ?_ ?_
                rotate_left 2
                ·go_simp
                 constructor
                 ·rfl
                 rfl
                refine hK.o _ _ ⟨(qAa (qAe aC.o _) 0).trans rfl, (qAa (qAe aC.o _) 1).trans rfl, (qAa (qAe aC.o _) 2).trans rfl, (qAa (qAe aC.o _) 3).trans rfl⟩ (fun hHeld => ?_)
                clear hK K
                refine qBc (a' := ?_) ?_ ?_
                rotate_left
                ·show Act.put _ (some 107) _ = _
                 simp only [Act.put, List.setIfInBounds_toArray, List.set_cons_zero, List.set_cons_succ]
                 rfl
                refine one_ (i := 15) (N := some 108) #[true, true, true, true, true, true, true, true, true, true, true, true, true, true, true, true, false, false] rfl rfl (qBq HT_.o (by kernel_rfl)) (by decide) (fun K hK => ?_)
                refine Kd.R_append_step k104 (w0 := w) w.heap.size (by rfl) (.tmp 94) (.tmp 107) 31 104 (.agg #[(.int .i64 0), (.int .i64 0), (.int .i64 0), (.string ⟨#[]⟩), (.string ⟨#[]⟩)]) 56 rfl Tryz.underlying31 info104 rfl (by decide) (by omega) ab aK (⟨bU, b0, wrap64 (ba), bo, cE⟩ : S104) [.int .i64 bU, .int .i64 b0, .int .i64 (wrap64 (ba)), .string bo, .string cE] (fun _ => True) (fun _ => False) rfl rfl ?aP (fun _ hk => hk.elim) ?aF ?aO ?aB ?aS ?aL ?_
                (case aP => exact qE1 _ _ _ (⟨bU, b0, wrap64 (ba), bo, cE⟩ : S104))
                (case aB => exact HB.o)
                (case aF => exact (fun _ _ => trivial))
                (case aO => exact aI.o)
                (case aS => exact (qAs HB.o))
                (case aL => have := e2.o; omega)
                intro hE hc ho hb hg ew
                rw [← e5.o] at ho
                have n_ := a2 (Kd.R_over' aA.o (Kd.R_typed aI.o) (by decide) hg) (a2 (Kd.S_over' aD.o (Kd.R_typed aI.o) (by decide) hg) (a2 (qAP (g := aR) (o := .cells #[.string ⟨#[]⟩, .slice none 0 0, .slice none 0 0, .slice none 0 0] 33 (0, 0)) aE.o hg (Kd.R_ne aI.o aE.o (by decide))) (a2 (qAP (g := aT) (o := .cells #[.string aU, aW, aX, ab] 33 (0, 0)) aC.o hg (Kd.R_ne aI.o aC.o (by decide))) (a2 (qAo.grownR aG.o hg aG.o aI.o (by decide) (fun b_ t_ h_ => h_)) (a2 (hb) (am (ho)))))))
                clear aA aD aE aC aG HB aI
                obtain ⟨aA, aD, aE, aC, aG, HB, dC⟩ := n_
                clear ho hb hg ew
                obtain ⟨c1, ca, gP⟩ := Kd.R_slice dC.o
                (subst gP)
                refine hK.o _ _ ⟨(qAa aC.o 0).trans rfl, (qAa aC.o 1).trans rfl, (qAa aC.o 2).trans rfl, (qAa aC.o 3).trans rfl⟩ (fun hHeld => ?_)
                clear hK K
                refine qBc (a' := ?_) ?_ ?_
                rotate_left
                ·show Act.put _ (some 108) _ = _
                 simp only [Act.put, List.setIfInBounds_toArray, List.set_cons_zero, List.set_cons_succ]
                 rfl
                refine pu 16 109 #[true, true, true, true, true, true, true, true, true, true, true, true, true, true, true, true, true, false] (qAK HT_.o (by kernel_rfl)) ?_
                refine last_ (i := 17) (N := none) #[true, true, true, true, true, true, true, true, true, true, true, true, true, true, true, true, true, true] rfl rfl (qBq HT_.o (by kernel_rfl)) (by decide) (fun K hK => ?_)
                have hfs84 := qAc aC.o 3
                refine skip_ (w1 := ?_) (by rfl) rfl ?_ ?_
                rotate_left
                ·go_simp
                 rfl
                refine hK.o _ _ ?_
                clear hK K
                refine done_ (qC8 HT_.o (by kernel_rfl)) ?_
                try go_wp2
                go_roundg bF
                case measure => have := bc.o; have := cI.o; have := bR.o; have := cz.o; have := bw.o; have := fi.o; have := eY.o; omega
                case rel => exact ⟨(wrap64 (ak - 1)), (cr), (ct), (cH), (.slice c1 cH.length ca), (by rfl), H', ⟨by have := bc.o; have := cI.o; have := bR.o; have := cz.o; have := bw.o; have := fi.o; have := eY.o; omega⟩, ⟨by exact Kd.R_mono (Kd.R_far (p := ⟨aT, 3, none⟩) (Kd.R_types aA.o aC.o (by decide)) (fun _ hk => hk.2) (.slice c1 cH.length ca)) (fun _ hk => trivial)⟩, ⟨by exact Kd.S_mono (Kd.S_far (p := ⟨aT, 3, none⟩) (Kd.S_types aD.o aC.o (by decide)) (fun _ hk => hk.2) (.slice c1 cH.length ca)) (fun _ hk => trivial)⟩, ⟨by exact Kd.R_mono (Kd.R_far (p := ⟨aT, 3, none⟩) (Kd.R_types dC.o aC.o (by decide)) (fun _ hk => hk.2) (.slice c1 cH.length ca)) (fun _ hk => trivial)⟩, ⟨by refine qA1 ?_ aj.o _; exact aE.o⟩, ⟨by refine qA6 (cs := #[.string aU, aW, aX, ab]) ?_ 3 _ rfl; exact aC.o⟩, ⟨by repeat (with_reducible first | exact aG.o | refine qAo.far ?_ bC.o (by exact TyB.of aC.o) (by decide) _)⟩, ⟨by repeat (with_reducible first | exact HB.o | refine qAb ?_ bq.o)⟩⟩
end Q
end
end Go.Proofs.YtfjpnjbinbhcfaaGreat
