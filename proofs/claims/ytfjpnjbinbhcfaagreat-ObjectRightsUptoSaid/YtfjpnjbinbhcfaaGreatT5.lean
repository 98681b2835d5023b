/- The program's object.Right of any object and the document's tell the same, where what is read is of bulk at most 1048576: Rows.ObjectRightsUptoSaid. Part 5 of 10. -/
import Derived.Test.YtfjpnjbinbhcfaaGreatT4
import Derived.Lib.SliceRun
set_option maxHeartbeats 8000000
set_option maxRecDepth 100000
set_option linter.unusedVariables false
set_option linter.unusedSimpArgs false
namespace Go.Proofs.YtfjpnjbinbhcfaaGreat
section
namespace Q
open Go.RowKit PA PC PB
attribute [local go_sem] qAU min2_int qBd min_two max_three min_three max_four min_four
mutual
def qA2.l0 : Nat → List ByteArray → List (S85) → Int → Int → ByteArray → List (S85) → List (S92) → List (S104) → Option (Int)
 | 0, _, _, _, _, _, _, _, _ => none
 | k + 1, x4, cB, e4, bh, au, a4, ah, av => if bh < e4 then (if 0 ≤ bh then (if bh < (cB.length : Int) then ((qBn.f k ((qAV cB bh).f0) x4).bind fun bA => (if bA = 0 then ((qBG.f ((qAV cB bh).f1.f0) ((qAV cB bh).f1.f1)).bind fun bR => (if bR = true then (if x4.length < 8796093022208 then (qA2.l0 k (x4 ++ [(qAV cB bh).f0]) cB e4 (wrap64 (bh + 1)) au a4 ah av) else (none)) else (some 52))) else (some bA))) else (none)) else (none)) else (qA2.l1 k x4 ah (ah.length : Int) 0 au a4 ah av)
def qA2.l1 : Nat → List ByteArray → List (S92) → Int → Int → ByteArray → List (S85) → List (S92) → List (S104) → Option (Int)
 | 0, _, _, _, _, _, _, _, _ => none
 | k + 1, x4, bi, e5, b2, au, a4, ah, av => if b2 < e5 then (if 0 ≤ b2 then (if b2 < (bi.length : Int) then ((qBn.f k ((qAx bi b2).f0) x4).bind fun bB => (if bB = 0 then ((qB3.f ((qAx bi b2).f1.f0.f0) ((qAx bi b2).f1.f0.f1) ((qAx bi b2).f1.f1) ((qAx bi b2).f1.f2)).bind fun bS => (if bS = true then (if x4.length < 8796093022208 then (qA2.l1 k (x4 ++ [(qAx bi b2).f0]) bi e5 (wrap64 (b2 + 1)) au a4 ah av) else (none)) else (some 52))) else (some bB))) else (none)) else (none)) else (if 0 ≤ (a4.length : Int) then (if (a4.length : Int) ≤ (x4.length : Int) then ((qB4.f au a4 ah av (x4.take ((a4.length : Int) : Int).toNat) (x4.drop ((a4.length : Int) : Int).toNat)).bind fun bK => (some bK)) else (none)) else (none))
end
def qA2.f (k : Nat) (a0_0 : ByteArray) (l0_1 : List (S85)) (l0_2 : List (S92)) (l0_3 : List (S104)) : Option (Int) := (qBm.f a0_0).bind fun ap => (if ap = 0 then (if (wrap64 ((l0_1.length : Int) + (l0_2.length : Int))) > 64 then (some 3) else (qA2.l0 k ([] : List ByteArray) l0_1 (l0_1.length : Int) 0 a0_0 l0_1 l0_2 l0_3)) else (some ap))
def qA2.T27 : Bool × List (List Nat × List Nat) := (true, [([], []), ([], []), ([], []), ([2], [2]), ([3], [3]), ([1, 4], [1, 4]), ([], []), ([], []), ([7], [7]), ([8], [8]), ([6, 9], [6, 9]), ([0, 5, 10], [0, 5, 10]), ([11, 11, 0, 1, 2, 3, 4, 5, 6, 7, 8, 9, 10, 11], [11])])
def qA2.B27 : List Nat := [0, 0, 0, 4, 12, 30, 0, 0, 128, 384, 960, 2047, 4095]
theorem qA2.tab27 : rtab .any (opsOf Tryz.f9 27) = qA2.T27 := by kernel_rfl
theorem qA2.bits27 : qCe qA2.T27.2 qA2.B27 = true := by kernel_rfl
theorem qA2.calls (k : Nat) (a0_0 : ByteArray) (aq : Option Addr) (ak : Nat) (l0_1 : List (S85)) (ar : Option Addr) (al : Nat) (l0_2 : List (S92)) (an : Option Addr) (ao : Nat) (l0_3 : List (S104)) (r : Int) (w : World) (hr0_1 : Kd.C k85 w aq l0_1.length l0_1) (hc0_1 : l0_1.length ≤ ak) (hr0_2 : Kd.C k92 w ar l0_2.length l0_2) (hc0_2 : l0_2.length ≤ al) (hr0_3 : Kd.C k104 w an l0_3.length l0_3) (hc0_3 : l0_3.length ≤ ao) (h : qA2.f k a0_0 l0_1 l0_2 l0_3 = some r) :
  Calls Tryz.prog 9 #[.agg #[.string a0_0, .slice aq l0_1.length ak, .slice ar l0_2.length al, .slice an l0_3.length ao]] w fun e w' => e = .returned (.int .i64 r) ∧ Below w.heap.size w w' := by
 have bN := am hr0_1
 have cJ := am hc0_1
 clear hr0_1 hc0_1
 have bO := am hr0_2
 have cK := am hc0_2
 clear hr0_2 hc0_2
 have cQ := am hr0_3
 have cL := am hc0_3
 clear hr0_3 hc0_3
 have HB := am (Below.refl w.heap.size w)
 have H : ((qBm.f a0_0).bind fun ap => (if ap = 0 then (if (wrap64 ((l0_1.length : Int) + (l0_2.length : Int))) > 64 then (some 3) else (qA2.l0 k ([] : List ByteArray) l0_1 (l0_1.length : Int) 0 a0_0 l0_1 l0_2 l0_3)) else (some ap))) = some r := h
 clear h
 replace H := bm H
 obtain ⟨ap, eS, H⟩ := H
 replace H : (if ap = 0 then (if (wrap64 ((l0_1.length : Int) + (l0_2.length : Int))) > 64 then (some 3) else (qA2.l0 k ([] : List ByteArray) l0_1 (l0_1.length : Int) 0 a0_0 l0_1 l0_2 l0_3)) else (some ap)) = some r := H
 have A2 := am eS
 clear eS
 by_cases c3 : ap = 0
 ·rw [if_pos c3] at H
  have eA : (ap == 0) = true := beq_iff_eq.mpr c3
  have c0 : (ap != 0) = false := bn c3
  clear c3
  by_cases c4 : (wrap64 ((l0_1.length : Int) + (l0_2.length : Int))) > 64
  ·rw [if_pos c4] at H
   replace c4 := d1 c4
   obtain rfl := Option.some.inj H
   go_enter Tryz.func9, Tryz.ntmps9
   go_wp2_with (first | ((with_reducible refine qAI (N := 1) rfl ?_); refine bx 1 #[.string a0_0, .slice aq l0_1.length ak, .slice ar l0_2.length al, .slice an l0_3.length ao] 33 ?_; intro aK hg w5 hbox hb; have n_ := a2 (qAp HB.o hb) (am (hbox)); clear HB; obtain ⟨HB, aC⟩ := n_; clear hb hbox hg; have eJ : w5.cell? ⟨aK, 0, none⟩ = some (.string a0_0) := (qAa aC.o 0).trans rfl; have eK : w5.cell? ⟨aK, 1, none⟩ = some (.slice aq l0_1.length ak) := (qAa aC.o 1).trans rfl; have eL : w5.cell? ⟨aK, 2, none⟩ = some (.slice ar l0_2.length al) := (qAa aC.o 2).trans rfl; have eM := qAc aC.o 3) | ((with_reducible refine qAv (f := 30) rfl ?_); refine gL 13 Tryz.func30 #[.string a0_0] ?_; (with_reducible refine (qBm.calls a0_0 ap _ A2.o).mono ?_); rintro e w' ⟨rfl, ⟨nd, rfl⟩⟩; refine ⟨_, rfl, ?_⟩))
   go_ret
   exact ⟨by rfl, by repeat (with_reducible first | exact HB.o | apply qAd)⟩
  ·rw [if_neg c4] at H
   replace c4 := d0 c4
   have H' := am H
   clear H
   go_enter Tryz.func9, Tryz.ntmps9
   go_wp2_with (first | ((with_reducible refine qAI (N := 1) rfl ?_); refine bx 1 #[.string a0_0, .slice aq l0_1.length ak, .slice ar l0_2.length al, .slice an l0_3.length ao] 33 ?_; intro aK hg w7 hbox hb; have n_ := a2 (qAp HB.o hb) (am (hbox)); clear HB; obtain ⟨HB, aC⟩ := n_; clear hb hbox hg; have bl : w7.cell? ⟨aK, 0, none⟩ = some (.string a0_0) := (qAa aC.o 0).trans rfl; have bo : w7.cell? ⟨aK, 1, none⟩ = some (.slice aq l0_1.length ak) := (qAa aC.o 1).trans rfl; have bp : w7.cell? ⟨aK, 2, none⟩ = some (.slice ar l0_2.length al) := (qAa aC.o 2).trans rfl; have bq : w7.cell? ⟨aK, 3, none⟩ = some (.slice an l0_3.length ao) := (qAa aC.o 3).trans rfl; have br := qAc aC.o 0; have bs := qAc aC.o 1; have bu := qAc aC.o 2; have bw := qAc aC.o 3) | ((with_reducible refine qAv (f := 30) rfl ?_); refine gL 13 Tryz.func30 #[.string a0_0] ?_; (with_reducible refine (qBm.calls a0_0 ap _ A2.o).mono ?_); rintro e w' ⟨rfl, ⟨nd, rfl⟩⟩; refine ⟨_, rfl, ?_⟩))
   go_loopg [4, 28] k (fun kq v4 eb w' => ∃ (a6 : List ByteArray) (aD : Int), eb = .int .i64 aD ∧ qAj (qA2.l0 kq a6 l0_1 (l0_1.length : Int) aD a0_0 l0_1 l0_2 l0_3 = some r) ∧ qAj (kq ≤ k) ∧ qAj (Kd.R Kd.string 9 w' w.heap.size (fun _ => True) v4 a6) ∧ qAj (w'.heap[aK]? = some (.cells #[.string a0_0, (.slice aq l0_1.length ak), (.slice ar l0_2.length al), (.slice an l0_3.length ao)] 33 (0, 0))) ∧ qAj (Below w.heap.size w w'))
   case atStart => exact ⟨([] : List ByteArray), (0), (by rfl), H', ⟨Nat.le_refl _⟩, ⟨by (exact Kd.R_nil _ _ _ _ _)⟩, ⟨by (with_reducible repeat (refine qAf ?_ _)); exact aC.o⟩, ⟨by repeat (with_reducible first | exact HB.o | apply qAd)⟩⟩
   case round =>
    clear H'
    obtain ⟨a6, aD, rfl, HA, co, aH, aC, HB⟩ := hrel
    cases gk with
    | zero => exact absurd HA.o (by simp [qA2.l0])
    | succ k1 =>
     have H := HA.o
     clear HA
     simp only [qA2.l0] at H
     by_cases c9 : aD < (l0_1.length : Int)
     ·rw [if_pos c9] at H
      replace c9 := d1 c9
      obtain ⟨c10, H⟩ := gd H
      replace c10 := d1 c10
      obtain ⟨cp, H⟩ := gd H
      replace cp := d1 cp
      replace H := bm H
      obtain ⟨bA, cC, H⟩ := H
      replace H : (if bA = 0 then ((qBG.f ((qAV l0_1 aD).f1.f0) ((qAV l0_1 aD).f1.f1)).bind fun bR => (if bR = true then (if a6.length < 8796093022208 then (qA2.l0 k1 (a6 ++ [(qAV l0_1 aD).f0]) l0_1 (l0_1.length : Int) (wrap64 (aD + 1)) a0_0 l0_1 l0_2 l0_3) else (none)) else (some 52))) else (some bA)) = some r := H
      have du := am cC
      clear cC
      by_cases cV : bA = 0
      rotate_left
      ·rw [if_neg cV] at H
       have cW : (bA != 0) = true := bne_iff_ne.mpr cV
       obtain rfl := Option.some.inj H
       have aw : 0 ≤ aD := od (by assumption)
       have ay : aD < (l0_1.length : Int) := od (by assumption)
       obtain ⟨bP, bW, aN, aQ, aR⟩ := at_T85 bN.o aD aw ay
       cases bW
       replace aN := (HB.o.cell (World.block_lt_of_cell? w _ aN)).trans aN
       replace aQ := (HB.o.cell (World.block_lt_of_cell? w _ aQ)).trans aQ
       replace aR := (HB.o.cell (World.block_lt_of_cell? w _ aR)).trans aR
       replace aw := eq_true aw
       replace ay := eq_true ay
       go_wp2_with (first | ((with_reducible refine qAI (N := 6) rfl ?_); refine bx 6 #[.string ⟨#[]⟩, .int .i64 0, .int .u64 0] 85 ?_; intro aJ hg eQ hbox hb; have n_ := a2 (Kd.R_below aH.o hb) (a2 (qAp HB.o hb) (a2 (hbox) (am (by rw [hg]; exact (qAs HB.o) : w.heap.size ≤ aJ)))); clear aH aC HB; obtain ⟨aH, HB, aI, bJ⟩ := n_; clear hb hbox hg; have dF : eQ.cell? ⟨aJ, 0, none⟩ = some (.string ⟨#[]⟩) := (qAa aI.o 0).trans rfl; have dG : eQ.cell? ⟨aJ, 1, none⟩ = some (.int .i64 0) := (qAa aI.o 1).trans rfl; have dH : eQ.cell? ⟨aJ, 2, none⟩ = some (.int .u64 0) := (qAa aI.o 2).trans rfl; have d8 := qAc aI.o 0; have d9 := qAc aI.o 1; have da := qAc aI.o 2; obtain ⟨dx, cf, eD⟩ := Kd.R_slice aH.o; subst eD) | ((with_reducible refine qAv (f := 31) rfl ?_); refine gL 35 Tryz.func31 #[.string ((qAV l0_1 aD).f0), .slice dx a6.length cf] ?_; (with_reducible refine (qBn.calls k1 ((qAV l0_1 aD).f0) _ _ a6 bA _ ?side1 ?side2 du.o).mono ?_); (case side1 => refine (Kd.R_reads' (e := 9) (base := w.heap.size) (ok := fun k_ => True) (n := a6.length) (c := cf) ?_).2.2; exact (by exact (Kd.R_mono (Kd.R_far (p := ⟨aJ, 2, none⟩) (Kd.R_far (p := ⟨aJ, 1, none⟩) (Kd.R_far (p := ⟨aJ, 0, none⟩) (Kd.R_types aH.o aI.o (by decide)) (fun _ hk => hk.2) (.string ((qAV l0_1 aD).f0))) (fun _ hk => hk.2) (.int .i64 ((qAV l0_1 aD).f1.f0))) (fun _ hk => hk.2) (.int .u64 ((qAV l0_1 aD).f1.f1))) (fun _ h_ => h_.1)))); (case side2 => exact (Kd.R_reads' aH.o).2.1); rintro e w' ⟨rfl, ⟨nd, rfl⟩⟩; refine ⟨_, rfl, ?_⟩))
       go_ret
       exact ⟨by rfl, by repeat (with_reducible first | exact HB.o | apply qAd | refine qAb ?_ bJ.o)⟩
      rw [if_pos cV] at H
      have cW : (bA != 0) = false := bn cV
      clear cV
      replace H := bm H
      obtain ⟨bR, cD, H⟩ := H
      replace H : (if bR = true then (if a6.length < 8796093022208 then (qA2.l0 k1 (a6 ++ [(qAV l0_1 aD).f0]) l0_1 (l0_1.length : Int) (wrap64 (aD + 1)) a0_0 l0_1 l0_2 l0_3) else (none)) else (some 52)) = some r := H
      have eR := am cD
      clear cD
      by_cases cq : bR = true
      rotate_left
      ·replace cq := Bool.eq_false_iff.mpr cq
       subst cq
       replace H : (some 52) = some r := by rw [if_neg (show ¬ (false = true) by decide)] at H; exact H
       obtain rfl := Option.some.inj H
       have aw : 0 ≤ aD := od (by assumption)
       have ay : aD < (l0_1.length : Int) := od (by assumption)
       obtain ⟨bP, bW, aN, aQ, aR⟩ := at_T85 bN.o aD aw ay
       cases bW
       replace aN := (HB.o.cell (World.block_lt_of_cell? w _ aN)).trans aN
       replace aQ := (HB.o.cell (World.block_lt_of_cell? w _ aQ)).trans aQ
       replace aR := (HB.o.cell (World.block_lt_of_cell? w _ aR)).trans aR
       replace aw := eq_true aw
       replace ay := eq_true ay
       go_wp2_with (first | ((with_reducible refine qAI (N := 6) rfl ?_); refine bx 6 #[.string ⟨#[]⟩, .int .i64 0, .int .u64 0] 85 ?_; intro aJ hg eP hbox hb; have n_ := a2 (Kd.R_below aH.o hb) (a2 (qAt aC.o hb) (a2 (qAp HB.o hb) (a2 (hbox) (a2 (by rw [hg]; exact (qAs HB.o) : w.heap.size ≤ aJ) (am (by rw [hg]; exact Nat.ne_of_lt (qAM aC.o) : aK ≠ aJ)))))); clear aH aC HB; obtain ⟨aH, aC, HB, aI, bJ, aj⟩ := n_; clear hb hbox hg; have dC : eP.cell? ⟨aJ, 0, none⟩ = some (.string ⟨#[]⟩) := (qAa aI.o 0).trans rfl; have dD : eP.cell? ⟨aJ, 1, none⟩ = some (.int .i64 0) := (qAa aI.o 1).trans rfl; have dE : eP.cell? ⟨aJ, 2, none⟩ = some (.int .u64 0) := (qAa aI.o 2).trans rfl; have d5 := qAc aI.o 0; have d6 := qAc aI.o 1; have d7 := qAc aI.o 2; obtain ⟨dw, ce, eC⟩ := Kd.R_slice aH.o; subst eC) | ((with_reducible refine qAv (f := 31) rfl ?_); refine gL 35 Tryz.func31 #[.string ((qAV l0_1 aD).f0), .slice dw a6.length ce] ?_; (with_reducible refine (qBn.calls k1 ((qAV l0_1 aD).f0) _ _ a6 bA _ ?side1 ?side2 du.o).mono ?_); (case side1 => refine (Kd.R_reads' (e := 9) (base := w.heap.size) (ok := fun k_ => True) (n := a6.length) (c := ce) ?_).2.2; exact (by exact (Kd.R_mono (Kd.R_far (p := ⟨aJ, 2, none⟩) (Kd.R_far (p := ⟨aJ, 1, none⟩) (Kd.R_far (p := ⟨aJ, 0, none⟩) (Kd.R_types aH.o aI.o (by decide)) (fun _ hk => hk.2) (.string ((qAV l0_1 aD).f0))) (fun _ hk => hk.2) (.int .i64 ((qAV l0_1 aD).f1.f0))) (fun _ hk => hk.2) (.int .u64 ((qAV l0_1 aD).f1.f1))) (fun _ h_ => h_.1)))); (case side2 => exact (Kd.R_reads' aH.o).2.1); rintro e w' ⟨rfl, ⟨nd, rfl⟩⟩; refine ⟨_, rfl, ?_⟩) | ((with_reducible refine qAv (f := 32) rfl ?_); refine gL 41 Tryz.func32 #[.agg #[.int .i64 ((qAV l0_1 aD).f1.f0), .int .u64 ((qAV l0_1 aD).f1.f1)]] ?_; (with_reducible refine (qBG.calls ((qAV l0_1 aD).f1.f0) ((qAV l0_1 aD).f1.f1) false _ eR.o).mono ?_); rintro e eh ⟨rfl, hb⟩; refine ⟨_, rfl, ?_⟩; have n_ := am (qAp (by repeat (with_reducible first | exact HB.o | apply qAd | refine qAb ?_ bJ.o)) hb); clear aH aC aI HB; have HB := n_; clear n_; (skip)))
       go_ret
       exact ⟨by rfl, by exact HB.o⟩
      subst cq
      replace H : (if a6.length < 8796093022208 then (qA2.l0 k1 (a6 ++ [(qAV l0_1 aD).f0]) l0_1 (l0_1.length : Int) (wrap64 (aD + 1)) a0_0 l0_1 l0_2 l0_3) else (none)) = some r := by rw [if_pos rfl] at H; exact H
      obtain ⟨cr, H⟩ := gd H
      have cR := am cr
      clear cr
      obtain ⟨cm, bY⟩ : ∃ y_ : List ByteArray, y_ = (a6 ++ [(qAV l0_1 aD).f0]) := ⟨_, rfl⟩
      replace H : (qA2.l0 k1 cm l0_1 (l0_1.length : Int) (wrap64 (aD + 1)) a0_0 l0_1 l0_2 l0_3) = some r := by (rw [bY]; with_reducible exact H)
      have cT := am bY
      clear bY
      have H' := am H
      clear H
      have aw : 0 ≤ aD := od (by assumption)
      have ay : aD < (l0_1.length : Int) := od (by assumption)
      obtain ⟨bP, bW, aN, aQ, aR⟩ := at_T85 bN.o aD aw ay
      cases bW
      replace aN := (HB.o.cell (World.block_lt_of_cell? w _ aN)).trans aN
      replace aQ := (HB.o.cell (World.block_lt_of_cell? w _ aQ)).trans aQ
      replace aR := (HB.o.cell (World.block_lt_of_cell? w _ aR)).trans aR
      replace aw := eq_true aw
      replace ay := eq_true ay
      go_wp2_with (first | ((with_reducible refine qAI (N := 6) rfl ?_); refine bx 6 #[.string ⟨#[]⟩, .int .i64 0, .int .u64 0] 85 ?_; intro aJ hg eO hbox hb; have n_ := a2 (Kd.R_below aH.o hb) (a2 (qAt aC.o hb) (a2 (qAp HB.o hb) (a2 (hbox) (a2 (by rw [hg]; exact (qAs HB.o) : w.heap.size ≤ aJ) (am (by rw [hg]; exact Nat.ne_of_lt (qAM aC.o) : aK ≠ aJ)))))); clear aH aC HB; obtain ⟨aH, aC, HB, aI, bJ, aj⟩ := n_; clear hb hbox hg; have cy : eO.cell? ⟨aJ, 0, none⟩ = some (.string ⟨#[]⟩) := (qAa aI.o 0).trans rfl; have cz : eO.cell? ⟨aJ, 1, none⟩ = some (.int .i64 0) := (qAa aI.o 1).trans rfl; have dA : eO.cell? ⟨aJ, 2, none⟩ = some (.int .u64 0) := (qAa aI.o 2).trans rfl; have dZ := qAc aI.o 0; have d2 := qAc aI.o 1; have d3 := qAc aI.o 2; obtain ⟨cH, bj, eB⟩ := Kd.R_slice aH.o; subst eB) | ((with_reducible refine qAv (f := 31) rfl ?_); refine gL 35 Tryz.func31 #[.string ((qAV l0_1 aD).f0), .slice cH a6.length bj] ?_; (with_reducible refine (qBn.calls k1 ((qAV l0_1 aD).f0) _ _ a6 bA _ ?side1 ?side2 du.o).mono ?_); (case side1 => refine (Kd.R_reads' (e := 9) (base := w.heap.size) (ok := fun k_ => True) (n := a6.length) (c := bj) ?_).2.2; exact (by exact (Kd.R_mono (Kd.R_far (p := ⟨aJ, 2, none⟩) (Kd.R_far (p := ⟨aJ, 1, none⟩) (Kd.R_far (p := ⟨aJ, 0, none⟩) (Kd.R_types aH.o aI.o (by decide)) (fun _ hk => hk.2) (.string ((qAV l0_1 aD).f0))) (fun _ hk => hk.2) (.int .i64 ((qAV l0_1 aD).f1.f0))) (fun _ hk => hk.2) (.int .u64 ((qAV l0_1 aD).f1.f1))) (fun _ h_ => h_.1)))); (case side2 => exact (Kd.R_reads' aH.o).2.1); rintro e w' ⟨rfl, ⟨nd, rfl⟩⟩; refine ⟨_, rfl, ?_⟩) | ((with_reducible refine qAv (f := 32) rfl ?_); refine gL 41 Tryz.func32 #[.agg #[.int .i64 ((qAV l0_1 aD).f1.f0), .int .u64 ((qAV l0_1 aD).f1.f1)]] ?_; (with_reducible refine (qBG.calls ((qAV l0_1 aD).f1.f0) ((qAV l0_1 aD).f1.f1) true _ eR.o).mono ?_); rintro e ed ⟨rfl, hb⟩; refine ⟨_, rfl, ?_⟩; have n_ := a2 (Kd.R_below (by (with_reducible repeat (apply Kd.R_drewN)); exact (Kd.R_mono (Kd.R_far (p := ⟨aJ, 2, none⟩) (Kd.R_far (p := ⟨aJ, 1, none⟩) (Kd.R_far (p := ⟨aJ, 0, none⟩) (Kd.R_types aH.o aI.o (by decide)) (fun _ hk => hk.2) (.string ((qAV l0_1 aD).f0))) (fun _ hk => hk.2) (.int .i64 ((qAV l0_1 aD).f1.f0))) (fun _ hk => hk.2) (.int .u64 ((qAV l0_1 aD).f1.f1))) (fun _ h_ => h_.1))) hb) (a2 (qAt (g := aK) (o := .cells #[.string a0_0, .slice (some bP) l0_1.length ak, .slice ar l0_2.length al, .slice an l0_3.length ao] 33 (0, 0)) (by (with_reducible repeat (refine qAf ?_ _)); refine qA1 ?_ aj.o _; refine qA1 ?_ aj.o _; refine qA1 ?_ aj.o _; exact aC.o) hb) (a2 (qAt (g := aJ) (o := .cells #[.string ((qAV l0_1 aD).f0), .int .i64 ((qAV l0_1 aD).f1.f0), .int .u64 ((qAV l0_1 aD).f1.f1)] 85 (0, 0)) (by (with_reducible repeat (refine qAf ?_ _)); refine qA6 (cs := #[.string ((qAV l0_1 aD).f0), .int .i64 ((qAV l0_1 aD).f1.f0), .int .u64 0]) ?_ 2 _ rfl; refine qA6 (cs := #[.string ((qAV l0_1 aD).f0), .int .i64 0, .int .u64 0]) ?_ 1 _ rfl; refine qA6 (cs := #[.string ⟨#[]⟩, .int .i64 0, .int .u64 0]) ?_ 0 _ rfl; exact aI.o) hb) (am (qAp (by repeat (with_reducible first | exact HB.o | apply qAd | refine qAb ?_ bJ.o)) hb)))); clear aH aC aI HB; obtain ⟨aH, aC, aI, HB⟩ := n_; have dB : ed.cell? ⟨aJ, 0, none⟩ = some (.string ((qAV l0_1 aD).f0)) := (qAa aI.o 0).trans rfl; have d4 := qAc aI.o 2) | ((with_reducible refine qBE (b := .append) (xs := #[.tmp 43, .tmp 46]) rfl ?_); at_builtin; refine Kd.R_append Kd.string (w0 := w) w.heap.size rfl (.tmp 43) (.tmp 46) 80 9 (.string ⟨#[]⟩) 16 rfl Tryz.underlying80 info9 rfl (by decide) (by omega) (.slice cH a6.length bj) a6 ((qAV l0_1 aD).f0) [.string ((qAV l0_1 aD).f0)] (fun _ => True) (fun _ => False) rfl rfl ?aP (fun _ hk => hk.elim) ?aF ?aO ?aB ?aS ?aL ?_; (case aP => exact rfl); (case aB => exact HB.o); (case aF => exact (fun _ _ => trivial)); (case aO => exact aH.o); (case aS => exact (qAs HB.o)); (case aL => have := cR.o; omega); intro e9 eg ho hb hg eI; rw [← cT.o] at ho; have n_ := a2 (qAP (g := aK) (o := .cells #[.string a0_0, .slice (some bP) l0_1.length ak, .slice ar l0_2.length al, .slice an l0_3.length ao] 33 (0, 0)) aC.o hg (Kd.R_ne aH.o aC.o (by decide))) (a2 (hb) (am (ho))); clear aC aI HB aH; obtain ⟨aC, HB, cO⟩ := n_; clear ho hb hg eI))
      go_roundg k1
      case measure => have := co.o; omega
      case rel => exact ⟨(cm), (wrap64 (aD + 1)), (by rfl), H', ⟨by have := co.o; omega⟩, ⟨by exact cO.o⟩, ⟨by exact aC.o⟩, ⟨by exact HB.o⟩⟩
     rw [if_neg c9] at H
     replace c9 := d0 c9
     have H' := am H
     clear H
     have b3 : wr.cell? ⟨aK, 0, none⟩ = some (.string a0_0) := (qAa aC.o 0).trans rfl
     have b4 : wr.cell? ⟨aK, 1, none⟩ = some (.slice aq l0_1.length ak) := (qAa aC.o 1).trans rfl
     have b5 : wr.cell? ⟨aK, 2, none⟩ = some (.slice ar l0_2.length al) := (qAa aC.o 2).trans rfl
     have b6 : wr.cell? ⟨aK, 3, none⟩ = some (.slice an l0_3.length ao) := (qAa aC.o 3).trans rfl
     have b7 := qAc aC.o 0
     have b8 := qAc aC.o 1
     have b9 := qAc aC.o 2
     have ba := qAc aC.o 3
     go_wp2
     go_loopg [4, 52] k1 (fun kq v4 ec w' => ∃ (aM : List ByteArray) (aA : Int), ec = .int .i64 aA ∧ qAj (qA2.l1 kq aM l0_2 (l0_2.length : Int) aA a0_0 l0_1 l0_2 l0_3 = some r) ∧ qAj (kq ≤ k1) ∧ qAj (Kd.R Kd.string 9 w' w.heap.size (fun _ => True) v4 aM) ∧ qAj (w'.heap[aK]? = some (.cells #[.string a0_0, (.slice aq l0_1.length ak), (.slice ar l0_2.length al), (.slice an l0_3.length ao)] 33 (0, 0))) ∧ qAj (Below w.heap.size w w'))
     case atStart => exact ⟨(a6), (0), (by rfl), H', ⟨Nat.le_refl _⟩, ⟨by exact aH.o⟩, ⟨by exact aC.o⟩, ⟨by exact HB.o⟩⟩
     case round =>
      clear H'
      obtain ⟨aM, aA, rfl, HA, eV, aH, aC, HB⟩ := hrel
      cases gk with
      | zero => exact absurd HA.o (by simp [qA2.l1])
      | succ k2 =>
       have H := HA.o
       clear HA
       simp only [qA2.l1] at H
       by_cases cA : aA < (l0_2.length : Int)
       rotate_left
       ·rw [if_neg cA] at H
        replace cA := d0 cA
        obtain ⟨cc, H⟩ := gd H
        have e0 := eq_true cc
        replace cc := d1 cc
        obtain ⟨cx, H⟩ := gd H
        replace cx := d1 cx
        obtain ⟨bT, bZ⟩ : ∃ y_ : List ByteArray, y_ = (aM.take ((l0_1.length : Int) : Int).toNat) := ⟨_, rfl⟩
        replace H : ((qB4.f a0_0 l0_1 l0_2 l0_3 bT (aM.drop ((l0_1.length : Int) : Int).toNat)).bind fun bK => (some bK)) = some r := by (rw [bZ]; with_reducible exact H)
        have bb := am bZ
        clear bZ
        obtain ⟨bL, b0⟩ : ∃ y_ : List ByteArray, y_ = (aM.drop ((l0_1.length : Int) : Int).toNat) := ⟨_, rfl⟩
        replace H : ((qB4.f a0_0 l0_1 l0_2 l0_3 bT bL).bind fun bK => (some bK)) = some r := by (rw [b0]; with_reducible exact H)
        have bc := am b0
        clear b0
        replace H := bm H
        obtain ⟨bK, cG, H⟩ := H
        replace H : (some bK) = some r := H
        have e6 := am cG
        clear cG
        obtain rfl := Option.some.inj H
        try go_wp2
        have n_ := a2 (Kd.R_drew aH.o) (a2 (qAh aC.o) (am (qAk HB.o)))
        clear aH aC HB
        obtain ⟨aH, aC, HB⟩ := n_
        obtain ⟨bM, bI, eH⟩ := Kd.R_slice aH.o
        (subst eH)
        have e7 : ((l0_1.length : Int) : Int) ≤ ((aM.length : Int) : Int) := od (by assumption)
        obtain ⟨i064, bd, _, hsz64, _⟩ := info_parts info9
        have hroom64 : aM.length ≤ bI := (Kd.R_reads' aH.o).2.1
        have hC64 : Kd.C Kd.string _ bM aM.length aM := (Kd.R_reads' aH.o).2.2
        have hcut64 := cut_to (P := Tryz.prog) 80 9 .i64 Tryz.underlying80 bd bM aM.length bI (l0_1.length : Int) (od (by assumption)) e7 hroom64
        have hr64 := Kd.C_take (m := ((l0_1.length : Int) : Int).toNat) hC64 (by omega)
        have ci : bT.length = ((l0_1.length : Int) : Int).toNat := (by rw [bb.o, List.length_take]; omega)
        rw [← bb.o] at hr64
        rw [← ci] at hcut64
        have bU := am hr64
        have cM := am (show bT.length ≤ bI from by omega)
        clear hr64 hC64 hroom64 bd hsz64 ci
        have e8 : ((l0_1.length : Int) : Int) ≤ ((aM.length : Int) : Int) := od (by assumption)
        obtain ⟨i066, bg, _, hsz66, _⟩ := info_parts info9
        have hroom66 : aM.length ≤ bI := (Kd.R_reads' aH.o).2.1
        have hC66 : Kd.C Kd.string _ bM aM.length aM := (Kd.R_reads' aH.o).2.2
        have eN : (0 : Int) ≤ ((l0_1.length : Int) : Int) := od (by assumption)
        have hcut66 := cut_from (P := Tryz.prog) 80 9 .i64 Tryz.underlying80 bg 1 hsz66 bM aM.length bI (l0_1.length : Int) eN e8
        have hr66 := Kd.C_drop (m := ((l0_1.length : Int) : Int).toNat) (c := bI) hC66 (by omega) hroom66
        obtain ⟨eU, hA66⟩ : ∃ A1, A1 = (if bI = ((l0_1.length : Int) : Int).toNat then bM else (bM : Option Addr).map (·.add (((l0_1.length : Int) : Int).toNat * 1))) := ⟨_, rfl⟩
        obtain ⟨e3, hc66⟩ : ∃ c1, c1 = bI - ((l0_1.length : Int) : Int).toNat := ⟨_, rfl⟩
        have bz : bL.length = aM.length - ((l0_1.length : Int) : Int).toNat := (by rw [bc.o, List.length_drop] <;> omega)
        rw [show (aM).drop ((l0_1.length : Int) : Int).toNat = bL from bc.o.symm] at hr66
        replace hr66 : Kd.C Kd.string _ eU bL.length bL := (by rw [hA66]; exact hr66)
        rw [← bz, ← hA66, ← hc66] at hcut66
        have bV := am hr66
        have cN := am (show bL.length ≤ e3 from by rw [bz, hc66]; exact Nat.sub_le_sub_right hroom66 _)
        clear hr66 hC66 hroom66 bg hsz66 hc66 bz hA66
        refine qDz (n := 13) (S := fun w' => w'.cell? ⟨aK, 0, none⟩ = some (.string a0_0) ∧ w'.cell? ⟨aK, 1, none⟩ = some (.slice aq l0_1.length ak) ∧ w'.cell? ⟨aK, 2, none⟩ = some (.slice ar l0_2.length al) ∧ w'.cell? ⟨aK, 3, none⟩ = some (.slice an l0_3.length ao)) (ds := []) #[false, false, false, false, false, false, false, false, false, false, false, false, false] (by kernel_rfl) rfl rfl ⟨(qAa aC.o 0).trans rfl, (qAa aC.o 1).trans rfl, (qAa aC.o 2).trans rfl, (qAa aC.o 3).trans rfl⟩ (fun hHeld => ?_); refine qBM qA2.tab27 qA2.bits27 (fun HT_ HW_ => ?_)
        generalize wr.drew = ek at aH aC HB bU bV hHeld ⊢
        refine pu 1 74 #[false, true, false, false, false, false, false, false, false, false, false, false, false] (qAK HT_.o (by kernel_rfl)) ?_
        refine pu 2 75 #[false, true, true, false, false, false, false, false, false, false, false, false, false] (qAK HT_.o (by kernel_rfl)) ?_
        refine pu 6 79 #[false, true, true, false, false, false, true, false, false, false, false, false, false] (qAK HT_.o (by kernel_rfl)) ?_
        refine pu 7 80 #[false, true, true, false, false, false, true, true, false, false, false, false, false] (qAK HT_.o (by kernel_rfl)) ?_
        refine qBR (i := 0) (N := some 73) (v := ?_) (a' := ?_) #[true, true, true, false, false, false, true, true, false, false, false, false, false] rfl rfl (qBg HT_.o HW_.o (by kernel_rfl)) (fun _ _ _ h => h) (Or.inl ⟨by rfl, ?_⟩) hHeld ?_ ?_
        rotate_left
        ·rintro w' ⟨s0, s1, s2, s3⟩
         go_simp
         with_reducible rfl
        rotate_left
        ·simp only [Act.put, List.setIfInBounds_toArray, List.set_cons_zero, List.set_cons_succ]
         rfl
        refine qBR (i := 3) (N := some 76) (v := ?_) (a' := ?_) #[true, true, true, true, false, false, true, true, false, false, false, false, false] rfl rfl (qBg HT_.o HW_.o (by kernel_rfl)) (fun _ _ _ h => h) (Or.inl ⟨by rfl, ?_⟩) hHeld ?_ ?_
        rotate_left
        ·rintro w' ⟨s0, s1, s2, s3⟩
         go_simp
         with_reducible rfl
        rotate_left
        ·simp only [Act.put, List.setIfInBounds_toArray, List.set_cons_zero, List.set_cons_succ]
         rfl
        refine pu 4 77 #[true, true, true, true, true, false, true, true, false, false, false, false, false] (qAK HT_.o (by kernel_rfl)) ?_
        refine pu 5 78 #[true, true, true, true, true, true, true, true, false, false, false, false, false] (qAK HT_.o (by kernel_rfl)) ?_
        refine qBR (i := 8) (N := some 81) (v := ?_) (a' := ?_) #[true, true, true, true, true, true, true, true, true, false, false, false, false] rfl rfl (qBg HT_.o HW_.o (by kernel_rfl)) (fun _ _ _ h => h) (Or.inl ⟨by rfl, ?_⟩) hHeld ?_ ?_
        rotate_left
        ·rintro w' ⟨s0, s1, s2, s3⟩
         go_simp
         with_reducible rfl
        rotate_left
        ·simp only [Act.put, List.setIfInBounds_toArray, List.set_cons_zero, List.set_cons_succ]
         rfl
        refine pu 9 82 #[true, true, true, true, true, true, true, true, true, true, false, false, false] (qAK HT_.o (by kernel_rfl)) ?_
        refine pu 10 83 #[true, true, true, true, true, true, true, true, true, true, true, false, false] (qAK HT_.o (by kernel_rfl)) ?_
        refine one_ (i := 11) (N := some 84) #[true, true, true, true, true, true, true, true, true, true, true, true, false] rfl rfl (qBq HT_.o (by kernel_rfl)) (by decide) (fun K hK => ?_)
        refine qCP Tryz.func34 (by kernel_rfl) rfl #[.agg #[.string a0_0, .slice aq l0_1.length ak, .slice ar l0_2.length al, .slice an l0_3.length ao], .slice bM bT.length bI, .slice eU bL.length e3] (by rfl) rfl rfl (by (try simp only [List.map_toArray, List.map_cons, List.map_nil]); (rfl)) ?_
        with_reducible refine (qB4.calls a0_0 _ _ l0_1 _ _ l0_2 _ _ l0_3 _ _ bT _ _ bL bK _ ?side1 ?side2 ?side3 ?side4 ?side5 ?side6 ?side7 ?side8 ?side9 ?side10 e6.o).mono ?_
        (case side1 => exact (Kd.C_below bN.o HB.o))
        (case side2 => exact cJ.o)
        (case side3 => exact (Kd.C_below bO.o HB.o))
        (case side4 => exact cK.o)
        (case side5 => exact (Kd.C_below cQ.o HB.o))
        (case side6 => exact cL.o)
        (case side7 => exact (by repeat (with_reducible exact bU.o)))
        (case side8 => exact cM.o)
        (case side9 => exact (by repeat (with_reducible exact bV.o)))
        (case side10 => exact cN.o)
        rintro e el ⟨rfl, hb⟩
        refine ⟨_, rfl, ?_⟩
        have n_ := a2 (qAt aC.o hb) (am (qAp HB.o hb))
        clear aH aC bU bV HB
        obtain ⟨aC, HB⟩ := n_
        (try clear hb)
        (skip)
        (skip)
        (skip)
        refine hK.o _ _ ⟨(qAa aC.o 0).trans rfl, (qAa aC.o 1).trans rfl, (qAa aC.o 2).trans rfl, (qAa aC.o 3).trans rfl⟩ (fun hHeld => ?_)
        clear hK K
        refine qBc (a' := ?_) ?_ ?_
        rotate_left
        ·show Act.put _ (some 84) _ = _
         simp only [Act.put, List.setIfInBounds_toArray, List.set_cons_zero, List.set_cons_succ]
         rfl
        refine pu 12 2 #[true, true, true, true, true, true, true, true, true, true, true, true, true] (qAK HT_.o (by kernel_rfl)) ?_
        refine done_ (qC8 HT_.o (by kernel_rfl)) ?_
        try go_wp2
        go_ret
        exact ⟨by rfl, by exact HB.o⟩
       rw [if_pos cA] at H
       replace cA := d1 cA
       obtain ⟨ct, H⟩ := gd H
       replace ct := d1 ct
       obtain ⟨cu, H⟩ := gd H
       replace cu := d1 cu
       replace H := bm H
       obtain ⟨bB, cE, H⟩ := H
       replace H : (if bB = 0 then ((qB3.f ((qAx l0_2 aA).f1.f0.f0) ((qAx l0_2 aA).f1.f0.f1) ((qAx l0_2 aA).f1.f1) ((qAx l0_2 aA).f1.f2)).bind fun bS => (if bS = true then (if aM.length < 8796093022208 then (qA2.l1 k2 (aM ++ [(qAx l0_2 aA).f0]) l0_2 (l0_2.length : Int) (wrap64 (aA + 1)) a0_0 l0_1 l0_2 l0_3) else (none)) else (some 52))) else (some bB)) = some r := H
       have dv := am cE
       clear cE
       by_cases cY : bB = 0
       rotate_left
       ·rw [if_neg cY] at H
        have cZ : (bB != 0) = true := bne_iff_ne.mpr cY
        obtain rfl := Option.some.inj H
        have ax : 0 ≤ aA := od (by assumption)
        have az : aA < (l0_2.length : Int) := od (by assumption)
        obtain ⟨bQ, aY, aZ, a7, a8, a9, aa, bX, aT, aU, aV, aW, aX, ae, ab, af, ac, ag, ad⟩ := at_T92 bO.o aA ax az
        cases bX
        replace aT := (HB.o.cell (World.block_lt_of_cell? w _ aT)).trans aT
        replace aU := (HB.o.cell (World.block_lt_of_cell? w _ aU)).trans aU
        replace aV := (HB.o.cell (World.block_lt_of_cell? w _ aV)).trans aV
        replace aW := (HB.o.cell (World.block_lt_of_cell? w _ aW)).trans aW
        replace aX := (HB.o.cell (World.block_lt_of_cell? w _ aX)).trans aX
        clear ab ae ac af ad ag
        replace ax := eq_true ax
        replace az := eq_true az
        go_wp2_with (first | ((with_reducible refine qAI (N := 9) rfl ?_); refine bx 9 #[.string ⟨#[]⟩, .slice none 0 0, .int .i64 0, .slice none 0 0, .slice none 0 0] 92 ?_; intro aE hg cl hbox hb; have n_ := a2 (Kd.R_below aH.o hb) (a2 (qAp HB.o hb) (a2 (hbox) (am (by rw [hg]; exact (qAs HB.o) : w.heap.size ≤ aE)))); clear aH aC HB; obtain ⟨aH, HB, aG, ai⟩ := n_; clear hb hbox hg; have dT : cl.cell? ⟨aE, 0, none⟩ = some (.string ⟨#[]⟩) := (qAa aG.o 0).trans rfl; have dU : cl.cell? ⟨aE, 1, none⟩ = some (.slice none 0 0) := (qAa aG.o 1).trans rfl; have dV : cl.cell? ⟨aE, 2, none⟩ = some (.int .i64 0) := (qAa aG.o 2).trans rfl; have dW : cl.cell? ⟨aE, 3, none⟩ = some (.slice none 0 0) := (qAa aG.o 3).trans rfl; have dX : cl.cell? ⟨aE, 4, none⟩ = some (.slice none 0 0) := (qAa aG.o 4).trans rfl; have dm := qAc aG.o 0; have dn := qAc aG.o 1; have dp := qAc aG.o 2; have dq := qAc aG.o 3; have dr := qAc aG.o 4; obtain ⟨dz, ch, eG⟩ := Kd.R_slice aH.o; subst eG) | ((with_reducible refine qAv (f := 31) rfl ?_); refine gL 59 Tryz.func31 #[.string ((qAx l0_2 aA).f0), .slice dz aM.length ch] ?_; (with_reducible refine (qBn.calls k2 ((qAx l0_2 aA).f0) _ _ aM bB _ ?side1 ?side2 dv.o).mono ?_); (case side1 => refine (Kd.R_reads' (e := 9) (base := w.heap.size) (ok := fun k_ => True) (n := aM.length) (c := ch) ?_).2.2; exact (by exact (Kd.R_mono (Kd.R_far (p := ⟨aE, 4, none⟩) (Kd.R_far (p := ⟨aE, 3, none⟩) (Kd.R_far (p := ⟨aE, 2, none⟩) (Kd.R_far (p := ⟨aE, 1, none⟩) (Kd.R_far (p := ⟨aE, 0, none⟩) (Kd.R_types aH.o aG.o (by decide)) (fun _ hk => hk.2) (.string ((qAx l0_2 aA).f0))) (fun _ hk => hk.2) (.slice aY ((qAx l0_2 aA).f1.f0.f0).length aZ)) (fun _ hk => hk.2) (.int .i64 ((qAx l0_2 aA).f1.f0.f1))) (fun _ hk => hk.2) (.slice a7 ((qAx l0_2 aA).f1.f1).length a8)) (fun _ hk => hk.2) (.slice a9 ((qAx l0_2 aA).f1.f2).length aa)) (fun _ h_ => h_.1)))); (case side2 => exact (Kd.R_reads' aH.o).2.1); rintro e w' ⟨rfl, ⟨nd, rfl⟩⟩; refine ⟨_, rfl, ?_⟩))
        go_ret
        exact ⟨by rfl, by repeat (with_reducible first | exact HB.o | apply qAd | refine qAb ?_ ai.o)⟩
       rw [if_pos cY] at H
       have cZ : (bB != 0) = false := bn cY
       clear cY
       replace H := bm H
       obtain ⟨bS, cF, H⟩ := H
       replace H : (if bS = true then (if aM.length < 8796093022208 then (qA2.l1 k2 (aM ++ [(qAx l0_2 aA).f0]) l0_2 (l0_2.length : Int) (wrap64 (aA + 1)) a0_0 l0_1 l0_2 l0_3) else (none)) else (some 52)) = some r := H
       have eT := am cF
       clear cF
       by_cases cv : bS = true
       rotate_left
       ·replace cv := Bool.eq_false_iff.mpr cv
        subst cv
        replace H : (some 52) = some r := by rw [if_neg (show ¬ (false = true) by decide)] at H; exact H
        obtain rfl := Option.some.inj H
        have ax : 0 ≤ aA := od (by assumption)
        have az : aA < (l0_2.length : Int) := od (by assumption)
        obtain ⟨bQ, aY, aZ, a7, a8, a9, aa, bX, aT, aU, aV, aW, aX, ae, ab, af, ac, ag, ad⟩ := at_T92 bO.o aA ax az
        cases bX
        replace aT := (HB.o.cell (World.block_lt_of_cell? w _ aT)).trans aT
        replace aU := (HB.o.cell (World.block_lt_of_cell? w _ aU)).trans aU
        replace aV := (HB.o.cell (World.block_lt_of_cell? w _ aV)).trans aV
        replace aW := (HB.o.cell (World.block_lt_of_cell? w _ aW)).trans aW
        replace aX := (HB.o.cell (World.block_lt_of_cell? w _ aX)).trans aX
        have bF := am ab
        have bC := am ae
        clear ab ae
        have bG := am ac
        have bD := am af
        clear ac af
        have bH := am ad
        have bE := am ag
        clear ad ag
        replace ax := eq_true ax
        replace az := eq_true az
        go_wp2_with (first | ((with_reducible refine qAI (N := 9) rfl ?_); refine bx 9 #[.string ⟨#[]⟩, .slice none 0 0, .int .i64 0, .slice none 0 0, .slice none 0 0] 92 ?_; intro aE hg ck hbox hb; have n_ := a2 (Kd.R_below aH.o hb) (a2 (qAt aC.o hb) (a2 (qAp HB.o hb) (a2 (hbox) (a2 (by rw [hg]; exact (qAs HB.o) : w.heap.size ≤ aE) (am (by rw [hg]; exact Nat.ne_of_lt (qAM aC.o) : aK ≠ aE)))))); clear aH aC HB; obtain ⟨aH, aC, HB, aG, ai, a5⟩ := n_; clear hb hbox hg; have dO : ck.cell? ⟨aE, 0, none⟩ = some (.string ⟨#[]⟩) := (qAa aG.o 0).trans rfl; have dP : ck.cell? ⟨aE, 1, none⟩ = some (.slice none 0 0) := (qAa aG.o 1).trans rfl; have dQ : ck.cell? ⟨aE, 2, none⟩ = some (.int .i64 0) := (qAa aG.o 2).trans rfl; have dR : ck.cell? ⟨aE, 3, none⟩ = some (.slice none 0 0) := (qAa aG.o 3).trans rfl; have dS : ck.cell? ⟨aE, 4, none⟩ = some (.slice none 0 0) := (qAa aG.o 4).trans rfl; have dh := qAc aG.o 0; have di := qAc aG.o 1; have dj := qAc aG.o 2; have dk := qAc aG.o 3; have dl := qAc aG.o 4; obtain ⟨dy, cg, eF⟩ := Kd.R_slice aH.o; subst eF) | ((with_reducible refine qAv (f := 31) rfl ?_); refine gL 59 Tryz.func31 #[.string ((qAx l0_2 aA).f0), .slice dy aM.length cg] ?_; (with_reducible refine (qBn.calls k2 ((qAx l0_2 aA).f0) _ _ aM bB _ ?side1 ?side2 dv.o).mono ?_); (case side1 => refine (Kd.R_reads' (e := 9) (base := w.heap.size) (ok := fun k_ => True) (n := aM.length) (c := cg) ?_).2.2; exact (by exact (Kd.R_mono (Kd.R_far (p := ⟨aE, 4, none⟩) (Kd.R_far (p := ⟨aE, 3, none⟩) (Kd.R_far (p := ⟨aE, 2, none⟩) (Kd.R_far (p := ⟨aE, 1, none⟩) (Kd.R_far (p := ⟨aE, 0, none⟩) (Kd.R_types aH.o aG.o (by decide)) (fun _ hk => hk.2) (.string ((qAx l0_2 aA).f0))) (fun _ hk => hk.2) (.slice aY ((qAx l0_2 aA).f1.f0.f0).length aZ)) (fun _ hk => hk.2) (.int .i64 ((qAx l0_2 aA).f1.f0.f1))) (fun _ hk => hk.2) (.slice a7 ((qAx l0_2 aA).f1.f1).length a8)) (fun _ hk => hk.2) (.slice a9 ((qAx l0_2 aA).f1.f2).length aa)) (fun _ h_ => h_.1)))); (case side2 => exact (Kd.R_reads' aH.o).2.1); rintro e w' ⟨rfl, ⟨nd, rfl⟩⟩; refine ⟨_, rfl, ?_⟩) | ((with_reducible refine qAv (f := 33) rfl ?_); refine gL 65 Tryz.func33 #[.agg #[.slice aY ((qAx l0_2 aA).f1.f0.f0).length aZ, .int .i64 ((qAx l0_2 aA).f1.f0.f1), .slice a7 ((qAx l0_2 aA).f1.f1).length a8, .slice a9 ((qAx l0_2 aA).f1.f2).length aa]] ?_; (with_reducible refine (qB3.calls _ _ ((qAx l0_2 aA).f1.f0.f0) ((qAx l0_2 aA).f1.f0.f1) _ _ ((qAx l0_2 aA).f1.f1) _ _ ((qAx l0_2 aA).f1.f2) false _ ?side1 ?side2 ?side3 ?side4 ?side5 ?side6 eT.o).mono ?_); (case side1 => exact Kd.C_below bF.o (by repeat (with_reducible first | exact HB.o | apply qAd | refine qAb ?_ ai.o))); (case side2 => exact bC.o); (case side3 => exact Kd.C_below bG.o (by repeat (with_reducible first | exact HB.o | apply qAd | refine qAb ?_ ai.o))); (case side4 => exact bD.o); (case side5 => exact Kd.C_below bH.o (by repeat (with_reducible first | exact HB.o | apply qAd | refine qAb ?_ ai.o))); (case side6 => exact bE.o); rintro e ej ⟨rfl, hb⟩; refine ⟨_, rfl, ?_⟩; have n_ := am (qAp (by repeat (with_reducible first | exact HB.o | apply qAd | refine qAb ?_ ai.o)) hb); clear aH aC aG HB; have HB := n_; clear n_; (skip)))
        go_ret
        exact ⟨by rfl, by exact HB.o⟩
       subst cv
       replace H : (if aM.length < 8796093022208 then (qA2.l1 k2 (aM ++ [(qAx l0_2 aA).f0]) l0_2 (l0_2.length : Int) (wrap64 (aA + 1)) a0_0 l0_1 l0_2 l0_3) else (none)) = some r := by rw [if_pos rfl] at H; exact H
       obtain ⟨cw, H⟩ := gd H
       have cS := am cw
       clear cw
       obtain ⟨cn, b1⟩ : ∃ y_ : List ByteArray, y_ = (aM ++ [(qAx l0_2 aA).f0]) := ⟨_, rfl⟩
       replace H : (qA2.l1 k2 cn l0_2 (l0_2.length : Int) (wrap64 (aA + 1)) a0_0 l0_1 l0_2 l0_3) = some r := by (rw [b1]; with_reducible exact H)
       have cU := am b1
       clear b1
       have H' := am H
       clear H
       have ax : 0 ≤ aA := od (by assumption)
       have az : aA < (l0_2.length : Int) := od (by assumption)
       obtain ⟨bQ, aY, aZ, a7, a8, a9, aa, bX, aT, aU, aV, aW, aX, ae, ab, af, ac, ag, ad⟩ := at_T92 bO.o aA ax az
       cases bX
       replace aT := (HB.o.cell (World.block_lt_of_cell? w _ aT)).trans aT
       replace aU := (HB.o.cell (World.block_lt_of_cell? w _ aU)).trans aU
       replace aV := (HB.o.cell (World.block_lt_of_cell? w _ aV)).trans aV
       replace aW := (HB.o.cell (World.block_lt_of_cell? w _ aW)).trans aW
       replace aX := (HB.o.cell (World.block_lt_of_cell? w _ aX)).trans aX
       have bF := am ab
       have bC := am ae
       clear ab ae
       have bG := am ac
       have bD := am af
       clear ac af
       have bH := am ad
       have bE := am ag
       clear ad ag
       replace ax := eq_true ax
       replace az := eq_true az
       go_wp2_with (first | ((with_reducible refine qAI (N := 9) rfl ?_); refine bx 9 #[.string ⟨#[]⟩, .slice none 0 0, .int .i64 0, .slice none 0 0, .slice none 0 0] 92 ?_; intro aE hg cj hbox hb; have n_ := a2 (Kd.R_below aH.o hb) (a2 (qAt aC.o hb) (a2 (qAp HB.o hb) (a2 (hbox) (a2 (by rw [hg]; exact (qAs HB.o) : w.heap.size ≤ aE) (am (by rw [hg]; exact Nat.ne_of_lt (qAM aC.o) : aK ≠ aE)))))); clear aH aC HB; obtain ⟨aH, aC, HB, aG, ai, a5⟩ := n_; clear hb hbox hg; have dI : cj.cell? ⟨aE, 0, none⟩ = some (.string ⟨#[]⟩) := (qAa aG.o 0).trans rfl; have dJ : cj.cell? ⟨aE, 1, none⟩ = some (.slice none 0 0) := (qAa aG.o 1).trans rfl; have dK : cj.cell? ⟨aE, 2, none⟩ = some (.int .i64 0) := (qAa aG.o 2).trans rfl; have dL : cj.cell? ⟨aE, 3, none⟩ = some (.slice none 0 0) := (qAa aG.o 3).trans rfl; have dM : cj.cell? ⟨aE, 4, none⟩ = some (.slice none 0 0) := (qAa aG.o 4).trans rfl; have db := qAc aG.o 0; have dc := qAc aG.o 1; have dd := qAc aG.o 2; have de := qAc aG.o 3; have df := qAc aG.o 4; obtain ⟨cI, bk, eE⟩ := Kd.R_slice aH.o; subst eE) | ((with_reducible refine qAv (f := 31) rfl ?_); refine gL 59 Tryz.func31 #[.string ((qAx l0_2 aA).f0), .slice cI aM.length bk] ?_; (with_reducible refine (qBn.calls k2 ((qAx l0_2 aA).f0) _ _ aM bB _ ?side1 ?side2 dv.o).mono ?_); (case side1 => refine (Kd.R_reads' (e := 9) (base := w.heap.size) (ok := fun k_ => True) (n := aM.length) (c := bk) ?_).2.2; exact (by exact (Kd.R_mono (Kd.R_far (p := ⟨aE, 4, none⟩) (Kd.R_far (p := ⟨aE, 3, none⟩) (Kd.R_far (p := ⟨aE, 2, none⟩) (Kd.R_far (p := ⟨aE, 1, none⟩) (Kd.R_far (p := ⟨aE, 0, none⟩) (Kd.R_types aH.o aG.o (by decide)) (fun _ hk => hk.2) (.string ((qAx l0_2 aA).f0))) (fun _ hk => hk.2) (.slice aY ((qAx l0_2 aA).f1.f0.f0).length aZ)) (fun _ hk => hk.2) (.int .i64 ((qAx l0_2 aA).f1.f0.f1))) (fun _ hk => hk.2) (.slice a7 ((qAx l0_2 aA).f1.f1).length a8)) (fun _ hk => hk.2) (.slice a9 ((qAx l0_2 aA).f1.f2).length aa)) (fun _ h_ => h_.1)))); (case side2 => exact (Kd.R_reads' aH.o).2.1); rintro e w' ⟨rfl, ⟨nd, rfl⟩⟩; refine ⟨_, rfl, ?_⟩) | ((with_reducible refine qAv (f := 33) rfl ?_); refine gL 65 Tryz.func33 #[.agg #[.slice aY ((qAx l0_2 aA).f1.f0.f0).length aZ, .int .i64 ((qAx l0_2 aA).f1.f0.f1), .slice a7 ((qAx l0_2 aA).f1.f1).length a8, .slice a9 ((qAx l0_2 aA).f1.f2).length aa]] ?_; (with_reducible refine (qB3.calls _ _ ((qAx l0_2 aA).f1.f0.f0) ((qAx l0_2 aA).f1.f0.f1) _ _ ((qAx l0_2 aA).f1.f1) _ _ ((qAx l0_2 aA).f1.f2) true _ ?side1 ?side2 ?side3 ?side4 ?side5 ?side6 eT.o).mono ?_); (case side1 => exact Kd.C_below bF.o (by repeat (with_reducible first | exact HB.o | apply qAd | refine qAb ?_ ai.o))); (case side2 => exact bC.o); (case side3 => exact Kd.C_below bG.o (by repeat (with_reducible first | exact HB.o | apply qAd | refine qAb ?_ ai.o))); (case side4 => exact bD.o); (case side5 => exact Kd.C_below bH.o (by repeat (with_reducible first | exact HB.o | apply qAd | refine qAb ?_ ai.o))); (case side6 => exact bE.o); rintro e ee ⟨rfl, hb⟩; refine ⟨_, rfl, ?_⟩; have n_ := a2 (Kd.R_below (by (with_reducible repeat (apply Kd.R_drewN)); exact (Kd.R_mono (Kd.R_far (p := ⟨aE, 4, none⟩) (Kd.R_far (p := ⟨aE, 3, none⟩) (Kd.R_far (p := ⟨aE, 2, none⟩) (Kd.R_far (p := ⟨aE, 1, none⟩) (Kd.R_far (p := ⟨aE, 0, none⟩) (Kd.R_types aH.o aG.o (by decide)) (fun _ hk => hk.2) (.string ((qAx l0_2 aA).f0))) (fun _ hk => hk.2) (.slice aY ((qAx l0_2 aA).f1.f0.f0).length aZ)) (fun _ hk => hk.2) (.int .i64 ((qAx l0_2 aA).f1.f0.f1))) (fun _ hk => hk.2) (.slice a7 ((qAx l0_2 aA).f1.f1).length a8)) (fun _ hk => hk.2) (.slice a9 ((qAx l0_2 aA).f1.f2).length aa)) (fun _ h_ => h_.1))) hb) (a2 (qAt (g := aK) (o := .cells #[.string a0_0, .slice aq l0_1.length ak, .slice (some bQ) l0_2.length al, .slice an l0_3.length ao] 33 (0, 0)) (by (with_reducible repeat (refine qAf ?_ _)); refine qA1 ?_ a5.o _; refine qA1 ?_ a5.o _; refine qA1 ?_ a5.o _; refine qA1 ?_ a5.o _; refine qA1 ?_ a5.o _; exact aC.o) hb) (a2 (qAt (g := aE) (o := .cells #[.string ((qAx l0_2 aA).f0), .slice aY ((qAx l0_2 aA).f1.f0.f0).length aZ, .int .i64 ((qAx l0_2 aA).f1.f0.f1), .slice a7 ((qAx l0_2 aA).f1.f1).length a8, .slice a9 ((qAx l0_2 aA).f1.f2).length aa] 92 (0, 0)) (by (with_reducible repeat (refine qAf ?_ _)); refine qA6 (cs := #[.string ((qAx l0_2 aA).f0), .slice aY ((qAx l0_2 aA).f1.f0.f0).length aZ, .int .i64 ((qAx l0_2 aA).f1.f0.f1), .slice a7 ((qAx l0_2 aA).f1.f1).length a8, .slice none 0 0]) ?_ 4 _ rfl; refine qA6 (cs := #[.string ((qAx l0_2 aA).f0), .slice aY ((qAx l0_2 aA).f1.f0.f0).length aZ, .int .i64 ((qAx l0_2 aA).f1.f0.f1), .slice none 0 0, .slice none 0 0]) ?_ 3 _ rfl; refine qA6 (cs := #[.string ((qAx l0_2 aA).f0), .slice aY ((qAx l0_2 aA).f1.f0.f0).length aZ, .int .i64 0, .slice none 0 0, .slice none 0 0]) ?_ 2 _ rfl; refine qA6 (cs := #[.string ((qAx l0_2 aA).f0), .slice none 0 0, .int .i64 0, .slice none 0 0, .slice none 0 0]) ?_ 1 _ rfl; refine qA6 (cs := #[.string ⟨#[]⟩, .slice none 0 0, .int .i64 0, .slice none 0 0, .slice none 0 0]) ?_ 0 _ rfl; exact aG.o) hb) (am (qAp (by repeat (with_reducible first | exact HB.o | apply qAd | refine qAb ?_ ai.o)) hb)))); clear aH aC aG HB; obtain ⟨aH, aC, aG, HB⟩ := n_; have dN : ee.cell? ⟨aE, 0, none⟩ = some (.string ((qAx l0_2 aA).f0)) := (qAa aG.o 0).trans rfl; have dg := qAc aG.o 4) | ((with_reducible refine qBE (b := .append) (xs := #[.tmp 67, .tmp 70]) rfl ?_); at_builtin; refine Kd.R_append Kd.string (w0 := w) w.heap.size rfl (.tmp 67) (.tmp 70) 80 9 (.string ⟨#[]⟩) 16 rfl Tryz.underlying80 info9 rfl (by decide) (by omega) (.slice cI aM.length bk) aM ((qAx l0_2 aA).f0) [.string ((qAx l0_2 aA).f0)] (fun _ => True) (fun _ => False) rfl rfl ?aP (fun _ hk => hk.elim) ?aF ?aO ?aB ?aS ?aL ?_; (case aP => exact rfl); (case aB => exact HB.o); (case aF => exact (fun _ _ => trivial)); (case aO => exact aH.o); (case aS => exact (qAs HB.o)); (case aL => have := cS.o; omega); intro ea ei ho hb hg eI; rw [← cU.o] at ho; have n_ := a2 (qAP (g := aK) (o := .cells #[.string a0_0, .slice aq l0_1.length ak, .slice (some bQ) l0_2.length al, .slice an l0_3.length ao] 33 (0, 0)) aC.o hg (Kd.R_ne aH.o aC.o (by decide))) (a2 (hb) (am (ho))); clear aC aG HB aH; obtain ⟨aC, HB, cP⟩ := n_; clear ho hb hg eI))
       go_roundg k2
       case measure => have := co.o; have := eV.o; omega
       case rel => exact ⟨(cn), (wrap64 (aA + 1)), (by rfl), H', ⟨by have := co.o; have := eV.o; omega⟩, ⟨by exact cP.o⟩, ⟨by exact aC.o⟩, ⟨by exact HB.o⟩⟩
 ·rw [if_neg c3] at H
  have c0 : (ap != 0) = true := bne_iff_ne.mpr c3
  obtain rfl := Option.some.inj H
  go_enter Tryz.func9, Tryz.ntmps9
  go_wp2_with (first | ((with_reducible refine qAI (N := 1) rfl ?_); refine bx 1 #[.string a0_0, .slice aq l0_1.length ak, .slice ar l0_2.length al, .slice an l0_3.length ao] 33 ?_; intro aK hg ef hbox hb; have n_ := a2 (qAp HB.o hb) (am (hbox)); clear HB; obtain ⟨HB, aC⟩ := n_; clear hb hbox hg; have dY : ef.cell? ⟨aK, 0, none⟩ = some (.string a0_0) := (qAa aC.o 0).trans rfl; have dt := qAc aC.o 3) | ((with_reducible refine qAv (f := 30) rfl ?_); refine gL 13 Tryz.func30 #[.string a0_0] ?_; (with_reducible refine (qBm.calls a0_0 ap _ A2.o).mono ?_); rintro e w' ⟨rfl, ⟨nd, rfl⟩⟩; refine ⟨_, rfl, ?_⟩))
  go_ret
  exact ⟨by rfl, by repeat (with_reducible first | exact HB.o | apply qAd)⟩
end Q
end
section
namespace Q
open Go.RowKit PA PC PB
open Val Ins
def qBl (s : ByteArray) (ahead : List ByteArray) : Int := if Names.nameE s ≠ 0 then Names.nameE s else if hasB ahead s = true then 20 else 0
def qCT : List ByteArray → List S85 → Int
 | _, [] => 0
 | ahead, v :: vs => if qBl v.f0 ahead ≠ 0 then qBl v.f0 ahead else if okV v.f1.f0 v.f1.f1 = false then 52 else qCT (ahead ++ [v.f0]) vs
def fnOk (f : S92) : Bool := okFn f.f1.f0.f0 f.f1.f0.f1 f.f1.f1 f.f1.f2
def fnsE : List ByteArray → List S92 → Int
 | _, [] => 0
 | ahead, f :: fs => if qBl f.f0 ahead ≠ 0 then qBl f.f0 ahead else if fnOk f = false then 52 else fnsE (ahead ++ [f.f0]) fs
def qCw (m : ByteArray) (vars : List S85) (fns : List S92) (rels : List S104) : Int :=
 if Names.nameE m ≠ 0 then Names.nameE m else if 64 < vars.length + fns.length then 3
 else if qCT [] vars ≠ 0 then qCT [] vars else if fnsE (vars.map (·.f0)) fns ≠ 0 then fnsE (vars.map (·.f0)) fns
 else qCG m fns rels (vars.map (·.f0)) (fns.map (·.f0))
def qDO (s : ByteArray) : Prop := s.size ≤ 140737488351232
structure qEr (m : ByteArray) (vars : List S85) (fns : List S92) (rels : List S104) : Prop where
 m : qDO m
 vl : vars.length ≤ 2305843009213693952
 v : ∀ x ∈ vars, qDO x.f0 ∧ 0 ≤ x.f1.f1 ∧ x.f1.f1 < 18446744073709551616
 fl : fns.length ≤ 2305843009213693952
 f : ∀ x ∈ fns, qDO x.f0 ∧ x.f1.f0.f0.length ≤ 4611686018427387904 ∧ x.f1.f1.length ≤ 4611686018427387904 ∧ x.f1.f2.length ≤ 4611686018427387904 ∧ x.f1.f2.all u64S = true
 rl : rels.length ≤ 4611686018427387904
 r : ∀ x ∈ rels, qDO x.f3 ∧ qDO x.f4
theorem named_ev (s : ByteArray) (hs : qDO s) (l : List ByteArray) (hl : l.length ≤ 4611686018427387904) : Ev (fun k => qBn.f k s l) (qBl s l) := by
 have hn : qBm.f s = some (Names.nameE s) := if_pos hs
 unfold qBl
 by_cases h : Names.nameE s = 0
 rotate_left
 ·rw [if_pos h]
  exact Ev.congr (f := fun _ => some (Names.nameE s)) (fun k => by unfold qBn.f; rw [hn]; simp only [Option.bind_some, h, if_false]) (Ev.now _)
 rw [if_neg (by simp [h])]
 refine Ev.congr (f := fun k => (qAF.f k l s).bind fun t => (if t = true then some 20 else some 0)) (fun k => by unfold qBn.f; rw [hn]; simp only [Option.bind_some, h, if_true]) (Ev.bind (qD5 l s hl) ?_)
 cases hasB l s
 ·exact Ev.now _
 exact Ev.now _
theorem qC3 {α : Type} (l : List α) (d : α) (i : Int) (h0 : 0 ≤ i) (h : i < l.length) : l.getD i.toNat d ∈ l := by
 rw [List.getD_eq_getElem?_getD, List.getElem?_eq_getElem (by omega)]; exact List.getElem_mem _
section
variable (m : ByteArray) (vars : List S85) (fns : List S92) (rels : List S104)
theorem qE0 {f : S92} (h : fnOk f = true) : f.f1.f0.f0.length ≤ 8 ∧ f.f1.f1.length ≤ 64 ∧ f.f1.f2.length ≤ 4096 ∧ f.f1.f2.all okS = true := by
 unfold fnOk okFn at h
 simp only [Bool.and_eq_true, decide_eq_true_eq] at h
 exact ⟨h.1.1.1.1.1.1, h.1.1.1.2, h.1.2, h.2⟩
theorem rfns_ev (hg : qEr m vars fns rels) (hc : vars.length + fns.length ≤ 64) : ∀ (d : Nat) (i : Int) (ahead : List ByteArray), 0 ≤ i → (fns.length : Int) - i = d → ahead = vars.map (·.f0) ++ (fns.take i.toNat).map (·.f0) → (∀ x ∈ fns.take i.toNat, fnOk x = true) →
  Ev (fun k => qA2.l1 k ahead fns (fns.length : Int) i m vars fns rels) (if fnsE ahead (fns.drop i.toNat) ≠ 0 then fnsE ahead (fns.drop i.toNat) else qCG m fns rels (vars.map (·.f0)) (fns.map (·.f0))) := by
 intro d
 induction d with
 | zero =>
  intro i ahead h0 hd ha hok
  have hi : fns.length ≤ i.toNat := by omega
  rw [List.drop_eq_nil_of_le hi]
  rw [List.take_of_length_le hi] at ha hok
  simp only [fnsE, ne_eq, not_true_eq_false, if_false]
  have hlen : ahead.length = vars.length + fns.length := by rw [ha]; simp
  have ht : ahead.take vars.length = vars.map (·.f0) := by rw [ha, List.take_append_of_le_length (by simp)]; exact List.take_of_length_le (by simp)
  have hdr : ahead.drop vars.length = fns.map (·.f0) := by rw [ha, List.drop_append_of_le_length (by simp), List.drop_eq_nil_of_le (by simp), List.nil_append]
  refine Ev.step (f := fun _ => some (qCG m fns rels (vars.map (·.f0)) (fns.map (·.f0)))) (fun k => ?_) (Ev.now _)
  simp only [qA2.l1]
  rw [if_neg (by omega), if_pos (by omega), if_pos (by omega)]
  rw [show ((vars.length : Int)).toNat = vars.length from Int.toNat_natCast _, ht, hdr]
  unfold qB4.f
  rw [if_pos ⟨by omega, fun x hx => (qE0 (hok x hx)).2.2.1, hg.rl, hg.r, by simp; omega, by simp; omega⟩]
  rfl
 | succ d ih =>
  intro i ahead h0 hd ha hok
  have hlt : i < (fns.length : Int) := by omega
  have hcons := qAS fns z92 i h0 hlt
  have hx : qAx fns i = fns.getD i.toNat z92 := rfl
  have hm := qC3 fns z92 i h0 hlt
  rw [← hx] at hcons hm
  rw [hcons]
  obtain ⟨g1, g2, g3, g4, g5⟩ := hg.f _ hm
  have hal : ahead.length ≤ 64 := by rw [ha]; simp; omega
  have hne := named_ev (qAx fns i).f0 g1 ahead (by omega)
  have hf : qB3.f (qAx fns i).f1.f0.f0 (qAx fns i).f1.f0.f1 (qAx fns i).f1.f1 (qAx fns i).f1.f2 = some (fnOk (qAx fns i)) := if_pos ⟨g2, g3, g4, g5⟩
  simp only [fnsE]
  refine Ev.step (f := fun k => (qBn.f k ((qAx fns i).f0) ahead).bind fun t => (if t = 0 then ((some (fnOk (qAx fns i))).bind fun t2 => (if t2 = true then (if ahead.length < 8796093022208 then (qA2.l1 k (ahead ++ [(qAx fns i).f0]) fns (fns.length : Int) (wrap64 (i + 1)) m vars fns rels) else none) else some 52)) else some t)) (fun k => ?_) (Ev.bind hne ?_)
  ·simp only [qA2.l1]
   rw [if_pos hlt, if_pos h0, if_pos hlt, hf]
  by_cases hz : qBl (qAx fns i).f0 ahead = 0
  rotate_left
  ·simp only [hz, if_false, ne_eq, not_false_eq_true, if_true]
   exact Ev.now _
  simp only [hz, if_true, Option.bind_some, ne_eq, not_true_eq_false, if_false]
  cases hq : fnOk (qAx fns i) with
  | false => simp; exact Ev.now _
  | true =>
   simp only [if_true, Bool.true_eq_false, if_false]
   rw [qBr (n := fns.length) h0 hlt (by omega)]
   simp only [show ahead.length < 8796093022208 from by omega, if_true]
   have htk : fns.take (i + 1).toNat = fns.take i.toNat ++ [qAx fns i] := by
    rw [show (i + 1).toNat = i.toNat + 1 from by omega, List.take_succ_eq_append_getElem (by omega), hx, List.getD_eq_getElem?_getD, List.getElem?_eq_getElem (by omega)]; rfl
   refine ih (i + 1) _ (by omega) (by omega) ?_ ?_
   ·rw [htk, ha]; simp
   rw [htk]
   intro x hx2
   rcases List.mem_append.1 hx2 with hx2 | hx2
   ·exact hok x hx2
   rw [List.mem_singleton.1 hx2]; exact hq
theorem rvars_ev (hg : qEr m vars fns rels) (hc : vars.length + fns.length ≤ 64) : ∀ (d : Nat) (i : Int) (ahead : List ByteArray), 0 ≤ i → (vars.length : Int) - i = d → ahead = (vars.take i.toNat).map (·.f0) →
  Ev (fun k => qA2.l0 k ahead vars (vars.length : Int) i m vars fns rels) (if qCT ahead (vars.drop i.toNat) ≠ 0 then qCT ahead (vars.drop i.toNat) else if fnsE (vars.map (·.f0)) fns ≠ 0 then fnsE (vars.map (·.f0)) fns else qCG m fns rels (vars.map (·.f0)) (fns.map (·.f0))) := by
 intro d
 induction d with
 | zero =>
  intro i ahead h0 hd ha
  have hi : vars.length ≤ i.toNat := by omega
  rw [List.drop_eq_nil_of_le hi]
  rw [List.take_of_length_le hi] at ha
  simp only [qCT, ne_eq, not_true_eq_false, if_false]
  have hrec := rfns_ev m vars fns rels hg hc fns.length 0 (vars.map (·.f0)) (by omega) (by omega) (by simp) (by simp)
  rw [ha]
  refine Ev.step (fun k => ?_) hrec
  simp only [qA2.l0]
  rw [if_neg (by omega)]
 | succ d ih =>
  intro i ahead h0 hd ha
  have hlt : i < (vars.length : Int) := by omega
  have hcons := qAS vars z85 i h0 hlt
  have hx : qAV vars i = vars.getD i.toNat z85 := rfl
  have hm := qC3 vars z85 i h0 hlt
  rw [← hx] at hcons hm
  rw [hcons]
  obtain ⟨g1, g2, g3⟩ := hg.v _ hm
  have hal : ahead.length ≤ 64 := by rw [ha]; simp; omega
  have hne := named_ev (qAV vars i).f0 g1 ahead (by omega)
  have hf : qBG.f (qAV vars i).f1.f0 (qAV vars i).f1.f1 = some (okV (qAV vars i).f1.f0 (qAV vars i).f1.f1) := if_pos ⟨g2, g3⟩
  simp only [qCT]
  refine Ev.step (f := fun k => (qBn.f k ((qAV vars i).f0) ahead).bind fun t => (if t = 0 then ((some (okV (qAV vars i).f1.f0 (qAV vars i).f1.f1)).bind fun t2 => (if t2 = true then (if ahead.length < 8796093022208 then (qA2.l0 k (ahead ++ [(qAV vars i).f0]) vars (vars.length : Int) (wrap64 (i + 1)) m vars fns rels) else none) else some 52)) else some t)) (fun k => ?_) (Ev.bind hne ?_)
  ·simp only [qA2.l0]
   rw [if_pos hlt, if_pos h0, if_pos hlt, hf]
  by_cases hz : qBl (qAV vars i).f0 ahead = 0
  rotate_left
  ·simp only [hz, if_false, ne_eq, not_false_eq_true, if_true]
   exact Ev.now _
  simp only [hz, if_true, Option.bind_some, ne_eq, not_true_eq_false, if_false]
  cases hq : okV (qAV vars i).f1.f0 (qAV vars i).f1.f1 with
  | false => simp; exact Ev.now _
  | true =>
   simp only [if_true, Bool.true_eq_false, if_false]
   rw [qBr (n := vars.length) h0 hlt (by omega)]
   simp only [show ahead.length < 8796093022208 from by omega, if_true]
   have htk : vars.take (i + 1).toNat = vars.take i.toNat ++ [qAV vars i] := by
    rw [show (i + 1).toNat = i.toNat + 1 from by omega, List.take_succ_eq_append_getElem (by omega), hx, List.getD_eq_getElem?_getD, List.getElem?_eq_getElem (by omega)]; rfl
   refine ih (i + 1) _ (by omega) (by omega) ?_
   rw [htk, ha]; simp
theorem qE3 {a b : Nat} (h1 : a ≤ 2305843009213693952) (h2 : b ≤ 2305843009213693952) : wrap64 ((a : Int) + b) = a + b := by unfold wrap64; omega
theorem right_ev (hg : qEr m vars fns rels) : Ev (fun k => qA2.f k m vars fns rels) (qCw m vars fns rels) := by
 have hn : qBm.f m = some (Names.nameE m) := if_pos hg.m
 have hw : wrap64 ((vars.length : Int) + (fns.length : Int)) = (vars.length : Int) + (fns.length : Int) := qE3 hg.vl hg.fl
 have hunf : ∀ k, qA2.f k m vars fns rels = (if Names.nameE m = 0 then (if (vars.length : Int) + (fns.length : Int) > 64 then some 3 else qA2.l0 k [] vars (vars.length : Int) 0 m vars fns rels) else some (Names.nameE m)) := fun k => by
  unfold qA2.f
  rw [hn, hw]
  rfl
 refine Ev.congr hunf ?_
 unfold qCw
 by_cases h : Names.nameE m = 0
 rotate_left
 ·rw [if_pos h]
  simp only [if_neg h]
  exact Ev.now _
 rw [if_neg (fun hh => hh h)]
 simp only [if_pos h]
 by_cases hc : 64 < vars.length + fns.length
 ·rw [if_pos hc]
  have hc' : (vars.length : Int) + (fns.length : Int) > 64 := by omega
  simp only [if_pos hc']
  exact Ev.now _
 rw [if_neg hc]
 have hc' : ¬ (vars.length : Int) + (fns.length : Int) > 64 := by omega
 simp only [if_neg hc']
 exact rvars_ev m vars fns rels hg (by omega) vars.length 0 [] (by omega) (by omega) (by simp)
end
end Q
end
section
namespace Clone
open Go.RowKit Base
def RowPost (E : TypeId) (size n : Nat) (xs : List Value) (w : World) (e : Ending) (w' : World) : Prop :=
 ∃ x, e = .returned x ∧ w'.ownsRow w.heap.size E size x n xs ∧ Below w.heap.size w w'
theorem info_bytes : (Tryz.prog.info? 5).map (fun i => (i.zero, i.size, i.bytes)) = some (some (.int .u8 0), 1, 1) := by kernel_rfl
theorem bytes_nil (n c : Nat) (w : World) : Calls Tryz.prog 116 #[.slice none n c] w fun e w' => e = .returned (.slice none 0 0) ∧ w = w' := by
 have hq := Lib.run_eql_slice_nil (P := Tryz.prog) w 38 5 none n c 0 0 Tryz.underlying38
 go_enter Tryz.func116, Tryz.ntmps116
 go_wp2
 go_ret
 exact ⟨rfl, rfl⟩
theorem bytes_zero (a : Addr) (c : Nat) (w : World) : Calls Tryz.prog 116 #[.slice (some a) 0 c] w (RowPost 5 1 0 [] w) := by
 obtain ⟨i0, hi, hz0, hz1, hz2⟩ := info_parts info_bytes
 have hq := Lib.run_eql_slice_nil (P := Tryz.prog) w 38 5 (some a) 0 c 0 0 Tryz.underlying38
 have hown : (w.alloc (.cells #[] 5)).ownsRow w.heap.size 5 1 (.slice (some ⟨w.heap.size, 0, none⟩) 0 0) 0 [] := World.ownsRow_made w #[] 0 (Nat.le_refl _) (by unfold maxLen; omega) rfl
 go_enter Tryz.func116, Tryz.ntmps116
 go_wp2_with (at_builtin; refine wpList_append_zero rfl _ _ 38 rfl w.heap.size 5 i0 1 Tryz.underlying38 hi _ _ _ rfl hown (some a) c rfl ?_)
 go_ret
 exact ⟨_, rfl, hown, (Below.refl _ _).alloc (Nat.le_refl _) _⟩
theorem bytes_some (b o n c : Nat) (xs : List Value) (w : World) (h0 : 0 < n) (hl : xs.length = n * 1) (h1 : ∀ u ∈ xs, u.oneCell' = true)
  (hc : ∀ j u, xs[j]? = some u → w.cell? ⟨b, o + j, none⟩ = some u) (hb : b < w.heap.size) (hn : n ≤ 400000000) :
  Calls Tryz.prog 116 #[.slice (some ⟨b, o, none⟩) n c] w (RowPost 5 1 n xs w) := by
 obtain ⟨i0, hi, hz0, hz1, hz2⟩ := info_parts info_bytes
 have hq := Lib.run_eql_slice_nil (P := Tryz.prog) w 38 5 (some ⟨b, o, none⟩) n c 0 0 Tryz.underlying38
 have hown : (w.alloc (.cells #[] 5)).ownsRow w.heap.size 5 1 (.slice (some ⟨w.heap.size, 0, none⟩) 0 0) 0 [] := World.ownsRow_made w #[] 0 (Nat.le_refl _) (by unfold maxLen; omega) rfl
 have hnews : ∀ j u, xs[j]? = some u → (w.alloc (.cells #[] 5)).cell? ((⟨b, o, none⟩ : Addr).add j) = some u := fun j u hu => by
  have hadd : (⟨b, o, none⟩ : Addr).add j = ⟨b, o + j, none⟩ := by unfold Addr.add; split <;> simp_all
  rw [hadd, World.cell?_alloc_past _ _ _ hb]; exact hc j u hu
 have HN := hid hnews
 have HL := hid hl
 clear hnews hl hc
 go_enter Tryz.func116, Tryz.ntmps116
 go_wp2_with (at_builtin; refine wpList_append_lies _ rfl _ _ 38 rfl w.heap.size 5 i0 (.int .u8 0) 1 1 Tryz.underlying38 hi hz0 hz1 hz2 rfl (by decide) _ _ _ rfl hown ⟨b, o, none⟩ n c xs rfl ?c9 HN.out ?c2 ?c0 ?c3 ?c4 ?c5 _ rfl ?_)
 case c9 => exact HL.out
 case c2 => exact h1
 case c0 => exact h0
 case c3 => unfold maxLen; omega
 case c4 => omega
 case c5 => simp
 intro g cap w1 hown' hgrow hgg hlt
 have H1 : Hid (w1.ownsRow w.heap.size 5 1 (.slice (some ⟨g, 0, none⟩) n cap) n xs ∧ Below w.heap.size w w1) := hid ⟨hown', ((Below.refl _ _).alloc (Nat.le_refl _) _).grown hgrow (by simp) (fun j hj => (hown.lt j hj).1)⟩
 clear hown' hgrow hgg hlt hown
 go_wp2
 go_ret
 exact ⟨_, by simp, H1.out.1, H1.out.2⟩
end Clone
end
section
namespace Wr2
open Go.RowKit Base Wr Clone
theorem bv_one (bs : List Int) : ∀ u ∈ bv bs, u.oneCell' = true := by
 intro u hu; unfold bv at hu; obtain ⟨y, _, rfl⟩ := List.mem_map.1 hu; rfl
theorem bytes_any (p : Nat) (v : Value) (bs : List Int) (w : World) (h : WrSt w p v bs) (hl : bs.length ≤ 400000000) :
  Calls Tryz.prog 48 #[.pointer (some ⟨p, 0, none⟩)] w (RowPost 5 1 bs.length (bv bs) w) := by
 have hcl : Calls Tryz.prog 116 #[v] w (RowPost 5 1 bs.length (bv bs) w) := by
  rcases h.own.2 with ⟨rfl, h0⟩ | ⟨g, cap, cur, rfl, _, hg, _⟩
  ·have e0 : bs = [] := List.length_eq_zero_iff.1 h0
   subst e0
   exact (bytes_nil 0 0 w).mono fun e w' ⟨he, hw⟩ => ⟨_, he, hw ▸ World.ownsRow_nil _ _ _ _, hw ▸ Below.refl _ _⟩
  by_cases h0 : bs.length = 0
  ·have e0 : bs = [] := List.length_eq_zero_iff.1 h0
   subst e0
   exact bytes_zero _ cap w
  refine bytes_some g 0 bs.length cap (bv bs) w (by omega) (by rw [qDb]; omega) (bv_one bs) (fun j u hu => ?_) (Array.getElem?_eq_some_iff.1 hg).1 hl
  have hc := h.own.cells rfl j u hu
  have hadd : (⟨g, 0, none⟩ : Addr).add j = ⟨g, j, none⟩ := by unfold Addr.add; split <;> simp_all
  rw [hadd] at hc
  rw [Nat.zero_add]; exact hc
 have HC := hid hcl
 have hc := h.cell
 clear hcl h
 go_enter Tryz.func48, Tryz.ntmps48
 go_wp2_with fail
 refine HC.out.mono ?_
 rintro e w2 ⟨x, rfl, h2, h3⟩
 have H2 := hid h2
 have H3 := hid h3
 clear h2 h3
 go_wp2
 go_ret
 exact ⟨x, rfl, H2.out, H3.out⟩
end Wr2
end
section
namespace Q
open Go.RowKit PA PC PB
open Val Ins Wr Enc
structure WK (wd : World) (p : Nat) (W : World) (v : Value) (bs : List Int) : Prop where
 st : WrSt W p v bs
 below : Below wd.heap.size wd W
 hp : wd.heap.size ≤ p
 hv : ∀ k, v.ownBlock = some k → wd.heap.size ≤ k
theorem WK.step {wd W W' : World} {p : Nat} {v v' : Value} {bs bs' : List Int} (h : WK wd p W v bs) (h1 : WrSt W' p v' bs') (h2 : qBb p W v W' v') : WK wd p W' v' bs' :=
 ⟨h1, h.below.trans (h2.below h.hp h.below.size h.hv), h.hp, fun k hk => by
   rcases h2.row k hk with e | e
   · exact h.hv k e
   · exact Nat.le_trans h.below.size e⟩
theorem WK.below' {wd W W' : World} {p : Nat} {v : Value} {bs : List Int} (h : WK wd p W v bs) (hb : Below W.heap.size W W') : WK wd p W' v bs :=
 h.step (h.st.below hb) (qBb.of_below hb)
theorem WK.plt {wd W : World} {p : Nat} {v : Value} {bs : List Int} (h : WK wd p W v bs) : p < W.heap.size := World.block_lt_of_cell? W _ h.st.cell
theorem WK.vlt {wd W : World} {p : Nat} {v : Value} {bs : List Int} (h : WK wd p W v bs) : ∀ k, v.ownBlock = some k → k < W.heap.size := fun k hk => (h.st.own.lt k hk).2
theorem WK.cell {wd W W' : World} {p : Nat} {v v' : Value} {bs : List Int} (h : WK wd p W v bs) (h2 : qBb p W v W' v') {a : Addr} (ha : a.block < W.heap.size) (hp : a.block ≠ p) (hv : some a.block ≠ v.ownBlock) : W'.cell? a = W.cell? a := h2.cell ha hp hv
theorem enc_zero (A : Option Addr) (c : Nat) (w : World) : Calls Tryz.prog 84 #[.slice A 0 c] w fun e w' => e = .returned (.tuple #[.slice none 0 0, .int .i64 0]) ∧ w' = w := by
 go_enter Tryz.func84, Tryz.ntmps84
 go_wp2
 go_loopw [4, 12] (fun v i wr => v = .slice none 0 0 ∧ i = .int .i64 0 ∧ wr = w) (fun _ _ _ => 0)
 case atStart => exact ⟨rfl, rfl, rfl⟩
 case round =>
  obtain ⟨rfl, rfl, rfl⟩ := hrel
  go_wp2
  go_ret2
  exact ⟨rfl, rfl⟩
def toD (x : S144) : InsD := ⟨x.f0, x.f1, x.f2.f0, x.f2.f1⟩
theorem enc_ok (A : Option Addr) (c : Nat) (l : List S144) (w : World) (hr : Kd.C k144 w A l.length l) (hl : l.length ≤ 4096) (hok : l.all okS = true) (hu : l.all u64S = true) :
  Calls Tryz.prog 84 #[.slice A l.length c] w fun e w' => Below w.heap.size w w' ∧ ∃ r, e = .returned (.tuple #[r, .int .i64 0]) ∧ Out w.heap.size w' r (encB (l.map toD)) := by
 rcases Nat.eq_zero_or_pos l.length with h0 | hp
 ·obtain rfl := List.length_eq_zero_iff.1 h0
  exact (enc_zero A c w).mono fun e w' ⟨he, hw⟩ => ⟨hw ▸ Below.refl _ _, _, he, by simpa [encB, Out, bv] using World.ownsRow_nil _ _ _ _⟩
 ·obtain ⟨ad, had, hcell⟩ := hr.2.2 hp
  subst had
  obtain ⟨b, o, s⟩ := ad
  have hat : ∀ j x, l[j]? = some x → ∀ i u, [Value.int .i64 x.f0, .int .i64 x.f1, .int .i64 x.f2.f0, .int .u64 x.f2.f1][i]? = some u → w.cell? (Addr.add ⟨b, o, s⟩ (j * 4 + i)) = some u := fun j x hj i u hu => by
   obtain ⟨cs, _, hK, hcc⟩ := hcell j x hj
   obtain rfl := k144_open hK
   exact hcc i u hu
  obtain ⟨x0, hx0⟩ : ∃ x, l[0]? = some x := ⟨l[0], List.getElem?_eq_getElem hp⟩
  have hz := hat 0 x0 hx0 0 _ rfl
  have hlt := World.block_lt_of_cell? w _ hz
  obtain rfl : s = none := by
   cases s with
   | none => rfl
   | some k =>
    simp only [Addr.add, World.cell?] at hz
    split at hz <;> simp at hz
  have hadd : ∀ j, Addr.add ⟨b, o, none⟩ j = ⟨b, o + j, none⟩ := fun j => by by_cases hj : j = 0 <;> simp [Addr.add, hj]
  have hrow : InsRow w (.slice (some ⟨b, o, none⟩) l.length c) (l.map toD) := .inr ⟨b, o, c, by rw [List.length_map], by rw [hadd] at hlt; exact hlt, fun k x hx => by
    rw [List.getElem?_map] at hx
    obtain ⟨y, hy, rfl⟩ := Option.map_eq_some_iff.1 hx
    have g := hat k y hy
    refine ⟨?_, ?_, ?_, ?_⟩
    · have := g 0 _ rfl; rwa [hadd] at this
    · have := g 1 _ rfl; rwa [hadd, ← Nat.add_assoc] at this
    · have := g 2 _ rfl; rwa [hadd, ← Nat.add_assoc] at this
    · have := g 3 _ rfl; rwa [hadd, ← Nat.add_assoc] at this⟩
  refine (encode_any _ (l.map toD) w hrow (fun x hx => by
    obtain ⟨y, hy, rfl⟩ := List.mem_map.1 hx
    exact u64S_U (List.all_eq_true.1 hu y hy))).mono ?_
  rintro e w' ⟨hb, h⟩
  refine ⟨hb, ?_⟩
  rcases h with ⟨h, _⟩ | ⟨_, ⟨_, r, he, ho⟩ | ⟨⟨x, hx, hf⟩, _⟩⟩
  ·rw [List.length_map] at h; omega
  ·exact ⟨r, he, ho⟩
  ·obtain ⟨y, hy, rfl⟩ := List.mem_map.1 hx
   have h1 := List.all_eq_true.1 hok y hy
   have h2 : okS y = false := hf
   rw [h1] at h2; cases h2
theorem raw_out (p N0 : Nat) (r : Value) (ys : List Int) (v : Value) (bs : List Int) (w : World) (h : WrSt w p v bs) (ho : Out N0 w r ys) (hp : p < N0) (hv : ∀ k, v.ownBlock = some k → k < N0) (hl : bs.length ≤ 400000000) (hl2 : ys.length ≤ 400000000) :
  Calls Tryz.prog 85 #[.pointer (some ⟨p, 0, none⟩), r] w (qBS p (bs ++ rawB ys) w v) := by
 have ho' := ho
 obtain ⟨_, ho⟩ := ho
 rcases ho with ⟨rfl, h0⟩ | ⟨g, cap, cur, rfl, hb, hh, _, _, _, hcur⟩
 ·obtain rfl : ys = [] := List.length_eq_zero_iff.1 h0
  exact raw_none p none 0 v bs w h hl
 ·rcases Nat.eq_zero_or_pos ys.length with h0 | hpos
  ·obtain rfl : ys = [] := List.length_eq_zero_iff.1 h0
   exact raw_none p _ cap v bs w h hl
  ·refine raw_some p g 0 cap ys v bs w h (qAM hh) (by omega) (fun e => by have := hv g e.symm; omega) hpos (fun j y hj => ?_) hl hl2
   have hx : cur[0 + j]? = some (Value.int .u8 y) := by
    have h1 : (bv ys)[j]? = some (Value.int .u8 y) := by unfold bv; rw [List.getElem?_map, hj]; rfl
    rw [← hcur, List.getElem?_take] at h1
    split at h1
    ·rw [Nat.zero_add, ← Array.getElem?_toList]; exact h1
    cases h1
   rw [qAa hh]; exact hx
def byB (l : List Int) : List Int := l.map (· % 256)
def fnB (l0 : List Int) (a1 : Int) (l2 : List Int) (l3 : List S144) : List Int :=
 [(l0.length : Int) % 256] ++ byB l0 ++ [a1 % 256] ++ [(l2.length : Int) % 256] ++ byB l2 ++ rawB (encB (l3.map toD))
theorem byB_take (l : List Int) (k : Nat) (x : Int) (h : l[k]? = some x) : byB (l.take (k + 1)) = byB (l.take k) ++ [x % 256] := by
 obtain ⟨hk, he⟩ := List.getElem?_eq_some_iff.1 h
 unfold byB
 rw [List.take_succ_eq_append_getElem hk, List.map_append, he]; rfl
theorem encB_len (l : List InsD) : (encB l).length ≤ l.length * 10 := by
 induction l with
 | nil => simp [encB]
 | cons x l ih =>
  have h1 : (insB x).length ≤ 10 := by
   unfold insB
   have := widN_le x.op
   split <;> simp [be_len] <;> omega
  have h2 : encB (x :: l) = insB x ++ encB l := by simp [encB]
  rw [h2, List.length_append, List.length_cons]; omega
theorem u8w (x : Int) : IntKind.u8.wrap x = x % 256 := by simp [IntKind.wrap, IntKind.signed, IntKind.bits]
theorem fn_any (p : Nat) (A0 : Option Addr) (c0 : Nat) (l0 : List Int) (a1 : Int) (A2 : Option Addr) (c2 : Nat) (l2 : List Int) (A3 : Option Addr) (c3 : Nat) (l3 : List S144) (v : Value) (bs : List Int) (wd w : World) (hk : WK wd p w v bs)
  (hr0 : Kd.C (Kd.int .i64) wd A0 l0.length l0) (hr2 : Kd.C (Kd.int .i64) wd A2 l2.length l2) (hr3 : Kd.C k144 wd A3 l3.length l3) (h0 : l0.length ≤ 8) (h2 : l2.length ≤ 64) (h3 : l3.length ≤ 4096) (hok : l3.all okS = true) (hu : l3.all u64S = true) (hl : bs.length ≤ 300000000) :
  Calls Tryz.prog 114 #[.pointer (some ⟨p, 0, none⟩), .agg #[.slice A0 l0.length c0, .int .i64 a1, .slice A2 l2.length c2, .slice A3 l3.length c3]] w (qBS p (bs ++ fnB l0 a1 l2 l3) w v) := by
 obtain ⟨n0, hn0⟩ : ∃ n, n = l0.length := ⟨_, rfl⟩
 obtain ⟨n2, hn2⟩ : ∃ n, n = l2.length := ⟨_, rfl⟩
 obtain ⟨n3, hn3⟩ : ∃ n, n = l3.length := ⟨_, rfl⟩
 rw [← hn0] at hr0 h0 ⊢
 rw [← hn2] at hr2 h2 ⊢
 rw [← hn3] at h3 ⊢
 obtain ⟨WA, hWA⟩ : ∃ WA, WA = w.alloc (.cells #[.slice A0 n0 c0, .int .i64 a1, .slice A2 n2 c2, .slice A3 n3 c3] 90) := ⟨_, rfl⟩
 have hKA : WK wd p WA v bs := hk.below' (hWA ▸ (Below.refl _ _).alloc (Nat.le_refl _) _)
 have hSA : qBb p w v WA v := qBb.of_below (hWA ▸ (Below.refl _ _).alloc (Nat.le_refl _) _)
 have hgA : w.heap.size < WA.heap.size := by rw [hWA]; simp
 have hgp : w.heap.size ≠ p := Nat.ne_of_gt hk.plt
 have hgv : some w.heap.size ≠ v.ownBlock := fun e => by have := hk.vlt _ e.symm; omega
 have k0 : WA.cell? ⟨w.heap.size, 0, none⟩ = some (.slice A0 n0 c0) := by rw [hWA, World.cell?_alloc_at _ _ _ _ rfl]; rfl
 have k1 : WA.cell? ⟨w.heap.size, 1, none⟩ = some (.int .i64 a1) := by rw [hWA, World.cell?_alloc_at _ _ _ _ rfl]; rfl
 have k2 : WA.cell? ⟨w.heap.size, 2, none⟩ = some (.slice A2 n2 c2) := by rw [hWA, World.cell?_alloc_at _ _ _ _ rfl]; rfl
 have k3 : WA.cell? ⟨w.heap.size, 3, none⟩ = some (.slice A3 n3 c3) := by rw [hWA, World.cell?_alloc_at _ _ _ _ rfl]; rfl
 have HB : qAj (∀ W' v', qBb p WA v W' v' → W'.cell? ⟨w.heap.size, 0, none⟩ = some (.slice A0 n0 c0) ∧ W'.cell? ⟨w.heap.size, 1, none⟩ = some (.int .i64 a1) ∧ W'.cell? ⟨w.heap.size, 2, none⟩ = some (.slice A2 n2 c2) ∧ W'.cell? ⟨w.heap.size, 3, none⟩ = some (.slice A3 n3 c3)) := ⟨fun W' v' hs =>
   ⟨(hKA.cell hs (a := ⟨w.heap.size, 0, none⟩) hgA hgp hgv).trans k0, (hKA.cell hs (a := ⟨w.heap.size, 1, none⟩) hgA hgp hgv).trans k1, (hKA.cell hs (a := ⟨w.heap.size, 2, none⟩) hgA hgp hgv).trans k2, (hKA.cell hs (a := ⟨w.heap.size, 3, none⟩) hgA hgp hgv).trans k3⟩⟩
 have HWA := am hWA
 have HKA := am hKA
 have HSA := am hSA
 have HR0 := am hr0
 have HR2 := am hr2
 have HE : qAj (∀ W, Below wd.heap.size wd W → Calls Tryz.prog 84 #[.slice A3 n3 c3] W fun e w' => Below W.heap.size W w' ∧ ∃ r, e = .returned (.tuple #[r, .int .i64 0]) ∧ Out W.heap.size w' r (encB (l3.map toD))) := ⟨fun W hW => hn3 ▸ enc_ok A3 c3 l3 W (Kd.C_below hr3 hW) (hn3 ▸ h3) hok hu⟩
 have HEL : qAj ((encB (l3.map toD)).length ≤ 40960) := ⟨by have := encB_len (l3.map toD); rw [List.length_map] at this; omega⟩
 have HN0 := am hn0
 have HN2 := am hn2
 have HL := am hl
 have HFB : qAj (fnB l0 a1 l2 l3 = [(n0 : Int) % 256] ++ byB l0 ++ [a1 % 256] ++ [(n2 : Int) % 256] ++ byB l2 ++ rawB (encB (l3.map toD))) := ⟨by unfold fnB; rw [hn0, hn2]⟩
 clear hk hr0 hr2 hr3 hok hu hl hKA hSA hgp hgv hn0 hn2 hn3 hWA h3
 go_enter Tryz.func114, Tryz.ntmps114
 go_wp2_with fail
 rw [← HWA.out]
 go_wp2_with fail
 refine (qBN p _ v bs WA HKA.out.st (by have := HL.out; omega)).mono ?_
 rintro e w1 ⟨v1, rfl, hst, hs⟩
 have HK1 := am (HKA.out.step hst hs)
 have HS1 := am hs
 obtain ⟨q0, q1, q2, q3⟩ := HB.out w1 v1 hs
 clear hst hs k0 k1 k2 k3
 go_wp2_with fail
 go_loopg [5, 21] n0 (fun gg _ s21 wr => ∃ (kk : Nat) (v' : Value), kk ≤ n0 ∧ n0 - kk ≤ gg ∧ s21 = .int .i64 kk ∧ qAj (WK wd p wr v' (bs ++ [(n0 : Int)] ++ byB (l0.take kk))) ∧ qAj (qBb p WA v wr v'))
 case atStart => exact ⟨0, v1, Nat.zero_le _, by omega, rfl, ⟨by rw [List.take_zero]; show WK wd p w1 v1 (bs ++ [(n0 : Int)] ++ []); rw [List.append_nil]; exact HK1.out⟩, HS1⟩
 case round =>
  clear q0 q1 q2 q3 HK1 HS1
  obtain ⟨kk, v', hkk, hg, rfl, HK, HS⟩ := hrel
  by_cases hlt : kk < n0
  ·have hltz : (kk : Int) < (n0 : Int) := by omega
   have h0' : (0 : Int) ≤ (kk : Int) := by omega
   obtain ⟨ad, ea, hx⟩ := Kd.at_int HR0.out (kk : Int) h0' hltz
   subst ea
   rw [Int.toNat_natCast] at hx
   replace hx := (HK.out.below.cell (World.block_lt_of_cell? wd _ hx)).trans hx
   obtain ⟨x, hx0⟩ : ∃ x, x = rd l0 (kk : Int) := ⟨_, rfl⟩
   rw [← hx0] at hx
   have HX : qAj (l0[kk]? = some x) := ⟨by rw [hx0]; exact qCV l0 0 kk (by have := HN0.out; omega)⟩
   have HLB : qAj ((bs ++ [(n0 : Int)] ++ byB (l0.take kk)).length ≤ 1000000000) := ⟨by have := HL.out; have := HN0.out; simp [byB]; omega⟩
   clear hx0
   go_wp2_with fail
   refine (qBN p _ v' _ wr HK.out.st HLB.out).mono ?_
   rintro e w2 ⟨v2, rfl, hst, hs⟩
   have HK2 : qAj (WK wd p w2 v2 (bs ++ [(n0 : Int)] ++ byB (l0.take (kk + 1)))) := ⟨by
     rw [byB_take l0 kk x HX.out, ← List.append_assoc, ← u8w]; exact HK.out.step hst hs⟩
   have HS2 := am (HS.out.trans hs)
   clear hst hs
   go_wp2
   go_roundg (n0 - (kk + 1))
   case measure => omega
   case rel => exact ⟨kk + 1, v2, by omega, by omega, by go_num, HK2, HS2⟩
  have hltz : ¬ (kk : Int) < (n0 : Int) := by omega
  have hkn : kk = n0 := by omega
  rw [show l0.take kk = l0 from List.take_of_length_le (by have := HN0.out; omega)] at HK
  obtain ⟨q0, q1, q2, q3⟩ := HB.out wr v' HS.out
  go_wp2_with fail
  clear hlt hg hkk HR0
  have HL3 : qAj ((bs ++ [(n0 : Int)] ++ byB l0).length ≤ 300000100) := ⟨by have := HL.out; have := HN0.out; simp [byB]; omega⟩
  refine (qBN p _ v' _ wr HK.out.st (by have := HL3.out; omega)).mono ?_
  rintro e w3 ⟨v3, rfl, hst, hs⟩
  have HK3 := am (HK.out.step hst hs)
  have HS3 := am (HS.out.trans hs)
  clear hst hs q0 q1 q2 q3 HK HS
  obtain ⟨q0, q1, q2, q3⟩ := HB.out w3 v3 HS3.out
  go_wp2_with fail
  refine (qBN p _ v3 _ w3 HK3.out.st (by have := HL3.out; rw [List.length_append]; simp only [List.length_cons, List.length_nil]; omega)).mono ?_
  rintro e w4 ⟨v4, rfl, hst, hs⟩
  have HK4 := am (HK3.out.step hst hs)
  have HS4 := am (HS3.out.trans hs)
  clear hst hs q0 q1 q2 q3 HK3 HS3
  obtain ⟨q0, q1, q2, q3⟩ := HB.out w4 v4 HS4.out
  obtain ⟨b4, hb4⟩ : ∃ b, b = bs ++ [(n0 : Int)] ++ byB l0 ++ [a1 % 256] ++ [(n2 : Int)] := ⟨_, rfl⟩
  rw [← hb4] at HK4
  have HB4 := am hb4
  have HL4 : qAj (b4.length ≤ 300000200) := ⟨by have := HL3.out; rw [hb4, List.length_append, List.length_append]; simp only [List.length_cons, List.length_nil]; omega⟩
  clear hb4
  go_wp2_with fail
  go_loopg [7, 45] n2 (fun gg _ s21 wr => ∃ (kk : Nat) (v' : Value), kk ≤ n2 ∧ n2 - kk ≤ gg ∧ s21 = .int .i64 kk ∧ qAj (WK wd p wr v' (b4 ++ byB (l2.take kk))) ∧ qAj (qBb p WA v wr v'))
  case atStart => exact ⟨0, v4, Nat.zero_le _, by omega, rfl, ⟨by rw [List.take_zero]; show WK wd p w4 v4 (b4 ++ []); rw [List.append_nil]; exact HK4.out⟩, HS4⟩
  case round =>
   clear q0 q1 q2 q3 HK4 HS4 hkn hltz
   obtain ⟨kk, v', hkk, hg, rfl, HK, HS⟩ := hrel
   by_cases hlt : kk < n2
   ·have hltz : (kk : Int) < (n2 : Int) := by omega
    have h0' : (0 : Int) ≤ (kk : Int) := by omega
    obtain ⟨ad, ea, hx⟩ := Kd.at_int HR2.out (kk : Int) h0' hltz
    subst ea
    rw [Int.toNat_natCast] at hx
    replace hx := (HK.out.below.cell (World.block_lt_of_cell? wd _ hx)).trans hx
    obtain ⟨x, hx0⟩ : ∃ x, x = rd l2 (kk : Int) := ⟨_, rfl⟩
    rw [← hx0] at hx
    have HX : qAj (l2[kk]? = some x) := ⟨by rw [hx0]; exact qCV l2 0 kk (by have := HN2.out; omega)⟩
    have HLB : qAj ((b4 ++ byB (l2.take kk)).length ≤ 1000000000) := ⟨by have := HL4.out; have := HN2.out; simp [byB]; omega⟩
    clear hx0
    go_wp2_with fail
    refine (qBN p _ v' _ wr HK.out.st HLB.out).mono ?_
    rintro e w2 ⟨v2, rfl, hst, hs⟩
    have HK2 : qAj (WK wd p w2 v2 (b4 ++ byB (l2.take (kk + 1)))) := ⟨by
      rw [byB_take l2 kk x HX.out, ← List.append_assoc, ← u8w]; exact HK.out.step hst hs⟩
    have HS2 := am (HS.out.trans hs)
    clear hst hs
    go_wp2
    go_roundg (n2 - (kk + 1))
    case measure => omega
    case rel => exact ⟨kk + 1, v2, by omega, by omega, by go_num, HK2, HS2⟩
   have hltz : ¬ (kk : Int) < (n2 : Int) := by omega
   rw [show l2.take kk = l2 from List.take_of_length_le (by have := HN2.out; omega)] at HK
   obtain ⟨q0, q1, q2, q3⟩ := HB.out wr v' HS.out
   have HL5 : qAj ((b4 ++ byB l2).length ≤ 300000300) := ⟨by have := HL4.out; have := HN2.out; simp [byB]; omega⟩
   clear hlt hg hkk HR2
   go_wp2_with fail
   refine (HE.out wr HK.out.below).mono ?_
   rintro e w5 ⟨hb, rr, rfl, ho⟩
   have HK5 := am (HK.out.below' hb)
   have HS5 := am (HS.out.trans (qBb.of_below hb))
   have HO := am ho
   have HPL := am HK.out.plt
   have HVL := am HK.out.vlt
   clear hb ho q0 q1 q2 q3 HK HS
   go_wp2_with fail
   refine (raw_out p wr.heap.size rr _ v' _ w5 HK5.out.st HO.out HPL.out HVL.out (by have := HL5.out; omega) (by have := HEL.out; omega)).mono ?_
   rintro e w6 ⟨v6, rfl, hst, hs⟩
   have HS6 := am (HSA.out.trans (HS5.out.trans hs))
   have HST : qAj (WrSt w6 p v6 (bs ++ fnB l0 a1 l2 l3)) := ⟨by
     have e : bs ++ fnB l0 a1 l2 l3 = b4 ++ byB l2 ++ rawB (encB (l3.map toD)) := by
       rw [HFB.out, HB4.out, Int.emod_eq_of_lt (by omega) (by omega : (n0 : Int) < 256), Int.emod_eq_of_lt (by omega) (by omega : (n2 : Int) < 256)]
       simp only [List.append_assoc]
     rw [e]; exact hst⟩
   clear hst hs
   go_wp2
   go_end0
   exact ⟨v6, rfl, HST.out, HS6.out⟩
theorem WK.alloc {wd W : World} {p : Nat} {v : Value} {bs : List Int} (h : WK wd p W v bs) (o : Obj) : WK wd p (W.alloc o) v bs := h.below' ((Below.refl _ _).alloc (Nat.le_refl _) _)
theorem qBJ (p : Nat) (W : World) (v : Value) (o : Obj) : qBb p W v (W.alloc o) v := qBb.of_below ((Below.refl _ _).alloc (Nat.le_refl _) _)
theorem WK.box {wd W W' : World} {p : Nat} {v v' : Value} {bs : List Int} {cs : Array Value} {t : TypeId} (h : WK wd p W v bs) (hs : qBb p (W.alloc (.cells cs t)) v W' v') (i : Nat) (x : Value) (hx : cs[i]? = some x) : W'.cell? ⟨W.heap.size, i, none⟩ = some x := by
 rw [hs.cell (a := ⟨W.heap.size, i, none⟩) (by simp) (Nat.ne_of_gt h.plt) (fun e => absurd (h.vlt _ e.symm) (Nat.lt_irrefl _)), World.cell?_alloc_at _ _ _ _ rfl]
 exact hx
def varB (x : S85) : List Int := rawB (qCg x.f0) ++ ([x.f1.f0 % 256] ++ be x.f1.f1 8 8)
def nfnB (x : S92) : List Int := rawB (qCg x.f0) ++ fnB x.f1.f0.f0 x.f1.f0.f1 x.f1.f1 x.f1.f2
def relB (x : S104) : List Int := be x.f0 2 2 ++ (be x.f1 2 2 ++ ([x.f2 % 256] ++ (rawB (qCg x.f3) ++ rawB (qCg x.f4))))
theorem qEF {α : Type} (f : α → List Int) (l : List α) (k : Nat) (x : α) (h : l[k]? = some x) : (l.take (k + 1)).flatMap f = (l.take k).flatMap f ++ f x := by
 obtain ⟨hk, he⟩ := List.getElem?_eq_some_iff.1 h
 rw [List.take_succ_eq_append_getElem hk, List.flatMap_append, he]; simp
theorem qDr {α : Type} (f : α → List Int) (l : List α) (m : Nat) (h : ∀ x ∈ l, (f x).length ≤ m) : (l.flatMap f).length ≤ l.length * m := by
 induction l with
 | nil => simp
 | cons x l ih =>
  have h1 := h x List.mem_cons_self
  have h2 := ih fun y hy => h y (List.mem_cons_of_mem _ hy)
  rw [List.flatMap_cons, List.length_append, List.length_cons]
  have : (l.length + 1) * m = l.length * m + m := by rw [Nat.add_mul, Nat.one_mul]
  omega
theorem rawB_len (ys : List Int) : (rawB ys).length = 4 + ys.length := by unfold rawB; rw [List.length_append, qAX]
theorem qCo (s : ByteArray) : (rawB (qCg s)).length = 4 + s.size := by rw [rawB_len, qBH]
def qB9 (s : ByteArray) : Prop := s.size ≤ 32
theorem varB_len (x : S85) (h : qB9 x.f0) : (varB x).length ≤ 45 := by
 unfold qB9 at h; unfold varB; rw [List.length_append, qCo, List.length_append, qAX]; simp only [List.length_cons, List.length_nil]; omega
theorem relB_len (x : S104) (h : qB9 x.f3) (h4 : qB9 x.f4) : (relB x).length ≤ 77 := by
 unfold qB9 at h h4; unfold relB
 rw [List.length_append, qAX, List.length_append, qAX, List.length_append, List.length_append, qCo, qCo]; simp only [List.length_cons, List.length_nil]; omega
def okFnS (x : S92) : Prop := x.f1.f0.f0.length ≤ 8 ∧ x.f1.f1.length ≤ 64 ∧ x.f1.f2.length ≤ 4096 ∧ x.f1.f2.all okS = true ∧ x.f1.f2.all u64S = true
theorem fnB_len (l0 : List Int) (a1 : Int) (l2 : List Int) (l3 : List S144) (h0 : l0.length ≤ 8) (h2 : l2.length ≤ 64) (h3 : l3.length ≤ 4096) : (fnB l0 a1 l2 l3).length ≤ 41050 := by
 have := encB_len (l3.map toD)
 rw [List.length_map] at this
 unfold fnB byB
 simp only [List.length_append, List.length_cons, List.length_nil, List.length_map, rawB_len]
 omega
theorem nfnB_len (x : S92) (h : qB9 x.f0) (hf : okFnS x) : (nfnB x).length ≤ 41100 := by
 unfold qB9 at h; unfold nfnB
 have := fnB_len x.f1.f0.f0 x.f1.f0.f1 x.f1.f1 x.f1.f2 hf.1 hf.2.1 hf.2.2.1
 rw [List.length_append, qCo]; omega
theorem vars_any (p : Nat) (a0 : ByteArray) (A1 : Option Addr) (n1 c1 : Nat) (A2 : Option Addr) (n2 c2 : Nat) (A3 : Option Addr) (n3 c3 : Nat) (l : List S85) (v : Value) (bs : List Int) (wd w : World) (hk : WK wd p w v bs)
  (hn : l.length = n1) (hr : Kd.C k85 wd A1 n1 l) (hl : l.length ≤ 64) (hok : ∀ x ∈ l, qB9 x.f0 ∧ 0 ≤ x.f1.f1 ∧ x.f1.f1 < 18446744073709551616) (hb : bs.length ≤ 100000) :
  Calls Tryz.prog 44 #[.agg #[.pointer (some ⟨p, 0, none⟩)], .agg #[.string a0, .slice A1 n1 c1, .slice A2 n2 c2, .slice A3 n3 c3]] w (qBS p (bs ++ (be l.length 4 4 ++ l.flatMap varB)) w v) := by
 obtain ⟨nn, hnn⟩ : ∃ m, m = n1 := ⟨_, rfl⟩
 obtain ⟨W0, hW0⟩ : ∃ W0, W0 = w.alloc (.cells #[.pointer (some ⟨p, 0, none⟩)] 114) := ⟨_, rfl⟩
 obtain ⟨WA, hWA⟩ : ∃ WA, WA = W0.alloc (.cells #[.string a0, .slice A1 n1 c1, .slice A2 n2 c2, .slice A3 n3 c3] 33) := ⟨_, rfl⟩
 have hK0 : WK wd p W0 v bs := hW0 ▸ hk.alloc _
 have hKA : WK wd p WA v bs := hWA ▸ hK0.alloc _
 have hS0 : qBb p w v W0 v := hW0 ▸ qBJ p w v _
 have hSA0 : qBb p W0 v WA v := hWA ▸ qBJ p W0 v _
 have hz0 : W0.heap.size = w.heap.size + 1 := by rw [hW0]; simp
 have HB : qAj (∀ W' v', qBb p WA v W' v' → W'.cell? ⟨w.heap.size, 0, none⟩ = some (.pointer (some ⟨p, 0, none⟩)) ∧ W'.cell? ⟨w.heap.size + 1, 1, none⟩ = some (.slice A1 n1 c1)) := ⟨fun W' v' hs => by
   have hs0 := hSA0.trans hs
   rw [hW0] at hs0
   have h2 := hK0.box (hWA ▸ hs) 1 (.slice A1 n1 c1) rfl
   rw [hz0] at h2
   exact ⟨hk.box hs0 0 _ rfl, h2⟩⟩
 have HWA : qAj (WA = (w.alloc (.cells #[.pointer (some ⟨p, 0, none⟩)] 114)).alloc (.cells #[.string a0, .slice A1 n1 c1, .slice A2 n2 c2, .slice A3 n3 c3] 33)) := ⟨by rw [← hW0]; exact hWA⟩
 have HKA := am hKA
 have HSA := am (hS0.trans hSA0)
 have HR := am hr
 have HN := am hn
 have HOK := am hok
 have HBL := am hb
 have hgA : w.heap.size + 1 < WA.heap.size := by rw [hWA]; simp [hz0]
 rw [hn] at hl
 clear hk hr hok hb hK0 hKA hS0 hSA0 hz0 hW0 hWA hnn
 clear hn
 go_enter Tryz.func44, Tryz.ntmps44
 go_wp2_with fail
 rw [← HWA.out]
 obtain ⟨q0, q1⟩ := HB.out WA v (qBb.refl _ _ _)
 go_wp2_with fail
 refine (qEK p (n1 : Int) v bs WA HKA.out.st (by omega) (by omega) (by have := HBL.out; omega)).mono ?_
 rintro e w1 ⟨v1, rfl, hst, hs⟩
 have HK1 := am (HKA.out.step hst hs)
 have HS1 := am hs
 clear hst hs q0 q1
 obtain ⟨q0, q1⟩ := HB.out w1 v1 HS1.out
 obtain ⟨b1, hb1⟩ : ∃ b, b = bs ++ be (n1 : Int) 4 4 := ⟨_, rfl⟩
 rw [← hb1] at HK1
 have HB1 := am hb1
 have HL1 : qAj (b1.length ≤ 100004) := ⟨by have := HBL.out; rw [hb1, List.length_append, qAX]; omega⟩
 clear hb1
 go_wp2_with fail
 go_loopg [5, 15] n1 (fun gg _ s15 wr => ∃ (kk : Nat) (v' : Value), kk ≤ n1 ∧ n1 - kk ≤ gg ∧ s15 = .int .i64 kk ∧ qAj (WK wd p wr v' (b1 ++ (l.take kk).flatMap varB)) ∧ qAj (qBb p WA v wr v'))
 case atStart => exact ⟨0, v1, Nat.zero_le _, by omega, rfl, ⟨by rw [List.take_zero]; show WK wd p w1 v1 (b1 ++ []); rw [List.append_nil]; exact HK1.out⟩, HS1⟩
 case round =>
  clear q0 q1 HK1 HS1
  obtain ⟨kk, v', hkk, hg, rfl, HK, HS⟩ := hrel
  by_cases hlt : kk < n1
  rotate_left
  ·have hltz : ¬ (kk : Int) < (n1 : Int) := by omega
   rw [show l.take kk = l from List.take_of_length_le (by have := HN.out; omega)] at HK
   go_wp2
   go_end0
   exact ⟨v', rfl, by rw [HN.out, ← List.append_assoc, ← HB1.out]; exact HK.out.st, HSA.out.trans HS.out⟩
  have hltz : (kk : Int) < (n1 : Int) := by omega
  have h0' : (0 : Int) ≤ (kk : Int) := by omega
  obtain ⟨ad, ea, hx0, hx1, hx2⟩ := at_T85 HR.out (kk : Int) h0' hltz
  subst ea
  rw [Int.toNat_natCast] at hx0 hx1 hx2
  replace hx0 := (HK.out.below.cell (World.block_lt_of_cell? wd _ hx0)).trans hx0
  replace hx1 := (HK.out.below.cell (World.block_lt_of_cell? wd _ hx1)).trans hx1
  replace hx2 := (HK.out.below.cell (World.block_lt_of_cell? wd _ hx2)).trans hx2
  obtain ⟨x, hx⟩ : ∃ x, x = qAV l (kk : Int) := ⟨_, rfl⟩
  rw [← hx] at hx0 hx1 hx2
  have HX : qAj (l[kk]? = some x) := ⟨by rw [hx]; exact qCV l z85 kk (by have := HN.out; omega)⟩
  have HO := am (HOK.out x (List.mem_of_getElem? HX.out))
  have HLB : qAj ((b1 ++ (l.take kk).flatMap varB).length ≤ 102884) := ⟨by
    have h1 := qDr varB (l.take kk) 45 (fun y hy => by have hy := HOK.out y (List.mem_of_mem_take hy); exact varB_len y hy.1)
    have h2 := HL1.out
    have h3 : (l.take kk).length ≤ 64 := by have := HN.out; rw [List.length_take]; omega
    rw [List.length_append]; omega⟩
  clear hx
  obtain ⟨q0, q1⟩ := HB.out wr v' HS.out
  obtain ⟨b2, hb2⟩ : ∃ b, b = b1 ++ (l.take kk).flatMap varB := ⟨_, rfl⟩
  rw [← hb2] at HK HLB
  have HB2 := am hb2
  clear hb2
  obtain ⟨WB, hWB⟩ : ∃ WB, WB = wr.alloc (.cells #[.string x.f0, .int .i64 x.f1.f0, .int .u64 x.f1.f1] 85) := ⟨_, rfl⟩
  have HKB : qAj (WK wd p WB v' b2) := ⟨hWB ▸ HK.out.alloc _⟩
  have HSB : qAj (qBb p WA v WB v') := ⟨HS.out.trans (hWB ▸ qBJ p wr v' _)⟩
  have hgB : wr.heap.size < WB.heap.size := by rw [hWB]; simp
  have HBX : qAj (∀ W' v'', qBb p WB v' W' v'' → W'.cell? ⟨wr.heap.size, 0, none⟩ = some (.string x.f0) ∧ W'.cell? ⟨wr.heap.size, 1, none⟩ = some (.int .i64 x.f1.f0) ∧ W'.cell? ⟨wr.heap.size, 2, none⟩ = some (.int .u64 x.f1.f1)) := ⟨fun W' v'' hs => ⟨HK.out.box (hWB ▸ hs) 0 _ rfl, HK.out.box (hWB ▸ hs) 1 _ rfl, HK.out.box (hWB ▸ hs) 2 _ rfl⟩⟩
  have HWB := am hWB
  clear hWB
  have hgw : w.heap.size + 1 < wr.heap.size := Nat.lt_of_lt_of_le hgA HS.out.size
  have hgw0 : w.heap.size < wr.heap.size := by omega
  go_wp2_with fail
  rw [← HWB.out]
  clear q0 q1 hx0 hx1 hx2 HK HS hgw hgw0
  refine (qDP p x.f0 v' _ WB HKB.out.st (by have := HLB.out; omega) (by have := HO.out.1; unfold qB9 at this; omega)).mono ?_
  rintro e y0 ⟨u0, rfl, hst, hs⟩
  have HK10 := am (HKB.out.step hst hs)
  have HS10 := am (HSB.out.trans hs)
  have HR10 := am ((qBb.refl p WB v').trans hs)
  clear hst hs
  obtain ⟨q0, q1⟩ := HB.out y0 u0 HS10.out
  obtain ⟨x0, x1, x2⟩ := HBX.out y0 u0 HR10.out
  go_wp2_with fail
  refine (qBN p _ u0 _ y0 HK10.out.st (by have := HLB.out; have hz := HO.out.1; unfold qB9 at hz; simp only [List.length_append, qCo]; omega)).mono ?_
  rintro e y1 ⟨u1, rfl, hst, hs⟩
  have HK11 := am (HK10.out.step hst hs)
  have HS11 := am (HS10.out.trans hs)
  have HR11 := am (HR10.out.trans hs)
  clear hst hs q0 q1 x0 x1 x2
  obtain ⟨q0, q1⟩ := HB.out y1 u1 HS11.out
  obtain ⟨x0, x1, x2⟩ := HBX.out y1 u1 HR11.out
  go_wp2_with fail
  refine (long_any p x.f1.f1 u1 _ y1 HK11.out.st HO.out.2.1 (by have := HO.out.2.2; omega) (by have := HLB.out; have hz := HO.out.1; unfold qB9 at hz; simp only [List.length_append, List.length_cons, List.length_nil, qCo]; omega)).mono ?_
  rintro e y2 ⟨u2, rfl, hst, hs⟩
  have HK12 := am (HK11.out.step hst hs)
  have HS12 := am (HS11.out.trans hs)
  clear hst hs q0 q1 x0 x1 x2
  have HKN : qAj (WK wd p y2 u2 (b1 ++ (l.take (kk + 1)).flatMap varB)) := ⟨by
    rw [qEF varB l kk x HX.out, ← List.append_assoc, ← HB2.out]; unfold varB; simpa only [List.append_assoc] using HK12.out⟩
  go_wp2
  go_roundg (n1 - (kk + 1))
  case measure => omega
  case rel => exact ⟨kk + 1, u2, by omega, by omega, by go_num, HKN, ⟨HS12.out⟩⟩
theorem fns_any (p : Nat) (a0 : ByteArray) (A1 : Option Addr) (n1 c1 : Nat) (A2 : Option Addr) (n2 c2 : Nat) (A3 : Option Addr) (n3 c3 : Nat) (l : List S92) (v : Value) (bs : List Int) (wd w : World) (hk : WK wd p w v bs)
  (hn : l.length = n2) (hr : Kd.C k92 wd A2 n2 l) (hl : l.length ≤ 64) (hok : ∀ x ∈ l, qB9 x.f0 ∧ okFnS x) (hb : bs.length ≤ 200000) :
  Calls Tryz.prog 45 #[.agg #[.pointer (some ⟨p, 0, none⟩)], .agg #[.string a0, .slice A1 n1 c1, .slice A2 n2 c2, .slice A3 n3 c3]] w (qBS p (bs ++ (be l.length 4 4 ++ l.flatMap nfnB)) w v) := by
 obtain ⟨nn, hnn⟩ : ∃ m, m = n2 := ⟨_, rfl⟩
 obtain ⟨W0, hW0⟩ : ∃ W0, W0 = w.alloc (.cells #[.pointer (some ⟨p, 0, none⟩)] 114) := ⟨_, rfl⟩
 obtain ⟨WA, hWA⟩ : ∃ WA, WA = W0.alloc (.cells #[.string a0, .slice A1 n1 c1, .slice A2 n2 c2, .slice A3 n3 c3] 33) := ⟨_, rfl⟩
 have hK0 : WK wd p W0 v bs := hW0 ▸ hk.alloc _
 have hKA : WK wd p WA v bs := hWA ▸ hK0.alloc _
 have hS0 : qBb p w v W0 v := hW0 ▸ qBJ p w v _
 have hSA0 : qBb p W0 v WA v := hWA ▸ qBJ p W0 v _
 have hz0 : W0.heap.size = w.heap.size + 1 := by rw [hW0]; simp
 have HB : qAj (∀ W' v', qBb p WA v W' v' → W'.cell? ⟨w.heap.size, 0, none⟩ = some (.pointer (some ⟨p, 0, none⟩)) ∧ W'.cell? ⟨w.heap.size + 1, 2, none⟩ = some (.slice A2 n2 c2)) := ⟨fun W' v' hs => by
   have hs0 := hSA0.trans hs
   rw [hW0] at hs0
   have h2 := hK0.box (hWA ▸ hs) 2 (.slice A2 n2 c2) rfl
   rw [hz0] at h2
   exact ⟨hk.box hs0 0 _ rfl, h2⟩⟩
 have HWA : qAj (WA = (w.alloc (.cells #[.pointer (some ⟨p, 0, none⟩)] 114)).alloc (.cells #[.string a0, .slice A1 n1 c1, .slice A2 n2 c2, .slice A3 n3 c3] 33)) := ⟨by rw [← hW0]; exact hWA⟩
 have HKA := am hKA
 have HSA := am (hS0.trans hSA0)
 have HR := am hr
 have HN := am hn
 have HOK := am hok
 have HBL := am hb
 have hgA : w.heap.size + 1 < WA.heap.size := by rw [hWA]; simp [hz0]
 rw [hn] at hl
 clear hk hr hok hb hK0 hKA hS0 hSA0 hz0 hW0 hWA hnn
 clear hn
 go_enter Tryz.func45, Tryz.ntmps45
 go_wp2_with fail
 rw [← HWA.out]
 obtain ⟨q0, q1⟩ := HB.out WA v (qBb.refl _ _ _)
 go_wp2_with fail
 refine (qEK p (n2 : Int) v bs WA HKA.out.st (by omega) (by omega) (by have := HBL.out; omega)).mono ?_
 rintro e w1 ⟨v1, rfl, hst, hs⟩
 have HK1 := am (HKA.out.step hst hs)
 have HS1 := am hs
 clear hst hs q0 q1
 obtain ⟨q0, q1⟩ := HB.out w1 v1 HS1.out
 obtain ⟨b1, hb1⟩ : ∃ b, b = bs ++ be (n2 : Int) 4 4 := ⟨_, rfl⟩
 rw [← hb1] at HK1
 have HB1 := am hb1
 have HL1 : qAj (b1.length ≤ 200004) := ⟨by have := HBL.out; rw [hb1, List.length_append, qAX]; omega⟩
 clear hb1
 go_wp2_with fail
 go_loopg [5, 15] n2 (fun gg _ s15 wr => ∃ (kk : Nat) (v' : Value), kk ≤ n2 ∧ n2 - kk ≤ gg ∧ s15 = .int .i64 kk ∧ qAj (WK wd p wr v' (b1 ++ (l.take kk).flatMap nfnB)) ∧ qAj (qBb p WA v wr v'))
 case atStart => exact ⟨0, v1, Nat.zero_le _, by omega, rfl, ⟨by rw [List.take_zero]; show WK wd p w1 v1 (b1 ++ []); rw [List.append_nil]; exact HK1.out⟩, HS1⟩
 case round =>
  clear q0 q1 HK1 HS1
  obtain ⟨kk, v', hkk, hg, rfl, HK, HS⟩ := hrel
  by_cases hlt : kk < n2
  rotate_left
  ·have hltz : ¬ (kk : Int) < (n2 : Int) := by omega
   rw [show l.take kk = l from List.take_of_length_le (by have := HN.out; omega)] at HK
   go_wp2
   go_end0
   exact ⟨v', rfl, by rw [HN.out, ← List.append_assoc, ← HB1.out]; exact HK.out.st, HSA.out.trans HS.out⟩
  have hltz : (kk : Int) < (n2 : Int) := by omega
  have h0' : (0 : Int) ≤ (kk : Int) := by omega
  obtain ⟨ad, B1, d1, B3, d3, B4, d4, ea, hx0, hx1, hx2, hx3, hx4, hl1, hC1, hl3, hC3, hl4, hC4⟩ := at_T92 HR.out (kk : Int) h0' hltz
  subst ea
  rw [Int.toNat_natCast] at hx0 hx1 hx2 hx3 hx4
  replace hx0 := (HK.out.below.cell (World.block_lt_of_cell? wd _ hx0)).trans hx0
  replace hx1 := (HK.out.below.cell (World.block_lt_of_cell? wd _ hx1)).trans hx1
  replace hx2 := (HK.out.below.cell (World.block_lt_of_cell? wd _ hx2)).trans hx2
  replace hx3 := (HK.out.below.cell (World.block_lt_of_cell? wd _ hx3)).trans hx3
  replace hx4 := (HK.out.below.cell (World.block_lt_of_cell? wd _ hx4)).trans hx4
  obtain ⟨x, hx⟩ : ∃ x, x = qAx l (kk : Int) := ⟨_, rfl⟩
  rw [← hx] at hx0 hx1 hx2 hx3 hx4 hC1 hC3 hC4
  have HC1 := am hC1
  have HC3 := am hC3
  have HC4 := am hC4
  clear hl1 hl3 hl4 hC1 hC3 hC4
  have HX : qAj (l[kk]? = some x) := ⟨by rw [hx]; exact qCV l z92 kk (by have := HN.out; omega)⟩
  have HO := am (HOK.out x (List.mem_of_getElem? HX.out))
  have HLB : qAj ((b1 ++ (l.take kk).flatMap nfnB).length ≤ 2830404) := ⟨by
    have h1 := qDr nfnB (l.take kk) 41100 (fun y hy => by have hy := HOK.out y (List.mem_of_mem_take hy); exact nfnB_len y hy.1 hy.2)
    have h2 := HL1.out
    have h3 : (l.take kk).length ≤ 64 := by have := HN.out; rw [List.length_take]; omega
    rw [List.length_append]; omega⟩
  clear hx
  obtain ⟨q0, q1⟩ := HB.out wr v' HS.out
  obtain ⟨b2, hb2⟩ : ∃ b, b = b1 ++ (l.take kk).flatMap nfnB := ⟨_, rfl⟩
  rw [← hb2] at HK HLB
  have HB2 := am hb2
  clear hb2
  obtain ⟨WB, hWB⟩ : ∃ WB, WB = wr.alloc (.cells #[.string x.f0, .slice B1 x.f1.f0.f0.length d1, .int .i64 x.f1.f0.f1, .slice B3 x.f1.f1.length d3, .slice B4 x.f1.f2.length d4] 92) := ⟨_, rfl⟩
  have HKB : qAj (WK wd p WB v' b2) := ⟨hWB ▸ HK.out.alloc _⟩
  have HSB : qAj (qBb p WA v WB v') := ⟨HS.out.trans (hWB ▸ qBJ p wr v' _)⟩
  have hgB : wr.heap.size < WB.heap.size := by rw [hWB]; simp
  have HBX : qAj (∀ W' v'', qBb p WB v' W' v'' → W'.cell? ⟨wr.heap.size, 0, none⟩ = some (.string x.f0) ∧ W'.cell? ⟨wr.heap.size, 1, none⟩ = some (.slice B1 x.f1.f0.f0.length d1) ∧ W'.cell? ⟨wr.heap.size, 2, none⟩ = some (.int .i64 x.f1.f0.f1) ∧ W'.cell? ⟨wr.heap.size, 3, none⟩ = some (.slice B3 x.f1.f1.length d3) ∧ W'.cell? ⟨wr.heap.size, 4, none⟩ = some (.slice B4 x.f1.f2.length d4)) := ⟨fun W' v'' hs => ⟨HK.out.box (hWB ▸ hs) 0 _ rfl, HK.out.box (hWB ▸ hs) 1 _ rfl, HK.out.box (hWB ▸ hs) 2 _ rfl, HK.out.box (hWB ▸ hs) 3 _ rfl, HK.out.box (hWB ▸ hs) 4 _ rfl⟩⟩
  have HWB := am hWB
  clear hWB
  have hgw : w.heap.size + 1 < wr.heap.size := Nat.lt_of_lt_of_le hgA HS.out.size
  have hgw0 : w.heap.size < wr.heap.size := by omega
  go_wp2_with fail
  rw [← HWB.out]
  clear q0 q1 hx0 hx1 hx2 hx3 hx4 HK HS hgw hgw0
  refine (qDP p x.f0 v' _ WB HKB.out.st (by have := HLB.out; omega) (by have := HO.out.1; unfold qB9 at this; omega)).mono ?_
  rintro e y0 ⟨u0, rfl, hst, hs⟩
  have HK10 := am (HKB.out.step hst hs)
  have HS10 := am (HSB.out.trans hs)
  have HR10 := am ((qBb.refl p WB v').trans hs)
  clear hst hs
  obtain ⟨q0, q1⟩ := HB.out y0 u0 HS10.out
  obtain ⟨x0, x1, x2, x3, x4⟩ := HBX.out y0 u0 HR10.out
  go_wp2_with fail
  refine (fn_any p B1 d1 _ _ B3 d3 _ B4 d4 _ u0 _ wd y0 HK10.out HC1.out HC3.out HC4.out HO.out.2.1 HO.out.2.2.1 HO.out.2.2.2.1 HO.out.2.2.2.2.1 HO.out.2.2.2.2.2 (by have := HLB.out; have hz := HO.out.1; unfold qB9 at hz; simp only [List.length_append, qCo]; omega)).mono ?_
  rintro e y1 ⟨u1, rfl, hst, hs⟩
  have HK11 := am (HK10.out.step hst hs)
  have HS11 := am (HS10.out.trans hs)
  clear hst hs q0 q1 x0 x1 x2 x3 x4
  have HKN : qAj (WK wd p y1 u1 (b1 ++ (l.take (kk + 1)).flatMap nfnB)) := ⟨by
    rw [qEF nfnB l kk x HX.out, ← List.append_assoc, ← HB2.out]; unfold nfnB; simpa only [List.append_assoc] using HK11.out⟩
  go_wp2
  go_roundg (n2 - (kk + 1))
  case measure => omega
  case rel => exact ⟨kk + 1, u1, by omega, by omega, by go_num, HKN, ⟨HS11.out⟩⟩
theorem rels_any (p : Nat) (a0 : ByteArray) (A1 : Option Addr) (n1 c1 : Nat) (A2 : Option Addr) (n2 c2 : Nat) (A3 : Option Addr) (n3 c3 : Nat) (l : List S104) (v : Value) (bs : List Int) (wd w : World) (hk : WK wd p w v bs)
  (hn : l.length = n3) (hr : Kd.C k104 wd A3 n3 l) (hl : l.length ≤ 262144) (hok : ∀ x ∈ l, qB9 x.f3 ∧ qB9 x.f4 ∧ 0 ≤ x.f0 ∧ x.f0 ≤ 9223372036854775807 ∧ 0 ≤ x.f1 ∧ x.f1 ≤ 9223372036854775807) (hb : bs.length ≤ 100000000) :
  Calls Tryz.prog 46 #[.agg #[.pointer (some ⟨p, 0, none⟩)], .agg #[.string a0, .slice A1 n1 c1, .slice A2 n2 c2, .slice A3 n3 c3]] w (qBS p (bs ++ (be l.length 4 4 ++ l.flatMap relB)) w v) := by
 obtain ⟨nn, hnn⟩ : ∃ m, m = n3 := ⟨_, rfl⟩
 obtain ⟨W0, hW0⟩ : ∃ W0, W0 = w.alloc (.cells #[.pointer (some ⟨p, 0, none⟩)] 114) := ⟨_, rfl⟩
 obtain ⟨WA, hWA⟩ : ∃ WA, WA = W0.alloc (.cells #[.string a0, .slice A1 n1 c1, .slice A2 n2 c2, .slice A3 n3 c3] 33) := ⟨_, rfl⟩
 have hK0 : WK wd p W0 v bs := hW0 ▸ hk.alloc _
 have hKA : WK wd p WA v bs := hWA ▸ hK0.alloc _
 have hS0 : qBb p w v W0 v := hW0 ▸ qBJ p w v _
 have hSA0 : qBb p W0 v WA v := hWA ▸ qBJ p W0 v _
 have hz0 : W0.heap.size = w.heap.size + 1 := by rw [hW0]; simp
 have HB : qAj (∀ W' v', qBb p WA v W' v' → W'.cell? ⟨w.heap.size, 0, none⟩ = some (.pointer (some ⟨p, 0, none⟩)) ∧ W'.cell? ⟨w.heap.size + 1, 3, none⟩ = some (.slice A3 n3 c3)) := ⟨fun W' v' hs => by
   have hs0 := hSA0.trans hs
   rw [hW0] at hs0
   have h2 := hK0.box (hWA ▸ hs) 3 (.slice A3 n3 c3) rfl
   rw [hz0] at h2
   exact ⟨hk.box hs0 0 _ rfl, h2⟩⟩
 have HWA : qAj (WA = (w.alloc (.cells #[.pointer (some ⟨p, 0, none⟩)] 114)).alloc (.cells #[.string a0, .slice A1 n1 c1, .slice A2 n2 c2, .slice A3 n3 c3] 33)) := ⟨by rw [← hW0]; exact hWA⟩
 have HKA := am hKA
 have HSA := am (hS0.trans hSA0)
 have HR := am hr
 have HN := am hn
 have HOK := am hok
 have HBL := am hb
 have hgA : w.heap.size + 1 < WA.heap.size := by rw [hWA]; simp [hz0]
 rw [hn] at hl
 clear hk hr hok hb hK0 hKA hS0 hSA0 hz0 hW0 hWA hnn
 clear hn
 go_enter Tryz.func46, Tryz.ntmps46
 go_wp2_with fail
 rw [← HWA.out]
 obtain ⟨q0, q1⟩ := HB.out WA v (qBb.refl _ _ _)
 go_wp2_with fail
 refine (qEK p (n3 : Int) v bs WA HKA.out.st (by omega) (by omega) (by have := HBL.out; omega)).mono ?_
 rintro e w1 ⟨v1, rfl, hst, hs⟩
 have HK1 := am (HKA.out.step hst hs)
 have HS1 := am hs
 clear hst hs q0 q1
 obtain ⟨q0, q1⟩ := HB.out w1 v1 HS1.out
 obtain ⟨b1, hb1⟩ : ∃ b, b = bs ++ be (n3 : Int) 4 4 := ⟨_, rfl⟩
 rw [← hb1] at HK1
 have HB1 := am hb1
 have HL1 : qAj (b1.length ≤ 100000004) := ⟨by have := HBL.out; rw [hb1, List.length_append, qAX]; omega⟩
 clear hb1
 go_wp2_with fail
 go_loopg [5, 15] n3 (fun gg _ s15 wr => ∃ (kk : Nat) (v' : Value), kk ≤ n3 ∧ n3 - kk ≤ gg ∧ s15 = .int .i64 kk ∧ qAj (WK wd p wr v' (b1 ++ (l.take kk).flatMap relB)) ∧ qAj (qBb p WA v wr v'))
 case atStart => exact ⟨0, v1, Nat.zero_le _, by omega, rfl, ⟨by rw [List.take_zero]; show WK wd p w1 v1 (b1 ++ []); rw [List.append_nil]; exact HK1.out⟩, HS1⟩
 case round =>
  clear q0 q1 HK1 HS1
  obtain ⟨kk, v', hkk, hg, rfl, HK, HS⟩ := hrel
  by_cases hlt : kk < n3
  rotate_left
  ·have hltz : ¬ (kk : Int) < (n3 : Int) := by omega
   rw [show l.take kk = l from List.take_of_length_le (by have := HN.out; omega)] at HK
   go_wp2
   go_end0
   exact ⟨v', rfl, by rw [HN.out, ← List.append_assoc, ← HB1.out]; exact HK.out.st, HSA.out.trans HS.out⟩
  have hltz : (kk : Int) < (n3 : Int) := by omega
  have h0' : (0 : Int) ≤ (kk : Int) := by omega
  obtain ⟨ad, ea, hx0, hx1, hx2, hx3, hx4⟩ := qDU HR.out (kk : Int) h0' hltz
  subst ea
  rw [Int.toNat_natCast] at hx0 hx1 hx2 hx3 hx4
  replace hx0 := (HK.out.below.cell (World.block_lt_of_cell? wd _ hx0)).trans hx0
  replace hx1 := (HK.out.below.cell (World.block_lt_of_cell? wd _ hx1)).trans hx1
  replace hx2 := (HK.out.below.cell (World.block_lt_of_cell? wd _ hx2)).trans hx2
  replace hx3 := (HK.out.below.cell (World.block_lt_of_cell? wd _ hx3)).trans hx3
  replace hx4 := (HK.out.below.cell (World.block_lt_of_cell? wd _ hx4)).trans hx4
  obtain ⟨x, hx⟩ : ∃ x, x = qCv l (kk : Int) := ⟨_, rfl⟩
  rw [← hx] at hx0 hx1 hx2 hx3 hx4
  have HX : qAj (l[kk]? = some x) := ⟨by rw [hx]; exact qCV l z104 kk (by have := HN.out; omega)⟩
  have HO := am (HOK.out x (List.mem_of_getElem? HX.out))
  have HLB : qAj ((b1 ++ (l.take kk).flatMap relB).length ≤ 120185092) := ⟨by
    have h1 := qDr relB (l.take kk) 77 (fun y hy => by have hy := HOK.out y (List.mem_of_mem_take hy); exact relB_len y hy.1 hy.2.1)
    have h2 := HL1.out
    have h3 : (l.take kk).length ≤ 262144 := by have := HN.out; rw [List.length_take]; omega
    rw [List.length_append]; omega⟩
  clear hx
  obtain ⟨q0, q1⟩ := HB.out wr v' HS.out
  obtain ⟨b2, hb2⟩ : ∃ b, b = b1 ++ (l.take kk).flatMap relB := ⟨_, rfl⟩
  rw [← hb2] at HK HLB
  have HB2 := am hb2
  clear hb2
  obtain ⟨WB, hWB⟩ : ∃ WB, WB = wr.alloc (.cells #[.int .i64 x.f0, .int .i64 x.f1, .int .i64 x.f2, .string x.f3, .string x.f4] 104) := ⟨_, rfl⟩
  have HKB : qAj (WK wd p WB v' b2) := ⟨hWB ▸ HK.out.alloc _⟩
  have HSB : qAj (qBb p WA v WB v') := ⟨HS.out.trans (hWB ▸ qBJ p wr v' _)⟩
  have hgB : wr.heap.size < WB.heap.size := by rw [hWB]; simp
  have HBX : qAj (∀ W' v'', qBb p WB v' W' v'' → W'.cell? ⟨wr.heap.size, 0, none⟩ = some (.int .i64 x.f0) ∧ W'.cell? ⟨wr.heap.size, 1, none⟩ = some (.int .i64 x.f1) ∧ W'.cell? ⟨wr.heap.size, 2, none⟩ = some (.int .i64 x.f2) ∧ W'.cell? ⟨wr.heap.size, 3, none⟩ = some (.string x.f3) ∧ W'.cell? ⟨wr.heap.size, 4, none⟩ = some (.string x.f4)) := ⟨fun W' v'' hs => ⟨HK.out.box (hWB ▸ hs) 0 _ rfl, HK.out.box (hWB ▸ hs) 1 _ rfl, HK.out.box (hWB ▸ hs) 2 _ rfl, HK.out.box (hWB ▸ hs) 3 _ rfl, HK.out.box (hWB ▸ hs) 4 _ rfl⟩⟩
  have HWB := am hWB
  clear hWB
  have hgw : w.heap.size + 1 < wr.heap.size := Nat.lt_of_lt_of_le hgA HS.out.size
  have hgw0 : w.heap.size < wr.heap.size := by omega
  go_wp2_with fail
  rw [← HWB.out]
  clear q0 q1 hx0 hx1 hx2 hx3 hx4 HK HS hgw hgw0
  refine (short_any p x.f0 v' _ WB HKB.out.st HO.out.2.2.1 HO.out.2.2.2.1 (by have := HLB.out; omega)).mono ?_
  rintro e y0 ⟨u0, rfl, hst, hs⟩
  have HK10 := am (HKB.out.step hst hs)
  have HS10 := am (HSB.out.trans hs)
  have HR10 := am ((qBb.refl p WB v').trans hs)
  clear hst hs
  obtain ⟨q0, q1⟩ := HB.out y0 u0 HS10.out
  obtain ⟨x0, x1, x2, x3, x4⟩ := HBX.out y0 u0 HR10.out
  go_wp2_with fail
  refine (short_any p x.f1 u0 _ y0 HK10.out.st HO.out.2.2.2.2.1 HO.out.2.2.2.2.2 (by have := HLB.out; have hz := HO.out.1; have hz2 := HO.out.2.1; unfold qB9 at hz hz2; simp only [List.length_append, qAX]; omega)).mono ?_
  rintro e y1 ⟨u1, rfl, hst, hs⟩
  have HK11 := am (HK10.out.step hst hs)
  have HS11 := am (HS10.out.trans hs)
  have HR11 := am (HR10.out.trans hs)
  clear hst hs q0 q1 x0 x1 x2 x3 x4
  obtain ⟨q0, q1⟩ := HB.out y1 u1 HS11.out
  obtain ⟨x0, x1, x2, x3, x4⟩ := HBX.out y1 u1 HR11.out
  go_wp2_with fail
  refine (qBN p _ u1 _ y1 HK11.out.st (by have := HLB.out; have hz := HO.out.1; have hz2 := HO.out.2.1; unfold qB9 at hz hz2; simp only [List.length_append, qAX]; omega)).mono ?_
  rintro e y2 ⟨u2, rfl, hst, hs⟩
  have HK12 := am (HK11.out.step hst hs)
  have HS12 := am (HS11.out.trans hs)
  have HR12 := am (HR11.out.trans hs)
  clear hst hs q0 q1 x0 x1 x2 x3 x4
  obtain ⟨q0, q1⟩ := HB.out y2 u2 HS12.out
  obtain ⟨x0, x1, x2, x3, x4⟩ := HBX.out y2 u2 HR12.out
  go_wp2_with fail
  refine (qDP p x.f3 u2 _ y2 HK12.out.st (by have := HLB.out; have hz := HO.out.1; have hz2 := HO.out.2.1; unfold qB9 at hz hz2; simp only [List.length_append, List.length_cons, List.length_nil, qAX]; omega) (by have := HO.out.1; unfold qB9 at this; omega)).mono ?_
  rintro e y3 ⟨u3, rfl, hst, hs⟩
  have HK13 := am (HK12.out.step hst hs)
  have HS13 := am (HS12.out.trans hs)
  have HR13 := am (HR12.out.trans hs)
  clear hst hs q0 q1 x0 x1 x2 x3 x4
  obtain ⟨q0, q1⟩ := HB.out y3 u3 HS13.out
  obtain ⟨x0, x1, x2, x3, x4⟩ := HBX.out y3 u3 HR13.out
  go_wp2_with fail
  refine (qDP p x.f4 u3 _ y3 HK13.out.st (by have := HLB.out; have hz := HO.out.1; have hz2 := HO.out.2.1; unfold qB9 at hz hz2; simp only [List.length_append, List.length_cons, List.length_nil, qAX, qCo]; omega) (by have := HO.out.2.1; unfold qB9 at this; omega)).mono ?_
  rintro e y4 ⟨u4, rfl, hst, hs⟩
  have HK14 := am (HK13.out.step hst hs)
  have HS14 := am (HS13.out.trans hs)
  clear hst hs q0 q1 x0 x1 x2 x3 x4
  have HKN : qAj (WK wd p y4 u4 (b1 ++ (l.take (kk + 1)).flatMap relB)) := ⟨by
    rw [qEF relB l kk x HX.out, ← List.append_assoc, ← HB2.out]; unfold relB; simpa only [List.append_assoc] using HK14.out⟩
  go_wp2
  go_roundg (n3 - (kk + 1))
  case measure => omega
  case rel => exact ⟨kk + 1, u4, by omega, by omega, by go_num, HKN, ⟨HS14.out⟩⟩
def qDl (m : ByteArray) (vars : List S85) (fns : List S92) (rels : List S104) : List Int :=
 [102, 111, 98, 106] ++ (rawB (qCg m) ++ ((be vars.length 4 4 ++ vars.flatMap varB) ++ ((be fns.length 4 4 ++ fns.flatMap nfnB) ++ (be rels.length 4 4 ++ rels.flatMap relB))))
theorem qEm {s : ByteArray} {l : List ByteArray} (h : qBl s l = 0) : Names.nameE s = 0 ∧ hasB l s = false := by
 unfold qBl at h
 split at h
 ·rename_i h1; exact absurd h h1
 rename_i h1
 split at h
 ·cases h
 rename_i h2; exact ⟨Decidable.not_not.mp h1, by simpa using h2⟩
theorem varsE_ok : ∀ (l : List S85) (ahead : List ByteArray), qCT ahead l = 0 → ∀ x ∈ l, Names.nameE x.f0 = 0 ∧ okV x.f1.f0 x.f1.f1 = true
 | [], _, _, x, hx => by cases hx
 | v :: vs, ahead, h, x, hx => by
  simp only [qCT] at h
  split at h
  ·rename_i h1; exact absurd h h1
  rename_i h1
  split at h
  ·cases h
  rename_i h2
  rcases List.mem_cons.1 hx with e | hx
  ·rw [e]; exact ⟨(qEm (Decidable.not_not.mp h1)).1, by simpa using h2⟩
  exact varsE_ok vs _ h x hx
theorem fnsE_ok : ∀ (l : List S92) (ahead : List ByteArray), fnsE ahead l = 0 → ∀ x ∈ l, Names.nameE x.f0 = 0 ∧ fnOk x = true
 | [], _, _, x, hx => by cases hx
 | v :: vs, ahead, h, x, hx => by
  simp only [fnsE] at h
  split at h
  ·rename_i h1; exact absurd h h1
  rename_i h1
  split at h
  ·cases h
  rename_i h2
  rcases List.mem_cons.1 hx with e | hx
  ·rw [e]; exact ⟨(qEm (Decidable.not_not.mp h1)).1, by simpa using h2⟩
  exact fnsE_ok vs _ h x hx
theorem qEW : ∀ (l : List S104), qBp l = 0 → ∀ x ∈ l, Names.nameE x.f3 = 0 ∧ Names.nameE x.f4 = 0
 | [], _, x, hx => by cases hx
 | r :: rs, h, x, hx => by
  simp only [qBp] at h
  split at h
  ·rename_i h1; exact absurd h h1
  rename_i h1
  split at h
  ·rename_i h2; exact absurd h h2
  rename_i h2
  rcases List.mem_cons.1 hx with e | hx
  ·rw [e]; exact ⟨Decidable.not_not.mp h1, Decidable.not_not.mp h2⟩
  exact qEW rs h x hx
theorem qDX : ∀ (a b : List S104), qB8 a b = true → ∀ x ∈ a, ∃ y ∈ b, qE9 x y = true
 | [], _, _, x, hx => by cases hx
 | x :: xs, [], h, _, _ => by simp [qB8] at h
 | x :: xs, y :: ys, h, z, hz => by
  simp only [qB8, Bool.and_eq_true] at h
  rcases List.mem_cons.1 hz with e | hz
  ·exact ⟨y, List.mem_cons_self, e ▸ h.1⟩
  obtain ⟨u, hu, hb⟩ := qDX xs ys h.2 z hz
  exact ⟨u, List.mem_cons_of_mem _ hu, hb⟩
structure qE6 (m : ByteArray) (vars : List S85) (fns : List S92) (rels : List S104) : Prop where
 m : Names.nameE m = 0
 n : vars.length + fns.length ≤ 64
 v : ∀ x ∈ vars, Names.nameE x.f0 = 0 ∧ okV x.f1.f0 x.f1.f1 = true
 f : ∀ x ∈ fns, Names.nameE x.f0 = 0 ∧ fnOk x = true
 e : qB8 rels (qBw fns) = true
 r : ∀ x ∈ rels, Names.nameE x.f3 = 0 ∧ Names.nameE x.f4 = 0
theorem qE6.of {m : ByteArray} {vars : List S85} {fns : List S92} {rels : List S104} (h : qCw m vars fns rels = 0) : qE6 m vars fns rels := by
 unfold qCw at h
 split at h
 ·rename_i h1; exact absurd h h1
 rename_i h1
 split at h
 ·cases h
 rename_i h2
 split at h
 ·rename_i h3; exact absurd h h3
 rename_i h3
 split at h
 ·rename_i h4; exact absurd h h4
 rename_i h4
 unfold qCG at h
 split at h
 ·cases h
 rename_i h5
 split at h
 ·cases h
 rename_i h6
 split at h
 ·rename_i h7; exact absurd h h7
 rename_i h7
 exact ⟨Decidable.not_not.mp h1, by omega, varsE_ok _ _ (Decidable.not_not.mp h3), fnsE_ok _ _ (Decidable.not_not.mp h4), by simpa using h5, qEW _ (Decidable.not_not.mp h7)⟩
theorem qE6.rels {m : ByteArray} {vars : List S85} {fns : List S92} {rels : List S104} (h : qE6 m vars fns rels) : rels.length ≤ 262144 := by
 rw [qDY _ _ h.e]
 have := fnsP_len fns 0 fun x hx => (qE0 (h.f x hx).2).2.2.1
 have := h.n
 unfold qBw; omega
theorem bareB_eq {x y : S104} (h : qE9 x y = true) : x.f0 = y.f0 ∧ x.f1 = y.f1 ∧ x.f2 = y.f2 := by
 unfold qE9 at h; simpa using h
theorem qE6.at_ {m : ByteArray} {vars : List S85} {fns : List S92} {rels : List S104} (h : qE6 m vars fns rels) : ∀ x ∈ rels, 0 ≤ x.f0 ∧ x.f0 < 64 ∧ 0 ≤ x.f1 ∧ x.f1 < 4096 := fun x hx => by
 obtain ⟨y, hy, hb⟩ := qDX _ _ h.e x hx
 obtain ⟨e0, e1, _⟩ := bareB_eq hb
 obtain ⟨g0, g1, g2, g3⟩ := placesL_in fns y hy
 have hm := qC3 fns z92 y.f0 g0 g1
 have := (qE0 (h.f _ hm).2).2.2.1
 have : (qAx fns y.f0).f1.f2.length ≤ 4096 := this
 have := h.n
 rw [e0, e1]; omega
instance (m : ByteArray) (vars : List S85) (fns : List S92) (rels : List S104) : Decidable (qEr m vars fns rels) :=
 decidable_of_iff (m.size ≤ 140737488351232 ∧ vars.length ≤ 2305843009213693952 ∧ (∀ x ∈ vars, x.f0.size ≤ 140737488351232 ∧ 0 ≤ x.f1.f1 ∧ x.f1.f1 < 18446744073709551616) ∧ fns.length ≤ 2305843009213693952 ∧
   (∀ x ∈ fns, x.f0.size ≤ 140737488351232 ∧ x.f1.f0.f0.length ≤ 4611686018427387904 ∧ x.f1.f1.length ≤ 4611686018427387904 ∧ x.f1.f2.length ≤ 4611686018427387904 ∧ x.f1.f2.all u64S = true) ∧ rels.length ≤ 4611686018427387904 ∧ (∀ x ∈ rels, x.f3.size ≤ 140737488351232 ∧ x.f4.size ≤ 140737488351232))
  ⟨fun ⟨a, b, c, d, e, f, g⟩ => ⟨a, b, c, d, e, f, g⟩, fun ⟨a, b, c, d, e, f, g⟩ => ⟨a, b, c, d, e, f, g⟩⟩
def qBh.f (a0_0 : ByteArray) (l0_1 : List (S85)) (l0_2 : List (S92)) (l0_3 : List (S104)) : Option (List Int × Int) :=
 if qEr a0_0 l0_1 l0_2 l0_3 then (if qCw a0_0 l0_1 l0_2 l0_3 ≠ 0 then some ([], qCw a0_0 l0_1 l0_2 l0_3) else if 16384 < (qDl a0_0 l0_1 l0_2 l0_3).length then some ([], 3) else some (qDl a0_0 l0_1 l0_2 l0_3, 0)) else none
end Q
end
section
namespace Q
open Go.RowKit PA PC PB
open Val Ins Wr Enc Wr2 Clone
def accP (b5 : List Int) (vars : List S85) (fns : List S92) (rels : List S104) : Nat → List Int
 | 0 => b5
 | 1 => b5 ++ (be vars.length 4 4 ++ vars.flatMap varB)
 | 2 => b5 ++ (be vars.length 4 4 ++ vars.flatMap varB) ++ (be fns.length 4 4 ++ fns.flatMap nfnB)
 | _ => b5 ++ (be vars.length 4 4 ++ vars.flatMap varB) ++ (be fns.length 4 4 ++ fns.flatMap nfnB) ++ (be rels.length 4 4 ++ rels.flatMap relB)
theorem idx3_0 (f0 f1 f2 : Value) (w : World) : (Instr.index 116 (.agg #[f0, f1, f2]) (.int .i64 0)).run Tryz.prog w = .ok f0 w := by kernel_rfl
theorem idx3_1 (f0 f1 f2 : Value) (w : World) : (Instr.index 116 (.agg #[f0, f1, f2]) (.int .i64 1)).run Tryz.prog w = .ok f1 w := by kernel_rfl
theorem idx3_2 (f0 f1 f2 : Value) (w : World) : (Instr.index 116 (.agg #[f0, f1, f2]) (.int .i64 2)).run Tryz.prog w = .ok f2 w := by kernel_rfl
theorem conv_mark (W : World) (g n c : Nat) (cur : Array Value) (hg : W.heap[g]? = some (.cells cur 5 (0, 0))) (hs : cur.size = n) :
  (convert 38 38 (.slice (some ⟨g, 0, none⟩) n c)).run Tryz.prog W = .ok (.slice (some ⟨g, 0, none⟩) n c) (W.freeze ⟨g, n, none⟩ 1) := by
 have hsh : W.shape? g = some (5, cur.size) := by unfold World.shape?; rw [hg]
 subst hs
 simp [convert, run_underlying Tryz.underlying38, run_underlying Tryz.underlying5, markStringish, hsh]
theorem freeze_at (W : World) (g n : Nat) (cur : Array Value) (hg : W.heap[g]? = some (.cells cur 5 (0, 0))) : (W.freeze ⟨g, n, none⟩ 1).heap[g]? = some (.cells cur 5 (n, n + 1)) := by
 unfold World.freeze
 simp [Array.getElem?_modify, hg]
theorem qEG (W : World) (a : Addr) (n : Nat) : (W.freeze a n).heap.size = W.heap.size := by unfold World.freeze; split <;> simp
theorem freeze_below {B : Nat} {a W : World} (h : Below B a W) (p : Addr) (n : Nat) (hp : B ≤ p.block) : Below B a (W.freeze p n) :=
 ⟨by have := h.os; unfold World.freeze; split <;> simpa using this, by have := h.tape; unfold World.freeze; split <;> simpa using this, by have := h.output; unfold World.freeze; split <;> simpa using this, by rw [qEG]; exact h.size, fun k hk => (qD7 W p n k (by omega)).trans (h.block k hk)⟩
theorem qBh.calls (a0_0 : ByteArray) (A0_1 : Option Addr) (c0_1 : Nat) (l0_1 : List (S85)) (A0_2 : Option Addr) (c0_2 : Nat) (l0_2 : List (S92)) (A0_3 : Option Addr) (c0_3 : Nat) (l0_3 : List (S104)) (r1 : List Int) (r2 : Int) (w : World) (hr0_1 : Kd.C k85 w A0_1 l0_1.length l0_1) (hc0_1 : l0_1.length ≤ c0_1) (hr0_2 : Kd.C k92 w A0_2 l0_2.length l0_2) (hc0_2 : l0_2.length ≤ c0_2) (hr0_3 : Kd.C k104 w A0_3 l0_3.length l0_3) (hc0_3 : l0_3.length ≤ c0_3) (h : qBh.f a0_0 l0_1 l0_2 l0_3 = some (r1, r2)) :
  Calls Tryz.prog 13 #[.agg #[.string a0_0, .slice A0_1 l0_1.length c0_1, .slice A0_2 l0_2.length c0_2, .slice A0_3 l0_3.length c0_3]] w fun e w' => ∃ v0_ : Value, e = .returned (.tuple #[v0_, .int .i64 r2]) ∧ Kd.R (Kd.int .u8) 5 w' w.heap.size (fun _ => True) v0_ r1 ∧ Below w.heap.size w w' := by
 unfold qBh.f at h
 split at h
 case isFalse => cases h
 rename_i hg
 obtain ⟨kr, hkr⟩ := (right_ev a0_0 l0_1 l0_2 l0_3 hg).rounds
 obtain ⟨n1, hn1⟩ : ∃ n, n = l0_1.length := ⟨_, rfl⟩
 obtain ⟨n2, hn2⟩ : ∃ n, n = l0_2.length := ⟨_, rfl⟩
 obtain ⟨n3, hn3⟩ : ∃ n, n = l0_3.length := ⟨_, rfl⟩
 obtain ⟨OV, hOV⟩ : ∃ OV : Array Value, OV = #[.string a0_0, .slice A0_1 n1 c0_1, .slice A0_2 n2 c0_2, .slice A0_3 n3 c0_3] := ⟨_, rfl⟩
 obtain ⟨WA, hWA⟩ : ∃ WA, WA = w.alloc (.cells OV 33) := ⟨_, rfl⟩
 have hBA : Below w.heap.size w WA := hWA ▸ (Below.refl _ _).alloc (Nat.le_refl _) _
 have hgA : w.heap.size < WA.heap.size := by rw [hWA]; simp
 have k0 : WA.cell? ⟨w.heap.size, 0, none⟩ = some (.string a0_0) := by rw [hWA, World.cell?_alloc_at _ _ _ _ rfl, hOV]; rfl
 have k1 : WA.cell? ⟨w.heap.size, 1, none⟩ = some (.slice A0_1 n1 c0_1) := by rw [hWA, World.cell?_alloc_at _ _ _ _ rfl, hOV]; rfl
 have k2 : WA.cell? ⟨w.heap.size, 2, none⟩ = some (.slice A0_2 n2 c0_2) := by rw [hWA, World.cell?_alloc_at _ _ _ _ rfl, hOV]; rfl
 have k3 : WA.cell? ⟨w.heap.size, 3, none⟩ = some (.slice A0_3 n3 c0_3) := by rw [hWA, World.cell?_alloc_at _ _ _ _ rfl, hOV]; rfl
 have HBX : qAj (∀ W, Below WA.heap.size WA W → W.cell? ⟨w.heap.size, 0, none⟩ = some (.string a0_0) ∧ W.cell? ⟨w.heap.size, 1, none⟩ = some (.slice A0_1 n1 c0_1) ∧ W.cell? ⟨w.heap.size, 2, none⟩ = some (.slice A0_2 n2 c0_2) ∧ W.cell? ⟨w.heap.size, 3, none⟩ = some (.slice A0_3 n3 c0_3)) := ⟨fun W hW =>
   ⟨(hW.cell (p := ⟨w.heap.size, 0, none⟩) hgA).trans k0, (hW.cell (p := ⟨w.heap.size, 1, none⟩) hgA).trans k1, (hW.cell (p := ⟨w.heap.size, 2, none⟩) hgA).trans k2, (hW.cell (p := ⟨w.heap.size, 3, none⟩) hgA).trans k3⟩⟩
 have HRT : qAj (Calls Tryz.prog 9 #[.agg #[.string a0_0, .slice A0_1 n1 c0_1, .slice A0_2 n2 c0_2, .slice A0_3 n3 c0_3]] WA fun e w' => e = .returned (.int .i64 (qCw a0_0 l0_1 l0_2 l0_3)) ∧ Below WA.heap.size WA w') :=
  ⟨by rw [hn1, hn2, hn3]; exact qA2.calls kr a0_0 A0_1 c0_1 l0_1 A0_2 c0_2 l0_2 A0_3 c0_3 l0_3 _ WA (Kd.C_below hr0_1 hBA) hc0_1 (Kd.C_below hr0_2 hBA) hc0_2 (Kd.C_below hr0_3 hBA) hc0_3 hkr⟩
 have HBA := am hBA
 have HC1 : qAj (Kd.C k85 WA A0_1 n1 l0_1) := ⟨hn1 ▸ Kd.C_below hr0_1 hBA⟩
 have HC2 : qAj (Kd.C k92 WA A0_2 n2 l0_2) := ⟨hn2 ▸ Kd.C_below hr0_2 hBA⟩
 have HC3 : qAj (Kd.C k104 WA A0_3 n3 l0_3) := ⟨hn3 ▸ Kd.C_below hr0_3 hBA⟩
 rw [← hn1, ← hn2, ← hn3]
 have HN1 := am hn1
 have HN2 := am hn2
 have HN3 := am hn3
 have HG := am hg
 obtain ⟨er, her⟩ : ∃ z, z = qCw a0_0 l0_1 l0_2 l0_3 := ⟨_, rfl⟩
 rw [← her] at HRT h
 have HER := am her
 rw [hOV] at hWA
 have HWA := am hWA
 clear hr0_1 hr0_2 hr0_3 hc0_1 hc0_2 hc0_3 hkr hBA k0 k1 k2 k3 hn1 hn2 hn3 hg her hWA hOV
 by_cases hz : er = 0
 case neg =>
  rw [if_pos hz] at h
  have h := Option.some.inj h
  obtain ⟨rfl, rfl⟩ : [] = r1 ∧ er = r2 := ⟨congrArg Prod.fst h, congrArg Prod.snd h⟩
  have hz' : (er != 0) = true := bne_iff_ne.mpr hz
  clear h hz
  go_enter Tryz.func13, Tryz.ntmps13
  go_wp2_with fail
  rw [← HWA.out]
  go_wp2_with fail
  refine HRT.out.mono ?_
  rintro e w1 ⟨rfl, hb⟩
  have HB1 := am hb
  clear hb
  go_wp2
  go_ret2
  exact ⟨_, rfl, Kd.R_nil _ _ _ _ _, qAE HBA.out HBA.out.size HB1.out⟩
 rw [if_neg (fun hh => hh hz)] at h
 have HRO := am (qE6.of (m := a0_0) (vars := l0_1) (fns := l0_2) (rels := l0_3) (HER.out.symm.trans hz))
 have HH := am h
 subst hz
 clear h
 go_enter Tryz.func13, Tryz.ntmps13
 go_wp2_with fail
 rw [← HWA.out]
 go_wp2_with fail
 refine HRT.out.mono ?_
 rintro e w1 ⟨rfl, hb⟩
 have HB1 := am hb
 clear hb
 obtain ⟨WM, hWM⟩ : ∃ WM, WM = (w1.alloc (.cells #[.slice none 0 0] 110)).alloc (.cells #[.int .u8 102, .int .u8 111, .int .u8 98, .int .u8 106] 5) := ⟨_, rfl⟩
 have hsM : WM.heap.size = w1.heap.size + 2 := by rw [hWM]; simp
 have hlM : WM.heap[w1.heap.size + 1]? = some (.cells #[.int .u8 102, .int .u8 111, .int .u8 98, .int .u8 106] 5 (0, 0)) := by
  rw [hWM]; simpa using heap_alloc_new (w1.alloc (.cells #[.slice none 0 0] 110)) (.cells #[.int .u8 102, .int .u8 111, .int .u8 98, .int .u8 106] 5)
 have hpM : WM.heap[w1.heap.size]? = some (.cells #[.slice none 0 0] 110 (0, 0)) := by
  rw [hWM]; exact qAe (heap_alloc_new w1 _) _
 have hcv := conv_mark WM (w1.heap.size + 1) 4 4 _ hlM rfl
 obtain ⟨WF, hWF⟩ : ∃ WF, WF = WM.freeze ⟨w1.heap.size + 1, 4, none⟩ 1 := ⟨_, rfl⟩
 have hsF : WF.heap.size = w1.heap.size + 2 := by rw [hWF, qEG]; exact hsM
 have hlF : WF.heap[w1.heap.size + 1]? = some (.cells #[.int .u8 102, .int .u8 111, .int .u8 98, .int .u8 106] 5 (4, 5)) := hWF ▸ freeze_at WM _ 4 _ hlM
 have hpF : WF.heap[w1.heap.size]? = some (.cells #[.slice none 0 0] 110 (0, 0)) := by
  rw [hWF, qD7 _ _ _ _ (by show w1.heap.size ≠ w1.heap.size + 1; omega)]; exact hpM
 have hBF : Below WA.heap.size WA WF := by
  rw [hWF, hWM]
  exact freeze_below ((HB1.out.alloc HB1.out.size _).alloc (by have := HB1.out.size; simp; omega) _) _ _ (by have := HB1.out.size; show WA.heap.size ≤ w1.heap.size + 1; omega)
 have HKF : qAj (WK WA w1.heap.size WF (.slice none 0 0) []) := ⟨⟨⟨(qAa hpF 0).trans rfl, qAc hpF 0, World.ownsRow_nil _ _ _ _, fun k hk => by cases hk⟩, hBF, HB1.out.size, fun k hk => by cases hk⟩⟩
 have HLF : qAj (∀ W' v', qBb w1.heap.size WF (.slice none 0 0) W' v' → W'.cell? ⟨w1.heap.size + 1, 0, none⟩ = some (.int .u8 102) ∧ W'.cell? ⟨w1.heap.size + 1, 1, none⟩ = some (.int .u8 111) ∧ W'.cell? ⟨w1.heap.size + 1, 2, none⟩ = some (.int .u8 98) ∧ W'.cell? ⟨w1.heap.size + 1, 3, none⟩ = some (.int .u8 106)) := ⟨fun W' v' hs => by
   have g : ∀ i, W'.cell? ⟨w1.heap.size + 1, i, none⟩ = WF.cell? ⟨w1.heap.size + 1, i, none⟩ := fun i => hs.cell (a := ⟨w1.heap.size + 1, i, none⟩) (by rw [hsF]; exact Nat.lt_succ_self _) (Nat.succ_ne_self _) (by simp [Value.ownBlock])
   exact ⟨by rw [g 0]; simp [World.cell?, hlF], by rw [g 1]; simp [World.cell?, hlF], by rw [g 2]; simp [World.cell?, hlF], by rw [g 3]; simp [World.cell?, hlF]⟩⟩
 have HWM := am hWM
 have HWF := am hWF
 rw [← hWF, hWM] at hcv
 clear hsM hlM hpM hWF hsF hlF hpF hBF hWM HRT
 go_wp2_with fail
 go_loopg [7, 21] 4 (fun gg _ s21 wr => ∃ (kk : Nat) (v' : Value), kk ≤ 4 ∧ 4 - kk ≤ gg ∧ s21 = .int .i64 kk ∧ qAj (WK WA w1.heap.size wr v' (([102, 111, 98, 106] : List Int).take kk)) ∧ qAj (qBb w1.heap.size WF (.slice none 0 0) wr v'))
 case atStart => exact ⟨0, .slice none 0 0, by omega, by omega, rfl, HKF, ⟨qBb.refl _ _ _⟩⟩
 case round =>
  clear hcv
  obtain ⟨kk, v', hkk, hg, rfl, HK, HS⟩ := hrel
  have hcase : kk = 0 ∨ kk = 1 ∨ kk = 2 ∨ kk = 3 ∨ kk = 4 := by omega
  rcases hcase with rfl | rfl | rfl | rfl | rfl
  ·obtain ⟨z0, z1, z2, z3⟩ := HLF.out wr v' HS.out
   go_wp2_with fail
   refine (qBN w1.heap.size 102 v' _ wr HK.out.st (by simp)).mono ?_
   rintro e w2 ⟨v2, rfl, hst, hs⟩
   have HK2 : qAj (WK WA w1.heap.size w2 v2 (([102, 111, 98, 106] : List Int).take 1)) := ⟨HK.out.step hst hs⟩
   have HS2 := am (HS.out.trans hs)
   clear hst hs z0 z1 z2 z3
   go_wp2
   go_roundg (4 - 1)
   case measure => omega
   case rel => exact ⟨1, v2, by omega, by omega, rfl, HK2, HS2⟩
  ·obtain ⟨z0, z1, z2, z3⟩ := HLF.out wr v' HS.out
   go_wp2_with fail
   refine (qBN w1.heap.size 111 v' _ wr HK.out.st (by simp)).mono ?_
   rintro e w2 ⟨v2, rfl, hst, hs⟩
   have HK2 : qAj (WK WA w1.heap.size w2 v2 (([102, 111, 98, 106] : List Int).take 2)) := ⟨HK.out.step hst hs⟩
   have HS2 := am (HS.out.trans hs)
   clear hst hs z0 z1 z2 z3
   go_wp2
   go_roundg (4 - 2)
   case measure => omega
   case rel => exact ⟨2, v2, by omega, by omega, rfl, HK2, HS2⟩
  ·obtain ⟨z0, z1, z2, z3⟩ := HLF.out wr v' HS.out
   go_wp2_with fail
   refine (qBN w1.heap.size 98 v' _ wr HK.out.st (by simp)).mono ?_
   rintro e w2 ⟨v2, rfl, hst, hs⟩
   have HK2 : qAj (WK WA w1.heap.size w2 v2 (([102, 111, 98, 106] : List Int).take 3)) := ⟨HK.out.step hst hs⟩
   have HS2 := am (HS.out.trans hs)
   clear hst hs z0 z1 z2 z3
   go_wp2
   go_roundg (4 - 3)
   case measure => omega
   case rel => exact ⟨3, v2, by omega, by omega, rfl, HK2, HS2⟩
  ·obtain ⟨z0, z1, z2, z3⟩ := HLF.out wr v' HS.out
   go_wp2_with fail
   refine (qBN w1.heap.size 106 v' _ wr HK.out.st (by simp)).mono ?_
   rintro e w2 ⟨v2, rfl, hst, hs⟩
   have HK2 : qAj (WK WA w1.heap.size w2 v2 (([102, 111, 98, 106] : List Int).take 4)) := ⟨HK.out.step hst hs⟩
   have HS2 := am (HS.out.trans hs)
   clear hst hs z0 z1 z2 z3
   go_wp2
   go_roundg (4 - 4)
   case measure => omega
   case rel => exact ⟨4, v2, by omega, by omega, rfl, HK2, HS2⟩
  have HK4 : qAj (WK WA w1.heap.size wr v' [102, 111, 98, 106]) := ⟨HK.out⟩
  clear HK HS HKF HLF hg hkk
  obtain ⟨q0, q1, q2, q3⟩ := HBX.out wr HK4.out.below
  have hmS : a0_0.size ≤ 32 := Names.size_le_of_ok HRO.out.m
  go_wp2_with fail
  refine (qDP w1.heap.size a0_0 v' _ wr HK4.out.st (by simp) (by omega)).mono ?_
  rintro e w5 ⟨v5, rfl, hst, hs⟩
  have HK5 := am (HK4.out.step hst hs)
  obtain ⟨b5, hb5⟩ : ∃ b : List Int, b = [102, 111, 98, 106] ++ rawB (qCg a0_0) := ⟨_, rfl⟩
  rw [← hb5] at HK5
  have HB5 := am hb5
  have HL5 : qAj (b5.length ≤ 40) := ⟨by rw [hb5, List.length_append, qCo]; simp; omega⟩
  clear hst hs q0 q1 q2 q3 hb5 HK4
  have HV : qAj (∀ x ∈ l0_1, qB9 x.f0 ∧ 0 ≤ x.f1.f1 ∧ x.f1.f1 < 18446744073709551616) := ⟨fun x hx => ⟨Names.size_le_of_ok (HRO.out.v x hx).1, (HG.out.v x hx).2⟩⟩
  have HF : qAj (∀ x ∈ l0_2, qB9 x.f0 ∧ okFnS x) := ⟨fun x hx => ⟨Names.size_le_of_ok (HRO.out.f x hx).1, by
    obtain ⟨g1, g2, g3, g4⟩ := qE0 (HRO.out.f x hx).2
    exact ⟨g1, g2, g3, g4, (HG.out.f x hx).2.2.2.2⟩⟩⟩
  have HRL : qAj (∀ x ∈ l0_3, qB9 x.f3 ∧ qB9 x.f4 ∧ 0 ≤ x.f0 ∧ x.f0 ≤ 9223372036854775807 ∧ 0 ≤ x.f1 ∧ x.f1 ≤ 9223372036854775807) := ⟨fun x hx => by
    obtain ⟨g0, g1, g2, g3⟩ := HRO.out.at_ x hx
    exact ⟨Names.size_le_of_ok (HRO.out.r x hx).1, Names.size_le_of_ok (HRO.out.r x hx).2, g0, by omega, g2, by omega⟩⟩
  have HNV : qAj (l0_1.length ≤ 64 ∧ l0_2.length ≤ 64 ∧ l0_3.length ≤ 262144) := ⟨by have := HRO.out.n; omega, by have := HRO.out.n; omega, HRO.out.rels⟩
  have HLV : qAj ((be l0_1.length 4 4 ++ l0_1.flatMap varB).length ≤ 2884) := ⟨by
    have h1 := qDr varB l0_1 45 fun y hy => varB_len y (HV.out y hy).1
    have := HNV.out.1
    rw [List.length_append, qAX]; omega⟩
  have HLF2 : qAj ((be l0_2.length 4 4 ++ l0_2.flatMap nfnB).length ≤ 2630404) := ⟨by
    have h1 := qDr nfnB l0_2 41100 fun y hy => nfnB_len y (HF.out y hy).1 (HF.out y hy).2
    have := HNV.out.2.1
    rw [List.length_append, qAX]; omega⟩
  have HLR : qAj ((be l0_3.length 4 4 ++ l0_3.flatMap relB).length ≤ 20185092) := ⟨by
    have h1 := qDr relB l0_3 77 fun y hy => relB_len y (HRL.out y hy).1 (HRL.out y hy).2.1
    have := HNV.out.2.2
    rw [List.length_append, qAX]; omega⟩
  go_wp2_with fail
  go_loopg [10, 42] 3 (fun gg _ s42 wr => ∃ (kk : Nat) (v' : Value), kk ≤ 3 ∧ 3 - kk ≤ gg ∧ s42 = .int .i64 kk ∧ qAj (WK WA w1.heap.size wr v' (accP b5 l0_1 l0_2 l0_3 kk)))
  case atStart => exact ⟨0, v5, by omega, by omega, rfl, ⟨HK5.out.alloc _⟩⟩
  case round =>
   clear HK5
   obtain ⟨kk, v', hkk, hg, rfl, HK⟩ := hrel
   have hcase : kk = 0 ∨ kk = 1 ∨ kk = 2 ∨ kk = 3 := by omega
   rcases hcase with rfl | rfl | rfl | rfl
   ·have hix := idx3_0 (.func (.func 44) #[.agg #[.pointer (some ⟨w1.heap.size, 0, none⟩)]] #[]) (.func (.func 45) #[.agg #[.pointer (some ⟨w1.heap.size, 0, none⟩)]] #[]) (.func (.func 46) #[.agg #[.pointer (some ⟨w1.heap.size, 0, none⟩)]] #[]) wr
    replace HK : qAj (WK WA w1.heap.size wr v' (b5)) := HK
    obtain ⟨q0, q1, q2, q3⟩ := HBX.out wr HK.out.below
    go_wp2_with fail
    refine (vars_any w1.heap.size a0_0 A0_1 n1 c0_1 A0_2 n2 c0_2 A0_3 n3 c0_3 l0_1 v' _ WA wr HK.out HN1.out.symm HC1.out HNV.out.1 HV.out (by have := HL5.out; omega)).mono ?_
    rintro e w2 ⟨v2, rfl, hst, hs⟩
    have HK2 : qAj (WK WA w1.heap.size w2 v2 (accP b5 l0_1 l0_2 l0_3 1)) := ⟨HK.out.step hst hs⟩
    clear hst hs q0 q1 q2 q3
    go_wp2
    go_roundg (3 - 1)
    case measure => omega
    case rel => exact ⟨1, v2, by omega, by omega, rfl, HK2⟩
   ·have hix := idx3_1 (.func (.func 44) #[.agg #[.pointer (some ⟨w1.heap.size, 0, none⟩)]] #[]) (.func (.func 45) #[.agg #[.pointer (some ⟨w1.heap.size, 0, none⟩)]] #[]) (.func (.func 46) #[.agg #[.pointer (some ⟨w1.heap.size, 0, none⟩)]] #[]) wr
    replace HK : qAj (WK WA w1.heap.size wr v' (b5 ++ (be l0_1.length 4 4 ++ l0_1.flatMap varB))) := HK
    obtain ⟨q0, q1, q2, q3⟩ := HBX.out wr HK.out.below
    go_wp2_with fail
    refine (fns_any w1.heap.size a0_0 A0_1 n1 c0_1 A0_2 n2 c0_2 A0_3 n3 c0_3 l0_2 v' _ WA wr HK.out HN2.out.symm HC2.out HNV.out.2.1 HF.out (by have := HL5.out; have := HLV.out; rw [List.length_append]; omega)).mono ?_
    rintro e w2 ⟨v2, rfl, hst, hs⟩
    have HK2 : qAj (WK WA w1.heap.size w2 v2 (accP b5 l0_1 l0_2 l0_3 2)) := ⟨HK.out.step hst hs⟩
    clear hst hs q0 q1 q2 q3
    go_wp2
    go_roundg (3 - 2)
    case measure => omega
    case rel => exact ⟨2, v2, by omega, by omega, rfl, HK2⟩
   ·have hix := idx3_2 (.func (.func 44) #[.agg #[.pointer (some ⟨w1.heap.size, 0, none⟩)]] #[]) (.func (.func 45) #[.agg #[.pointer (some ⟨w1.heap.size, 0, none⟩)]] #[]) (.func (.func 46) #[.agg #[.pointer (some ⟨w1.heap.size, 0, none⟩)]] #[]) wr
    replace HK : qAj (WK WA w1.heap.size wr v' (b5 ++ (be l0_1.length 4 4 ++ l0_1.flatMap varB) ++ (be l0_2.length 4 4 ++ l0_2.flatMap nfnB))) := HK
    obtain ⟨q0, q1, q2, q3⟩ := HBX.out wr HK.out.below
    go_wp2_with fail
    refine (rels_any w1.heap.size a0_0 A0_1 n1 c0_1 A0_2 n2 c0_2 A0_3 n3 c0_3 l0_3 v' _ WA wr HK.out HN3.out.symm HC3.out HNV.out.2.2 HRL.out (by have := HL5.out; have := HLV.out; have := HLF2.out; rw [List.length_append, List.length_append]; omega)).mono ?_
    rintro e w2 ⟨v2, rfl, hst, hs⟩
    have HK2 : qAj (WK WA w1.heap.size w2 v2 (accP b5 l0_1 l0_2 l0_3 3)) := ⟨HK.out.step hst hs⟩
    clear hst hs q0 q1 q2 q3
    go_wp2
    go_roundg (3 - 3)
    case measure => omega
    case rel => exact ⟨3, v2, by omega, by omega, rfl, HK2⟩
   have HP : qAj (WK WA w1.heap.size wr v' (qDl a0_0 l0_1 l0_2 l0_3)) := ⟨by
     have e : qDl a0_0 l0_1 l0_2 l0_3 = accP b5 l0_1 l0_2 l0_3 3 := by
       show _ = b5 ++ (be l0_1.length 4 4 ++ l0_1.flatMap varB) ++ (be l0_2.length 4 4 ++ l0_2.flatMap nfnB) ++ (be l0_3.length 4 4 ++ l0_3.flatMap relB)
       rw [HB5.out]; unfold qDl; simp only [List.append_assoc]
     rw [e]; exact HK.out⟩
   have HPL : qAj ((qDl a0_0 l0_1 l0_2 l0_3).length ≤ 30000000) := ⟨by
     have e : qDl a0_0 l0_1 l0_2 l0_3 = b5 ++ (be l0_1.length 4 4 ++ l0_1.flatMap varB) ++ (be l0_2.length 4 4 ++ l0_2.flatMap nfnB) ++ (be l0_3.length 4 4 ++ l0_3.flatMap relB) := by
       rw [HB5.out]; unfold qDl; simp only [List.append_assoc]
     have := HL5.out; have := HLV.out; have := HLF2.out; have := HLR.out
     rw [e, List.length_append, List.length_append, List.length_append]; omega⟩
   clear HK hg hkk
   obtain ⟨pb, hpb⟩ : ∃ pb, pb = qDl a0_0 l0_1 l0_2 l0_3 := ⟨_, rfl⟩
   rw [← hpb] at HP HPL HH
   clear hpb
   go_wp2_with fail
   refine (len_any w1.heap.size v' _ wr HP.out.st).mono ?_
   rintro e w6 ⟨rfl, rfl⟩
   by_cases hbig : 16384 < pb.length
   ·have hbig' : decide (16384 < (pb.length : Int)) = true := decide_eq_true (by omega)
    have H2 := HH.out
    rw [if_pos hbig] at H2
    have H2 := Option.some.inj H2
    obtain ⟨rfl, rfl⟩ : [] = r1 ∧ 3 = r2 := ⟨congrArg Prod.fst H2, congrArg Prod.snd H2⟩
    clear H2 HH
    go_wp2
    go_ret2
    exact ⟨_, rfl, Kd.R_nil _ _ _ _ _, qAE HBA.out HBA.out.size HP.out.below⟩
   have hbig' : decide (16384 < (pb.length : Int)) = false := decide_eq_false (by omega)
   have H2 := HH.out
   rw [if_neg hbig] at H2
   have H2 := Option.some.inj H2
   obtain ⟨rfl, rfl⟩ : pb = r1 ∧ 0 = r2 := ⟨congrArg Prod.fst H2, congrArg Prod.snd H2⟩
   clear H2 HH
   go_wp2_with fail
   refine (bytes_any w1.heap.size v' _ wr HP.out.st (by have := HPL.out; omega)).mono ?_
   rintro e w7 ⟨x, rfl, hown, hb⟩
   have HOW := am hown
   have HB7 := am hb
   clear hown hb
   go_wp2
   go_ret2
   exact ⟨x, rfl, Kd.R_lower (Kd.R_of_own HOW.out (fun _ _ => trivial)) (Nat.le_trans HBA.out.size HP.out.below.size), qAE HBA.out HBA.out.size (qAE HP.out.below HP.out.below.size HB7.out)⟩
end Q
end
section
namespace Q
open Go.RowKit PA PC PB
theorem RdB.of_R {W : World} {b0 g base : Nat} {bs : List Int} {v : Value} (h : Kd.R (Kd.int .u8) 5 W base (fun _ => True) v bs) (h0 : b0 ≤ base) (hg : W.heap.size ≤ g) : RdB W b0 g bs v := by
 rcases Nat.eq_zero_or_pos bs.length with hz | hp
 ·obtain ⟨A, c, hv⟩ := Kd.R_slice h
  exact .inl ⟨List.length_eq_zero_iff.1 hz, A, c, by rw [hv, hz]⟩
 obtain ⟨A, c, hv, hcl, hC⟩ := Kd.R_reads h
 obtain ⟨inner, hown⟩ := Kd.R_own h
 rcases hown.2 with ⟨hv2, _⟩ | ⟨gb, cap, cur, hv2, hb, hcur, _⟩
 ·rw [hv] at hv2; injection hv2 with _ h2 _; omega
 rw [hv] at hv2; injection hv2 with h1 _ h3; subst h1; subst h3
 refine .inr ⟨gb, 0, c, cur, by omega, Nat.lt_of_lt_of_le (qAM hcur) hg, hv, hp, hcl, hcur, fun j y hj => ?_⟩
 obtain ⟨ad, had, hcell⟩ := hC.2.2 hp
 cases had
 obtain ⟨cs, _, hK, hcc⟩ := hcell j y hj
 obtain rfl : cs = [Value.int .u8 y] := hK
 have h2 := hcc 0 _ rfl
 rw [show j * (Kd.int .u8).sz + 0 = j from Nat.mul_one j, qC7] at h2
 rw [Nat.zero_add, ← qAa hcur]; exact h2
def qCy.f (l0 : List Int) : Option (List Int × Int × Int) := if l0.length ≤ 4294967296 then some (l0, 0, 0) else none
theorem qCy.calls (A0 : Option Addr) (c0 : Nat) (l0 : List Int) (r1 : List Int) (r2 : Int) (r3 : Int) (w0 w : World) (hB : Below w0.heap.size w0 w) (hr0 : Kd.C (Kd.int .u8) w0 A0 l0.length l0) (hc0 : l0.length ≤ c0) (h : qCy.f l0 = some (r1, r2, r3)) :
  Calls Tryz.prog 55 #[.slice A0 l0.length c0] w fun e w' => ∃ g_ : Nat, e = .returned (.pointer (some ⟨g_, 0, none⟩)) ∧ qAo w0 w' g_ r1 r2 r3 ∧ Below w0.heap.size w0 w' ∧ Below w.heap.size w w' := by
 unfold qCy.f at h
 split at h
 case isFalse => cases h
 rename_i hl
 simp only [Option.some.injEq, Prod.mk.injEq] at h
 obtain ⟨rfl, rfl, rfl⟩ := h
 have HB := am hB
 have HCL := am (qBi.calls A0 c0 l0 l0 w (Kd.C_below hr0 hB) hc0 (by unfold qBi.f; rw [if_pos hl]))
 have HL := am hl
 clear hB hr0 hc0 hl
 go_enter Tryz.func55, Tryz.ntmps55
 go_wp2_with (go_at_call 116; refine HCL.out.mono ?_; rintro e w1 ⟨v, rfl, hR, hb⟩; obtain ⟨A1, c1, ev⟩ := Kd.R_slice hR; subst ev; have HR := am hR; have HB1 := am hb; clear hR hb)
 go_ret
 refine ⟨w1.heap.size, rfl, ⟨Nat.le_trans HB.out.size HB1.out.size, Int.le_refl 0, by omega, by have := HL.out; omega, .slice A1 l0.length c1, by simpa using heap_alloc_new w1 (.cells #[.slice A1 l0.length c1, .int .i64 0] 182), ?_⟩, ?_, ?_⟩
 ·exact (RdB.of_R HR.out HB.out.size (Nat.le_refl _)).move fun gb cells hc => (qAi (Below.refl _ _) _).block gb (qAM hc)
 ·exact qAi (qAE HB.out HB.out.size HB1.out) _
 ·exact qAi HB1.out _
end Q
end
section
namespace Q
open Go.RowKit PA PC PB
attribute [local go_sem] qAU min2_int qBd min_two max_three min_three max_four min_four
def qA8.l0 : Nat → List Int → Int → Int → List Int → Int → Int → Option (List Int × Int × Int)
 | 0, _, _, _, _, _, _ => none
 | k + 1, x3, x6, x7, aR, aT, aU => if x7 < x6 then ((qAu.f aR aT aU).bind fun aJ => (if x3.length < 17592186044416 then (qA8.l0 k (x3 ++ [wrap64 (aJ.1)]) x6 (wrap64 (x7 + 1)) aR aJ.2.1 aJ.2.2) else (none))) else (some (x3, aT, aU))
def qA8.f (k : Nat) (s0_0 : List Int) (s0_1 : Int) (s0_2 : Int) : Option (List Int × Int × Int) := (qAu.f s0_0 s0_1 s0_2).bind fun aC => (qA8.l0 k ([] : List Int) (wrap64 (aC.1)) 0 s0_0 aC.2.1 aC.2.2)
theorem qA8.calls (k : Nat) (g : Nat) (s0_0 : List Int) (s0_1 : Int) (s0_2 : Int) (r1 : List Int) (r2 : Int) (r3 : Int) (w0 w : World) (hI : qAo w0 w g s0_0 s0_1 s0_2) (hB : Below w0.heap.size w0 w) (h : qA8.f k s0_0 s0_1 s0_2 = some (r1, r2, r3)) :
  Calls Tryz.prog 129 #[.pointer (some ⟨g, 0, none⟩)] w fun e w' => ∃ v0_ : Value, e = .returned (v0_) ∧ Kd.R (Kd.int .i64) 3 w' w.heap.size (fun _ => True) v0_ r1 ∧ qAo w0 w' g s0_0 r2 r3 ∧ Below w0.heap.size w0 w' ∧ qAn w w' g none := by
 have aI := am hI
 have HK := am (qAn.refl w g none)
 have HL := am hB.size
 clear hI
 have HB := am hB
 clear hB
 have H : ((qAu.f s0_0 s0_1 s0_2).bind fun aC => (qA8.l0 k ([] : List Int) (wrap64 (aC.1)) 0 s0_0 aC.2.1 aC.2.2)) = some (r1, r2, r3) := h
 clear h
 replace H := bm H
 obtain ⟨⟨aG, aV, aW⟩, a5, H⟩ := H
 replace H : (qA8.l0 k ([] : List Int) (wrap64 (aG)) 0 s0_0 aV aW) = some (r1, r2, r3) := H
 have A2 := am a5
 clear a5
 have H' := am H
 clear H
 go_enter Tryz.func129, Tryz.ntmps129
 go_wp2_with ((with_reducible refine qAv (f := 56) rfl ?_); refine gL 5 Tryz.func56 #[.pointer (some ⟨g, 0, none⟩)] ?_; (with_reducible refine (qAu.calls g s0_0 s0_1 s0_2 aG aV aW w0 _ ?side1 ?side2 A2.o).mono ?_); (case side1 => exact aI.o); (case side2 => exact HB.o); rintro e w3 ⟨rfl, hi, hb, hk⟩; refine ⟨_, rfl, ?_⟩; have n_ := a2 (qAn.trans HK.o hk (.inl rfl)) (a2 (hb) (am (hi))); clear HK HB aI; obtain ⟨HK, HB, aI⟩ := n_)
 go_loopg [3, 7] k (fun kq v3 v7 w' => ∃ (aH : List Int) (aD : Int) (aA : Int) (aB : Int), v7 = .int .i64 aD ∧ qAj (qA8.l0 kq aH (wrap64 (aG)) aD s0_0 aA aB = some (r1, r2, r3)) ∧ qAj (kq ≤ k) ∧ qAj (Kd.R (Kd.int .i64) 3 w' w.heap.size (fun _ => True) v3 aH) ∧ qAj (qAo w0 w' g s0_0 aA aB) ∧ qAj (qAn w w' g none) ∧ qAj (Below w0.heap.size w0 w'))
 case atStart => exact ⟨([] : List Int), (0), (aV), (aW), (by rfl), H', ⟨Nat.le_refl _⟩, ⟨by (exact Kd.R_nil _ _ _ _ _)⟩, ⟨by exact aI.o⟩, ⟨by exact HK.o⟩, ⟨by exact HB.o⟩⟩
 case round =>
  clear H'
  obtain ⟨aH, aD, aA, aB, rfl, HA, a7, aE, aI, HK, HB⟩ := hrel
  cases gk with
  | zero => exact absurd HA.o (by simp [qA8.l0])
  | succ k1 =>
   have H := HA.o
   clear HA
   simp only [qA8.l0] at H
   by_cases c4 : aD < (wrap64 (aG))
   rotate_left
   ·rw [if_neg c4] at H
    replace c4 := d0 c4
    simp only [Option.some.injEq, Prod.mk.injEq] at H
    obtain ⟨rfl, rfl, rfl⟩ := H
    go_wp2
    go_ret
    exact ⟨_, by rfl, by exact aE.o, by exact aI.o, by exact HB.o, by exact HK.o⟩
   rw [if_pos c4] at H
   replace c4 := d1 c4
   replace H := bm H
   obtain ⟨⟨aM, aN, aQ⟩, a6, H⟩ := H
   replace H : (if aH.length < 17592186044416 then (qA8.l0 k1 (aH ++ [wrap64 (aM)]) (wrap64 (aG)) (wrap64 (aD + 1)) s0_0 aN aQ) else (none)) = some (r1, r2, r3) := H
   have A5 := am a6
   clear a6
   obtain ⟨c6, H⟩ := gd H
   have a3 := am c6
   clear c6
   obtain ⟨aZ, aK⟩ : ∃ y_ : List Int, y_ = (aH ++ [wrap64 (aM)]) := ⟨_, rfl⟩
   replace H : (qA8.l0 k1 aZ (wrap64 (aG)) (wrap64 (aD + 1)) s0_0 aN aQ) = some (r1, r2, r3) := by (rw [aK]; with_reducible exact H)
   have aY := am aK
   clear aK
   have H' := am H
   clear H
   go_wp2_with (first | ((with_reducible refine qAv (f := 56) rfl ?_); refine gL 11 Tryz.func56 #[.pointer (some ⟨g, 0, none⟩)] ?_; (with_reducible refine (qAu.calls g s0_0 aA aB aM aN aQ w0 _ ?side1 ?side2 A5.o).mono ?_); (case side1 => exact aI.o); (case side2 => exact HB.o); rintro e w7 ⟨rfl, hi, hb, hk⟩; refine ⟨_, rfl, ?_⟩; have n_ := a2 (Kd.R_kp (qAo.apart (show qAo w0 _ g s0_0 aA aB from aI.o) aE.o (by decide)) hk) (a2 (qAn.trans HK.o hk (.inl rfl)) (a2 (hb) (am (hi)))); clear aE HK HB aI; obtain ⟨aE, HK, HB, aI⟩ := n_) | ((with_reducible refine qBE (b := .append) (xs := #[.tmp 9, .tmp 13]) rfl ?_); at_builtin; refine Kd.R_append (Kd.int .i64) w.heap.size rfl (.tmp 9) (.tmp 13) 57 3 (.int .i64 0) 8 rfl Tryz.underlying57 info3 rfl (by decide) (by omega) u3 aH (wrap64 (aM)) [.int .i64 (wrap64 (aM))] (fun _ => True) (fun _ => False) rfl rfl ?aP (fun _ hk => hk.elim) ?aF ?aO (Below.refl _ _) ?aS ?aL ?_; (case aP => exact rfl); (case aF => exact (fun _ _ => trivial)); (case aO => exact aE.o); (case aS => exact (qBz (w := w) (g := g) (row := none) HK.o)); (case aL => have := a3.o; omega); intro a9 w8 ho hb hg a8; rw [← aY.o] at ho; have n_ := a2 (qAo.grownR (show qAo w0 _ g s0_0 aN aQ from aI.o) hg aI.o aE.o (by decide) (fun b_ t_ h_ => h_)) (a2 (below_weaken HB.o HL.o hb) (a2 (qAn.trans HK.o (qAn.of_grown hg g) (Kd.R_base2 aE.o)) (am (ho)))); clear aI HB HK aE; obtain ⟨aI, HB, HK, aX⟩ := n_; clear ho hb hg a8))
   go_roundg k1
   case measure => have := a7.o; omega
   case rel => exact ⟨(aZ), (wrap64 (aD + 1)), (aN), (aQ), (by rfl), H', ⟨by have := a7.o; omega⟩, ⟨by exact aX.o⟩, ⟨by exact aI.o⟩, ⟨by exact HK.o⟩, ⟨by exact HB.o⟩⟩
end Q
end
end Go.Proofs.YtfjpnjbinbhcfaaGreat
