/- The program's object.Right of any object and the document's tell the same, where what is read is of bulk at most 1048576: Rows.ObjectRightsUptoSaid. Part 10 of 10. -/
import Derived.Test.YtfjpnjbinbhcfaaGreatT8
import Derived.Test.YtfjpnjbinbhcfaaGreatT9
import Derived.Test.YtfjpnjbinbhcfaaGreatRows
import Derived.WalkKit
import Derived.ProofKit
import Derived.OpenShut
import Derived.JoinedCond
import Derived.Below
set_option maxHeartbeats 8000000
set_option maxRecDepth 100000
set_option linter.unusedVariables false
set_option linter.unusedSimpArgs false
namespace Go.Proofs.YtfjpnjbinbhcfaaGreat
section
namespace Q
open Go.RowKit PA PC PB
attribute [local go_sem] qAU min2_int qBd min_two max_three min_three max_four min_four
mutual
def qAr.l0 : Nat → Int → ByteArray → List (S95) → List (S100) → List (S103) → ByteArray → List (S85) → Option (ByteArray × (List (S85)) × (List (S92)) × (List (S104)))
 | 0, _, _, _, _, _, _, _ => none
 | k + 1, x4, al, a7, aY, aZ, ad, aa => if x4 < (a7.length : Int) then (if 0 ≤ x4 then (if aa.length < 4398046511104 then (qAr.l0 k (wrap64 (x4 + 1)) al a7 aY aZ ad (aa ++ [(⟨(qBu a7 x4).f0, (⟨(qBu a7 x4).f1.f0, (qBu a7 x4).f1.f1⟩ : S83)⟩ : S85)])) else (none)) else (none)) else (qAr.l1 k 0 al a7 aY aZ ad aa ([] : List (S92)))
def qAr.l1 : Nat → Int → ByteArray → List (S95) → List (S100) → List (S103) → ByteArray → List (S85) → List (S92) → Option (ByteArray × (List (S85)) × (List (S92)) × (List (S104)))
 | 0, _, _, _, _, _, _, _, _ => none
 | k + 1, x5, al, a7, aY, aZ, ad, aa, aw => if x5 < (aY.length : Int) then (if 0 ≤ x5 then ((qAy.f k ((qA3 aY x5).f1.f0.f0) ((qA3 aY x5).f1.f0.f1) ((qA3 aY x5).f1.f1) ((qA3 aY x5).f1.f2)).bind fun b3 => (if aw.length < 1466015503701 then (qAr.l1 k (wrap64 (x5 + 1)) al a7 aY aZ ad aa (aw ++ [(⟨(qA3 aY x5).f0, (⟨(⟨b3.1, b3.2.1⟩ : S69), b3.2.2.1, b3.2.2.2⟩ : S90)⟩ : S92)])) else (none))) else (none)) else (qAr.l2 k 0 al a7 aY aZ ad aa aw ([] : List (S104)))
def qAr.l2 : Nat → Int → ByteArray → List (S95) → List (S100) → List (S103) → ByteArray → List (S85) → List (S92) → List (S104) → Option (ByteArray × (List (S85)) × (List (S92)) × (List (S104)))
 | 0, _, _, _, _, _, _, _, _, _ => none
 | k + 1, x6, al, a7, aY, aZ, ad, aa, aw, bM => if x6 < (aZ.length : Int) then (if 0 ≤ x6 then (if bM.length < 2513169434916 then (qAr.l2 k (wrap64 (x6 + 1)) al a7 aY aZ ad aa aw (bM ++ [(⟨(qAw aZ x6).f0, (qAw aZ x6).f1, (qAw aZ x6).f2, (qAw aZ x6).f3, (qAw aZ x6).f4⟩ : S104)])) else (none)) else (none)) else (some (ad, aa, aw, bM))
end
def qAr.f (k : Nat) (a0_0 : ByteArray) (l0_1 : List (S95)) (l0_2 : List (S100)) (l0_3 : List (S103)) : Option (ByteArray × (List (S85)) × (List (S92)) × (List (S104))) := qAr.l0 k 0 a0_0 l0_1 l0_2 l0_3 a0_0 ([] : List (S85))
def qAr.T5 : Bool × List (List Nat × List Nat) := (true, [([], []), ([0], [0]), ([], []), ([2], [2]), ([], []), ([3, 4], [3, 4]), ([5], [5]), ([6], [6]), ([], []), ([8], [8]), ([], []), ([9, 10], [9, 10]), ([11], [11]), ([12], [12]), ([7, 13], [7, 13]), ([14], [14]), ([1, 15], [1, 15]), ([0, 1, 2, 3, 4, 5, 6, 7, 8, 9, 10, 11, 12, 13, 14, 15, 16], []), ([17, 16, 16, 0, 1, 2, 3, 4, 5, 6, 7, 8, 9, 10, 11, 12, 13, 14, 15, 16], [16, 17])])
def qAr.B5 : List Nat := [0, 1, 0, 4, 0, 28, 60, 124, 0, 256, 0, 1792, 3840, 7936, 16380, 32764, 65535, 131071, 262143]
theorem qAr.tab5 : rtab .any (opsOf Tryz.f10 5) = qAr.T5 := by kernel_rfl
theorem qAr.bits5 : qCe qAr.T5.2 qAr.B5 = true := by kernel_rfl
def qAr.T9 : Bool × List (List Nat × List Nat) := (true, [([], []), ([0], [0]), ([], []), ([2], [2]), ([], []), ([3, 4], [3, 4]), ([5], [5]), ([6], [6]), ([], []), ([8], [8]), ([], []), ([9, 10], [9, 10]), ([11], [11]), ([12], [12]), ([13], [13]), ([7, 14], [7, 14]), ([15], [15]), ([1, 16, 14], [1, 16]), ([0, 1, 2, 3, 4, 5, 6, 7, 8, 9, 10, 11, 12, 13, 14, 15, 16, 17], []), ([18, 17, 17, 0, 1, 2, 3, 4, 5, 6, 7, 8, 9, 10, 11, 12, 13, 14, 15, 16, 17], [17, 18])])
def qAr.B9 : List Nat := [0, 1, 0, 4, 0, 28, 60, 124, 0, 256, 0, 1792, 3840, 7936, 16128, 32764, 65532, 131071, 262143, 524287]
theorem qAr.tab9 : rtab .any (opsOf Tryz.f10 9) = qAr.T9 := by kernel_rfl
theorem qAr.bits9 : qCe qAr.T9.2 qAr.B9 = true := by kernel_rfl
theorem qAr.calls (k : Nat) (a0_0 : ByteArray) (aj : Option Addr) (ae : Nat) (l0_1 : List (S95)) (an : Option Addr) (af : Nat) (l0_2 : List (S100)) (ak : Option Addr) (ac : Nat) (l0_3 : List (S103)) (r1 : ByteArray) (r2 : List (S85)) (r3 : List (S92)) (r4 : List (S104)) (w : World) (hr0_1 : Kd.C k95 w aj l0_1.length l0_1) (hc0_1 : l0_1.length ≤ ae) (hr0_2 : Kd.C k100 w an l0_2.length l0_2) (hc0_2 : l0_2.length ≤ af) (hr0_3 : Kd.C k103 w ak l0_3.length l0_3) (hc0_3 : l0_3.length ≤ ac) (h : qAr.f k a0_0 l0_1 l0_2 l0_3 = some (r1, r2, r3, r4)) :
  Calls Tryz.prog 10 #[.agg #[.string a0_0, .slice aj l0_1.length ae, .slice an l0_2.length af, .slice ak l0_3.length ac]] w fun e w' => ∃ v1_ v2_ v3_ : Value, e = .returned (.agg #[.string r1, v1_, v2_, v3_]) ∧ Kd.R k85 85 w' w.heap.size (fun _ => True) v1_ r2 ∧ Kd.S k92 92 w' w.heap.size (fun _ => True) v2_ r3 ∧ Kd.R k104 104 w' w.heap.size (fun _ => True) v3_ r4 ∧ Below w.heap.size w w' := by
 have ce := am hr0_1
 clear hr0_1 hc0_1
 have cf := am hr0_2
 clear hr0_2 hc0_2
 have dR := am hr0_3
 clear hr0_3 hc0_3
 have HB := am (Below.refl w.heap.size w)
 have H : (qAr.l0 k 0 a0_0 l0_1 l0_2 l0_3 a0_0 ([] : List (S85))) = some (r1, r2, r3, r4) := h
 clear h
 have H' := am H
 clear H
 go_enter Tryz.func10, Tryz.ntmps10
 go_wp2_with (first | ((with_reducible refine qAI (N := 1) rfl ?_); refine bx 1 #[.string a0_0, .slice aj l0_1.length ae, .slice an l0_2.length af, .slice ak l0_3.length ac] 26 ?_; intro aM hg w2 hbox hb; have n_ := a2 (qAp HB.o hb) (am (hbox)); clear HB; obtain ⟨HB, aA⟩ := n_; clear hb hbox hg) | ((with_reducible refine qAI (N := 2) rfl ?_); refine bx 2 #[.string ⟨#[]⟩, .slice none 0 0, .slice none 0 0, .slice none 0 0] 33 ?_; intro aU hg w3 hbox hb; have n_ := a2 (qAt (g := aM) (o := .cells #[.string a0_0, .slice aj l0_1.length ae, .slice an l0_2.length af, .slice ak l0_3.length ac] 26 (0, 0)) aA.o hb) (a2 (qAp HB.o hb) (a2 (hbox) (am (by rw [hg]; exact (qAs HB.o) : w.heap.size ≤ aU)))); clear aA HB; obtain ⟨aA, HB, aG, dQ⟩ := n_; clear hb hbox hg; have ck : w3.cell? ⟨aM, 0, none⟩ = some (.string a0_0) := (qAa aA.o 0).trans rfl; have cl : w3.cell? ⟨aM, 1, none⟩ = some (.slice aj l0_1.length ae) := (qAa aA.o 1).trans rfl; have cm : w3.cell? ⟨aM, 2, none⟩ = some (.slice an l0_2.length af) := (qAa aA.o 2).trans rfl; have cn : w3.cell? ⟨aM, 3, none⟩ = some (.slice ak l0_3.length ac) := (qAa aA.o 3).trans rfl; have ct := qAc aA.o 0; have cu := qAc aA.o 1; have cv := qAc aA.o 2; have cw := qAc aA.o 3) | ((with_reducible refine qAI (N := 3) rfl ?_); refine bx 3 #[.string ⟨#[]⟩, .slice none 0 0, .slice none 0 0, .slice none 0 0] 33 ?_; intro aN hg w6 hbox hb; have n_ := a2 (qAt (g := aM) (o := .cells #[.string a0_0, .slice aj l0_1.length ae, .slice an l0_2.length af, .slice ak l0_3.length ac] 26 (0, 0)) aA.o hb) (a2 (qAt (g := aU) (o := .cells #[.string ⟨#[]⟩, .slice none 0 0, .slice none 0 0, .slice none 0 0] 33 (0, 0)) aG.o hb) (a2 (qAp HB.o hb) (a2 (hbox) (a2 (by rw [hg]; exact (qAs HB.o) : w.heap.size ≤ aN) (a2 (by rw [hg]; exact Nat.ne_of_lt (qAM (g := aM) (o := .cells #[.string a0_0, .slice aj l0_1.length ae, .slice an l0_2.length af, .slice ak l0_3.length ac] 26 (0, 0)) aA.o) : aM ≠ aN) (a2 (by rw [hg]; exact Nat.ne_of_lt (qAM (g := aU) (o := .cells #[.string ⟨#[]⟩, .slice none 0 0, .slice none 0 0, .slice none 0 0] 33 (0, 0)) aG.o) : aU ≠ aN) (am (by rw [hg]; exact Nat.ne_of_gt (qAM (g := aU) (o := .cells #[.string ⟨#[]⟩, .slice none 0 0, .slice none 0 0, .slice none 0 0] 33 (0, 0)) aG.o) : aN ≠ aU)))))))); clear aA aG HB; obtain ⟨aA, aG, HB, aC, bW, a8, a5, bg⟩ := n_; clear hb hbox hg; have co : w6.cell? ⟨aN, 0, none⟩ = some (.string ⟨#[]⟩) := (qAa aC.o 0).trans rfl; have cp : w6.cell? ⟨aN, 1, none⟩ = some (.slice none 0 0) := (qAa aC.o 1).trans rfl; have cq : w6.cell? ⟨aN, 2, none⟩ = some (.slice none 0 0) := (qAa aC.o 2).trans rfl; have cr : w6.cell? ⟨aN, 3, none⟩ = some (.slice none 0 0) := (qAa aC.o 3).trans rfl; have cx := qAc aC.o 0; have cy := qAc aC.o 1; have cz := qAc aC.o 2; have dA := qAc aC.o 3))
 go_loopg [4] k (fun kq v4 w' => ∃ (aW : Int) (aH : List (S85)) (aT : Value), v4 = .int .i64 aW ∧ qAj (qAr.l0 kq aW a0_0 l0_1 l0_2 l0_3 a0_0 aH = some (r1, r2, r3, r4)) ∧ qAj (kq ≤ k) ∧ qAj (Kd.R k85 85 w' w.heap.size (fun _ => True) aT aH) ∧ qAj (w'.heap[aM]? = some (.cells #[.string a0_0, (.slice aj l0_1.length ae), (.slice an l0_2.length af), (.slice ak l0_3.length ac)] 26 (0, 0))) ∧ qAj (w'.heap[aU]? = some (.cells #[.string ⟨#[]⟩, (.slice none 0 0), (.slice none 0 0), (.slice none 0 0)] 33 (0, 0))) ∧ qAj (w'.heap[aN]? = some (.cells #[.string a0_0, aT, (.slice none 0 0), (.slice none 0 0)] 33 (0, 0))) ∧ qAj (Below w.heap.size w w'))
 case atStart => exact ⟨(0), ([] : List (S85)), (.slice none 0 0), (by rfl), H', ⟨Nat.le_refl _⟩, ⟨by (exact Kd.R_nil _ _ _ _ _)⟩, ⟨by refine qA1 ?_ a8.o _; refine qA1 ?_ a8.o _; refine qA1 ?_ a8.o _; refine qA1 ?_ a8.o _; exact aA.o⟩, ⟨by refine qA1 ?_ a5.o _; refine qA1 ?_ a5.o _; refine qA1 ?_ a5.o _; refine qA1 ?_ a5.o _; exact aG.o⟩, ⟨by refine qA6 (cs := #[.string a0_0, .slice none 0 0, .slice none 0 0, .slice none 0 0]) ?_ 3 _ rfl; refine qA6 (cs := #[.string a0_0, .slice none 0 0, .slice none 0 0, .slice none 0 0]) ?_ 2 _ rfl; refine qA6 (cs := #[.string a0_0, .slice none 0 0, .slice none 0 0, .slice none 0 0]) ?_ 1 _ rfl; refine qA6 (cs := #[.string ⟨#[]⟩, .slice none 0 0, .slice none 0 0, .slice none 0 0]) ?_ 0 _ rfl; exact aC.o⟩, ⟨by repeat (with_reducible first | exact HB.o | refine qAb ?_ bW.o)⟩⟩
 case round =>
  clear H'
  obtain ⟨aW, aH, aT, rfl, HA, dH, aD, aA, aG, aC, HB⟩ := hrel
  cases gk with
  | zero => exact absurd HA.o (by simp [qAr.l0])
  | succ k1 =>
   have H := HA.o
   clear HA
   simp only [qAr.l0] at H
   by_cases c10 : aW < (l0_1.length : Int)
   ·rw [if_pos c10] at H
    replace c10 := d1 c10
    obtain ⟨d9, H⟩ := gd H
    replace d9 := d1 d9
    obtain ⟨da, H⟩ := gd H
    have dS := am da
    clear da
    obtain ⟨c0, bp⟩ : ∃ y_ : List (S85), y_ = (aH ++ [(⟨(qBu l0_1 aW).f0, (⟨(qBu l0_1 aW).f1.f0, (qBu l0_1 aW).f1.f1⟩ : S83)⟩ : S85)]) := ⟨_, rfl⟩
    replace H : (qAr.l0 k1 (wrap64 (aW + 1)) a0_0 l0_1 l0_2 l0_3 a0_0 c0) = some (r1, r2, r3, r4) := by (rw [bp]; with_reducible exact H)
    have dV := am bp
    clear bp
    have H' := am H
    clear H
    have df : wr.cell? ⟨aM, 1, none⟩ = some (.slice aj l0_1.length ae) := (qAa aA.o 1).trans rfl
    try go_wp2
    have n_ := a2 (Kd.R_drew aD.o) (a2 (qAh aA.o) (a2 (qAh aG.o) (a2 (qAh aC.o) (am (qAk HB.o)))))
    clear aD aA aG aC HB
    obtain ⟨aD, aA, aG, aC, HB⟩ := n_
    have dB : 0 ≤ aW := od (by assumption)
    have dE : aW < (l0_1.length : Int) := od (by assumption)
    obtain ⟨ai, eR, ax, ay, az⟩ := at_T95 ce.o aW dB dE
    have hw166_2 := az
    have hw166_1 := ay
    have hw166_0 := ax
    cases eR
    replace ax := (HB.o.cell (World.block_lt_of_cell? w _ ax)).trans ax
    replace ay := (HB.o.cell (World.block_lt_of_cell? w _ ay)).trans ay
    replace az := (HB.o.cell (World.block_lt_of_cell? w _ az)).trans az
    replace dB := eq_true dB
    replace dE := eq_true dE
    have e8 : 0 ≤ aW := od (by assumption)
    have ea : aW < (l0_1.length : Int) := od (by assumption)
    obtain ⟨dY, eS, bA, bB, bC⟩ := at_T95 ce.o aW e8 ea
    have hw167_2 := bC
    have hw167_1 := bB
    have hw167_0 := bA
    obtain rfl : ai = dY := (by injection eS)
    replace bA := (HB.o.cell (World.block_lt_of_cell? w _ bA)).trans bA
    replace bB := (HB.o.cell (World.block_lt_of_cell? w _ bB)).trans bB
    replace bC := (HB.o.cell (World.block_lt_of_cell? w _ bC)).trans bC
    refine qDz (n := 19) (S := fun w' => w'.cell? ⟨aN, 0, none⟩ = some (.string a0_0) ∧ w'.cell? ⟨aN, 1, none⟩ = some (aT) ∧ w'.cell? ⟨aN, 2, none⟩ = some (.slice none 0 0) ∧ w'.cell? ⟨aN, 3, none⟩ = some (.slice none 0 0) ∧ w'.cell? ⟨aM, 0, none⟩ = some (.string a0_0) ∧ w'.cell? ⟨aM, 1, none⟩ = some (.slice (some ai) l0_1.length ae) ∧ w'.cell? ⟨aM, 2, none⟩ = some (.slice an l0_2.length af) ∧ w'.cell? ⟨aM, 3, none⟩ = some (.slice ak l0_3.length ac) ∧ w'.cell? (ai.add ((aW).toNat * 3)) = some (.string ((qBu l0_1 aW).f0)) ∧ w'.cell? ⟨(ai.add ((aW).toNat * 3)).block, (ai.add ((aW).toNat * 3)).off + 1, none⟩ = some (.int .i64 ((qBu l0_1 aW).f1.f0)) ∧ w'.cell? ⟨(ai.add ((aW).toNat * 3)).block, (ai.add ((aW).toNat * 3)).off + 2, none⟩ = some (.int .u64 ((qBu l0_1 aW).f1.f1)) ∧ w'.cell? (ai.add ((aW).toNat * 3)) = some (.string ((qBu l0_1 aW).f0)) ∧ w'.cell? ⟨(ai.add ((aW).toNat * 3)).block, (ai.add ((aW).toNat * 3)).off + 1, none⟩ = some (.int .i64 ((qBu l0_1 aW).f1.f0)) ∧ w'.cell? ⟨(ai.add ((aW).toNat * 3)).block, (ai.add ((aW).toNat * 3)).off + 2, none⟩ = some (.int .u64 ((qBu l0_1 aW).f1.f1))) (ds := [18]) #[false, false, false, false, false, false, false, false, false, false, false, false, false, false, false, false, false, false, false] (by kernel_rfl) rfl rfl ⟨(qAa aC.o 0).trans rfl, (qAa aC.o 1).trans rfl, (qAa aC.o 2).trans rfl, (qAa aC.o 3).trans rfl, (qAa aA.o 0).trans rfl, (qAa aA.o 1).trans rfl, (qAa aA.o 2).trans rfl, (qAa aA.o 3).trans rfl, ((HB.o.cell (World.block_lt_of_cell? w _ hw166_0)).trans hw166_0), ((HB.o.cell (World.block_lt_of_cell? w _ hw166_1)).trans hw166_1), ((HB.o.cell (World.block_lt_of_cell? w _ hw166_2)).trans hw166_2), ((HB.o.cell (World.block_lt_of_cell? w _ hw167_0)).trans hw167_0), ((HB.o.cell (World.block_lt_of_cell? w _ hw167_1)).trans hw167_1), ((HB.o.cell (World.block_lt_of_cell? w _ hw167_2)).trans hw167_2)⟩ (fun hHeld => ?_); refine qBM qAr.tab5 qAr.bits5 (fun HT_ HW_ => ?_)
    generalize wr.drew = er at aD aA aG aC HB ax ay az bA bB bC hHeld ⊢
    refine pu 0 18 #[true, false, false, false, false, false, false, false, false, false, false, false, false, false, false, false, false, false, false] (qAK HT_.o (by kernel_rfl)) ?_
    refine pu 2 20 #[true, false, true, false, false, false, false, false, false, false, false, false, false, false, false, false, false, false, false] (qAK HT_.o (by kernel_rfl)) ?_
    refine pu 4 22 #[true, false, true, false, true, false, false, false, false, false, false, false, false, false, false, false, false, false, false] (qAK HT_.o (by kernel_rfl)) ?_
    refine pu 8 26 #[true, false, true, false, true, false, false, false, true, false, false, false, false, false, false, false, false, false, false] (qAK HT_.o (by kernel_rfl)) ?_
    refine pu 10 28 #[true, false, true, false, true, false, false, false, true, false, true, false, false, false, false, false, false, false, false] (qAK HT_.o (by kernel_rfl)) ?_
    refine qBR (i := 1) (N := some 19) (v := ?_) (a' := ?_) #[true, true, true, false, true, false, false, false, true, false, true, false, false, false, false, false, false, false, false] rfl rfl (qBg HT_.o HW_.o (by kernel_rfl)) (fun _ _ _ h => h) (Or.inl ⟨by rfl, ?_⟩) hHeld ?_ ?_
    rotate_left
    ·rintro w' ⟨s0, s1, s2, s3, s4, s5, s6, s7, s8, s9, s10, s11, s12, s13⟩
     go_simp
     with_reducible rfl
    rotate_left
    ·simp only [Act.put, List.setIfInBounds_toArray, List.set_cons_zero, List.set_cons_succ]
     rfl
    refine qBR (i := 3) (N := some 21) (v := ?_) (a' := ?_) #[true, true, true, true, true, false, false, false, true, false, true, false, false, false, false, false, false, false, false] rfl rfl (qBg HT_.o HW_.o (by kernel_rfl)) (fun _ _ _ h => h) (Or.inl ⟨by rfl, ?_⟩) hHeld ?_ ?_
    rotate_left
    ·rintro w' ⟨s0, s1, s2, s3, s4, s5, s6, s7, s8, s9, s10, s11, s12, s13⟩
     go_simp
     with_reducible rfl
    rotate_left
    ·simp only [Act.put, List.setIfInBounds_toArray, List.set_cons_zero, List.set_cons_succ]
     rfl
    refine pu 5 23 #[true, true, true, true, true, true, false, false, true, false, true, false, false, false, false, false, false, false, false] (qAK HT_.o (by kernel_rfl)) ?_
    refine pu 6 24 #[true, true, true, true, true, true, true, false, true, false, true, false, false, false, false, false, false, false, false] (qAK HT_.o (by kernel_rfl)) ?_
    refine qBR (i := 7) (N := some 25) (v := ?_) (a' := ?_) #[true, true, true, true, true, true, true, true, true, false, true, false, false, false, false, false, false, false, false] rfl rfl (qBg HT_.o HW_.o (by kernel_rfl)) (fun _ _ _ h => h) (Or.inl ⟨by rfl, ?_⟩) hHeld ?_ ?_
    rotate_left
    ·rintro w' ⟨s0, s1, s2, s3, s4, s5, s6, s7, s8, s9, s10, s11, s12, s13⟩
     go_simp
     with_reducible rfl
    rotate_left
    ·simp only [Act.put, List.setIfInBounds_toArray, List.set_cons_zero, List.set_cons_succ]
     rfl
    refine qBR (i := 9) (N := some 27) (v := ?_) (a' := ?_) #[true, true, true, true, true, true, true, true, true, true, true, false, false, false, false, false, false, false, false] rfl rfl (qBg HT_.o HW_.o (by kernel_rfl)) (fun _ _ _ h => h) (Or.inl ⟨by rfl, ?_⟩) hHeld ?_ ?_
    rotate_left
    ·rintro w' ⟨s0, s1, s2, s3, s4, s5, s6, s7, s8, s9, s10, s11, s12, s13⟩
     go_simp
     with_reducible rfl
    rotate_left
    ·simp only [Act.put, List.setIfInBounds_toArray, List.set_cons_zero, List.set_cons_succ]
     rfl
    refine pu 11 29 #[true, true, true, true, true, true, true, true, true, true, true, true, false, false, false, false, false, false, false] (qAK HT_.o (by kernel_rfl)) ?_
    refine pu 12 30 #[true, true, true, true, true, true, true, true, true, true, true, true, true, false, false, false, false, false, false] (qAK HT_.o (by kernel_rfl)) ?_
    refine qBR (i := 13) (N := some 31) (v := ?_) (a' := ?_) #[true, true, true, true, true, true, true, true, true, true, true, true, true, true, false, false, false, false, false] rfl rfl (qBg HT_.o HW_.o (by kernel_rfl)) (fun _ _ _ h => h) (Or.inl ⟨by rfl, ?_⟩) hHeld ?_ ?_
    rotate_left
    ·rintro w' ⟨s0, s1, s2, s3, s4, s5, s6, s7, s8, s9, s10, s11, s12, s13⟩
     go_simp
     with_reducible rfl
    rotate_left
    ·simp only [Act.put, List.setIfInBounds_toArray, List.set_cons_zero, List.set_cons_succ]
     rfl
    refine pu 14 32 #[true, true, true, true, true, true, true, true, true, true, true, true, true, true, true, false, false, false, false] (qAK HT_.o (by kernel_rfl)) ?_
    refine one_ (i := 15) (N := some 33) #[true, true, true, true, true, true, true, true, true, true, true, true, true, true, true, true, false, false, false] rfl rfl (qBq HT_.o (by kernel_rfl)) (by decide) (fun K hK => ?_)
    refine value_ (w1 := ?_) (v := ?_) (by rfl) rfl ?_ ?_
    rotate_left 2
    ·go_simp
     constructor
     ·rfl
     rfl
    refine hK.o _ _ ⟨(qAa (qAe aC.o _) 0).trans rfl, (qAa (qAe aC.o _) 1).trans rfl, (qAa (qAe aC.o _) 2).trans rfl, (qAa (qAe aC.o _) 3).trans rfl, (qAa (qAe aA.o _) 0).trans rfl, (qAa (qAe aA.o _) 1).trans rfl, (qAa (qAe aA.o _) 2).trans rfl, (qAa (qAe aA.o _) 3).trans rfl, (World.cell?_alloc_lt _ _ _ (World.block_lt_of_cell? _ _ ((HB.o.cell (World.block_lt_of_cell? w _ hw166_0)).trans hw166_0))).trans ((HB.o.cell (World.block_lt_of_cell? w _ hw166_0)).trans hw166_0), (World.cell?_alloc_lt _ _ _ (World.block_lt_of_cell? _ _ ((HB.o.cell (World.block_lt_of_cell? w _ hw166_1)).trans hw166_1))).trans ((HB.o.cell (World.block_lt_of_cell? w _ hw166_1)).trans hw166_1), (World.cell?_alloc_lt _ _ _ (World.block_lt_of_cell? _ _ ((HB.o.cell (World.block_lt_of_cell? w _ hw166_2)).trans hw166_2))).trans ((HB.o.cell (World.block_lt_of_cell? w _ hw166_2)).trans hw166_2), (World.cell?_alloc_lt _ _ _ (World.block_lt_of_cell? _ _ ((HB.o.cell (World.block_lt_of_cell? w _ hw167_0)).trans hw167_0))).trans ((HB.o.cell (World.block_lt_of_cell? w _ hw167_0)).trans hw167_0), (World.cell?_alloc_lt _ _ _ (World.block_lt_of_cell? _ _ ((HB.o.cell (World.block_lt_of_cell? w _ hw167_1)).trans hw167_1))).trans ((HB.o.cell (World.block_lt_of_cell? w _ hw167_1)).trans hw167_1), (World.cell?_alloc_lt _ _ _ (World.block_lt_of_cell? _ _ ((HB.o.cell (World.block_lt_of_cell? w _ hw167_2)).trans hw167_2))).trans ((HB.o.cell (World.block_lt_of_cell? w _ hw167_2)).trans hw167_2)⟩ (fun hHeld => ?_)
    clear hK K
    refine qBc (a' := ?_) ?_ ?_
    rotate_left
    ·show Act.put _ (some 33) _ = _
     simp only [Act.put, List.setIfInBounds_toArray, List.set_cons_zero, List.set_cons_succ]
     rfl
    refine one_ (i := 16) (N := some 34) #[true, true, true, true, true, true, true, true, true, true, true, true, true, true, true, true, true, false, false] rfl rfl (qBq HT_.o (by kernel_rfl)) (by decide) (fun K hK => ?_)
    refine Kd.R_append_step k85 (w0 := w) w.heap.size (by rfl) (.tmp 19) (.tmp 33) 29 85 (.agg #[(.string ⟨#[]⟩), (.int .i64 0), (.int .u64 0)]) 32 rfl Tryz.underlying29 info85 rfl (by decide) (by omega) aT aH (⟨(qBu l0_1 aW).f0, (⟨(qBu l0_1 aW).f1.f0, (qBu l0_1 aW).f1.f1⟩ : S83)⟩ : S85) [.string ((qBu l0_1 aW).f0), .int .i64 ((qBu l0_1 aW).f1.f0), .int .u64 ((qBu l0_1 aW).f1.f1)] (fun _ => True) (fun _ => False) rfl rfl ?aP (fun _ hk => hk.elim) ?aF ?aO ?aB ?aS ?aL ?_
    (case aP => exact k85_mkM _ _ _ (⟨(qBu l0_1 aW).f0, (⟨(qBu l0_1 aW).f1.f0, (qBu l0_1 aW).f1.f1⟩ : S83)⟩ : S85))
    (case aB => exact HB.o)
    (case aF => exact (fun _ _ => trivial))
    (case aO => exact aD.o)
    (case aS => exact (qAs HB.o))
    (case aL => have := dS.o; omega)
    intro ek es ho hb hg d7
    rw [← dV.o] at ho
    have n_ := a2 (qAP (g := aM) (o := .cells #[.string a0_0, .slice (some ai) l0_1.length ae, .slice an l0_2.length af, .slice ak l0_3.length ac] 26 (0, 0)) aA.o hg (Kd.R_ne aD.o aA.o (by decide))) (a2 (qAP (g := aU) (o := .cells #[.string ⟨#[]⟩, .slice none 0 0, .slice none 0 0, .slice none 0 0] 33 (0, 0)) aG.o hg (Kd.R_ne aD.o aG.o (by decide))) (a2 (qAP (g := aN) (o := .cells #[.string a0_0, aT, .slice none 0 0, .slice none 0 0] 33 (0, 0)) aC.o hg (Kd.R_ne aD.o aC.o (by decide))) (a2 (hb) (am (ho)))))
    clear aA aG aC HB aD
    obtain ⟨aA, aG, aC, HB, ca⟩ := n_
    clear ho hb hg d7
    obtain ⟨dM, d3, eW⟩ := Kd.R_slice ca.o
    (subst eW)
    refine hK.o _ _ ⟨(qAa aC.o 0).trans rfl, (qAa aC.o 1).trans rfl, (qAa aC.o 2).trans rfl, (qAa aC.o 3).trans rfl, (qAa aA.o 0).trans rfl, (qAa aA.o 1).trans rfl, (qAa aA.o 2).trans rfl, (qAa aA.o 3).trans rfl, ((HB.o.cell (World.block_lt_of_cell? w _ hw166_0)).trans hw166_0), ((HB.o.cell (World.block_lt_of_cell? w _ hw166_1)).trans hw166_1), ((HB.o.cell (World.block_lt_of_cell? w _ hw166_2)).trans hw166_2), ((HB.o.cell (World.block_lt_of_cell? w _ hw167_0)).trans hw167_0), ((HB.o.cell (World.block_lt_of_cell? w _ hw167_1)).trans hw167_1), ((HB.o.cell (World.block_lt_of_cell? w _ hw167_2)).trans hw167_2)⟩ (fun hHeld => ?_)
    clear hK K
    refine qBc (a' := ?_) ?_ ?_
    rotate_left
    ·show Act.put _ (some 34) _ = _
     simp only [Act.put, List.setIfInBounds_toArray, List.set_cons_zero, List.set_cons_succ]
     rfl
    refine pu 17 35 #[true, true, true, true, true, true, true, true, true, true, true, true, true, true, true, true, true, true, false] (qAK HT_.o (by kernel_rfl)) ?_
    refine last_ (i := 18) (N := none) #[true, true, true, true, true, true, true, true, true, true, true, true, true, true, true, true, true, true, true] rfl rfl (qBq HT_.o (by kernel_rfl)) (by decide) (fun K hK => ?_)
    have hfs19 := qAc aC.o 1
    refine skip_ (w1 := ?_) (by rfl) rfl ?_ ?_
    rotate_left
    ·go_simp
     rfl
    refine hK.o _ _ ?_
    clear hK K
    refine done_ (qC8 HT_.o (by kernel_rfl)) ?_
    try go_wp2
    go_roundg k1
    case measure => have := dH.o; omega
    case rel => exact ⟨(wrap64 (aW + 1)), (c0), (.slice dM c0.length d3), (by rfl), H', ⟨by have := dH.o; omega⟩, ⟨by exact Kd.R_mono (Kd.R_far (p := ⟨aN, 1, none⟩) (Kd.R_types ca.o aC.o (by decide)) (fun _ hk => hk.2) (.slice dM c0.length d3)) (fun _ hk => trivial)⟩, ⟨by refine qA1 ?_ a8.o _; exact aA.o⟩, ⟨by refine qA1 ?_ a5.o _; exact aG.o⟩, ⟨by refine qA6 (cs := #[.string a0_0, aT, .slice none 0 0, .slice none 0 0]) ?_ 1 _ rfl; exact aC.o⟩, ⟨by repeat (with_reducible first | exact HB.o | refine qAb ?_ bW.o)⟩⟩
   rw [if_neg c10] at H
   replace c10 := d0 c10
   have H' := am H
   clear H
   have cH : wr.cell? ⟨aM, 0, none⟩ = some (.string a0_0) := (qAa aA.o 0).trans rfl
   have cI : wr.cell? ⟨aM, 1, none⟩ = some (.slice aj l0_1.length ae) := (qAa aA.o 1).trans rfl
   have cJ : wr.cell? ⟨aM, 2, none⟩ = some (.slice an l0_2.length af) := (qAa aA.o 2).trans rfl
   have cK : wr.cell? ⟨aM, 3, none⟩ = some (.slice ak l0_3.length ac) := (qAa aA.o 3).trans rfl
   have cP := qAc aA.o 0
   have cQ := qAc aA.o 1
   have cR := qAc aA.o 2
   have cS := qAc aA.o 3
   go_wp2
   go_loopg [5] k1 (fun kq v5 w' => ∃ (aJ : Int) (aI : List (S92)) (aQ : Value), v5 = .int .i64 aJ ∧ qAj (qAr.l1 kq aJ a0_0 l0_1 l0_2 l0_3 a0_0 aH aI = some (r1, r2, r3, r4)) ∧ qAj (kq ≤ k1) ∧ qAj (Kd.R k85 85 w' w.heap.size (fun _ => True) aT aH) ∧ qAj (Kd.S k92 92 w' w.heap.size (fun _ => True) aQ aI) ∧ qAj (w'.heap[aM]? = some (.cells #[.string a0_0, (.slice aj l0_1.length ae), (.slice an l0_2.length af), (.slice ak l0_3.length ac)] 26 (0, 0))) ∧ qAj (w'.heap[aU]? = some (.cells #[.string ⟨#[]⟩, (.slice none 0 0), (.slice none 0 0), (.slice none 0 0)] 33 (0, 0))) ∧ qAj (w'.heap[aN]? = some (.cells #[.string a0_0, aT, aQ, (.slice none 0 0)] 33 (0, 0))) ∧ qAj (Below w.heap.size w w'))
   case atStart => exact ⟨(0), ([] : List (S92)), (.slice none 0 0), (by rfl), H', ⟨Nat.le_refl _⟩, ⟨by exact aD.o⟩, ⟨by (exact Kd.S_nil _ _ _ _ _)⟩, ⟨by exact aA.o⟩, ⟨by exact aG.o⟩, ⟨by exact aC.o⟩, ⟨by exact HB.o⟩⟩
   case round =>
    clear H'
    obtain ⟨aJ, aI, aQ, rfl, HA, d8, aD, aE, aA, aG, aC, HB⟩ := hrel
    cases gk with
    | zero => exact absurd HA.o (by simp [qAr.l1])
    | succ k2 =>
     have H := HA.o
     clear HA
     simp only [qAr.l1] at H
     by_cases dI : aJ < (l0_2.length : Int)
     rotate_left
     ·rw [if_neg dI] at H
      replace dI := d0 dI
      have H' := am H
      clear H
      have cL : wr.cell? ⟨aM, 0, none⟩ = some (.string a0_0) := (qAa aA.o 0).trans rfl
      have cM : wr.cell? ⟨aM, 1, none⟩ = some (.slice aj l0_1.length ae) := (qAa aA.o 1).trans rfl
      have cN : wr.cell? ⟨aM, 2, none⟩ = some (.slice an l0_2.length af) := (qAa aA.o 2).trans rfl
      have cO : wr.cell? ⟨aM, 3, none⟩ = some (.slice ak l0_3.length ac) := (qAa aA.o 3).trans rfl
      have cT := qAc aA.o 0
      have cU := qAc aA.o 1
      have cV := qAc aA.o 2
      have cW := qAc aA.o 3
      go_wp2
      go_loopg [6] k2 (fun kq v6 w' => ∃ (aK : Int) (aX : List (S104)) (a6 : Value), v6 = .int .i64 aK ∧ qAj (qAr.l2 kq aK a0_0 l0_1 l0_2 l0_3 a0_0 aH aI aX = some (r1, r2, r3, r4)) ∧ qAj (kq ≤ k2) ∧ qAj (Kd.R k85 85 w' w.heap.size (fun _ => True) aT aH) ∧ qAj (Kd.S k92 92 w' w.heap.size (fun _ => True) aQ aI) ∧ qAj (Kd.R k104 104 w' w.heap.size (fun _ => True) a6 aX) ∧ qAj (w'.heap[aM]? = some (.cells #[.string a0_0, (.slice aj l0_1.length ae), (.slice an l0_2.length af), (.slice ak l0_3.length ac)] 26 (0, 0))) ∧ qAj (w'.heap[aU]? = some (.cells #[.string ⟨#[]⟩, (.slice none 0 0), (.slice none 0 0), (.slice none 0 0)] 33 (0, 0))) ∧ qAj (w'.heap[aN]? = some (.cells #[.string a0_0, aT, aQ, a6] 33 (0, 0))) ∧ qAj (Below w.heap.size w w'))
      case atStart => exact ⟨(0), ([] : List (S104)), (.slice none 0 0), (by rfl), H', ⟨Nat.le_refl _⟩, ⟨by exact aD.o⟩, ⟨by exact aE.o⟩, ⟨by (exact Kd.R_nil _ _ _ _ _)⟩, ⟨by exact aA.o⟩, ⟨by exact aG.o⟩, ⟨by exact aC.o⟩, ⟨by exact HB.o⟩⟩
      case round =>
       clear H'
       obtain ⟨aK, aX, a6, rfl, HA, ec, aD, aE, aV, aA, aG, aC, HB⟩ := hrel
       cases gk with
       | zero => exact absurd HA.o (by simp [qAr.l2])
       | succ k3 =>
        have H := HA.o
        clear HA
        simp only [qAr.l2] at H
        by_cases dJ : aK < (l0_3.length : Int)
        rotate_left
        ·rw [if_neg dJ] at H
         replace dJ := d0 dJ
         simp only [Option.some.injEq, Prod.mk.injEq] at H
         obtain ⟨rfl, rfl, rfl, rfl⟩ := H
         have dq : wr.cell? ⟨aM, 3, none⟩ = some (.slice ak l0_3.length ac) := (qAa aA.o 3).trans rfl
         have dr : wr.cell? ⟨aN, 0, none⟩ = some (.string a0_0) := (qAa aC.o 0).trans rfl
         have dt : wr.cell? ⟨aN, 1, none⟩ = some (aT) := (qAa aC.o 1).trans rfl
         have du : wr.cell? ⟨aN, 2, none⟩ = some (aQ) := (qAa aC.o 2).trans rfl
         have dv : wr.cell? ⟨aN, 3, none⟩ = some (a6) := (qAa aC.o 3).trans rfl
         have dw : wr.cell? ⟨aU, 0, none⟩ = some (.string ⟨#[]⟩) := (qAa aG.o 0).trans rfl
         have dx : wr.cell? ⟨aU, 1, none⟩ = some (.slice none 0 0) := (qAa aG.o 1).trans rfl
         have dy : wr.cell? ⟨aU, 2, none⟩ = some (.slice none 0 0) := (qAa aG.o 2).trans rfl
         have dz : wr.cell? ⟨aU, 3, none⟩ = some (.slice none 0 0) := (qAa aG.o 3).trans rfl
         have eH := qAc aG.o 0
         have eI := qAc aG.o 1
         have eJ := qAc aG.o 2
         have eK := qAc aG.o 3
         obtain ⟨bd, bh, e2⟩ := Kd.R_slice aD.o
         subst e2
         obtain ⟨bk, bo, e3⟩ := Kd.S_slice aE.o
         subst e3
         obtain ⟨bw, cG, e4⟩ := Kd.R_slice aV.o
         subst e4
         go_wp2
         refine bodyPost_ret (results_cell_row rfl _ _ aU 33 #[.string a0_0, .slice bd aH.length bh, .slice bk aI.length bo, .slice bw aX.length cG] (0, 0) _ rfl (by refine qA6 (cs := #[.string a0_0, .slice bd aH.length bh, .slice bk aI.length bo, .slice none 0 0]) ?_ 3 _ rfl; refine qA6 (cs := #[.string a0_0, .slice bd aH.length bh, .slice none 0 0, .slice none 0 0]) ?_ 2 _ rfl; refine qA6 (cs := #[.string a0_0, .slice none 0 0, .slice none 0 0, .slice none 0 0]) ?_ 1 _ rfl; refine qA6 (cs := #[.string ⟨#[]⟩, .slice none 0 0, .slice none 0 0, .slice none 0 0]) ?_ 0 _ rfl; exact aG.o) Tryz.underlying33 rfl (by kernel_rfl)) rfl ?_
         exact ⟨_, _, _, by rfl, by exact Kd.R_mono (Kd.R_far (p := ⟨aU, 3, none⟩) (Kd.R_far (p := ⟨aU, 2, none⟩) (Kd.R_far (p := ⟨aU, 1, none⟩) (Kd.R_far (p := ⟨aU, 0, none⟩) (Kd.R_types aD.o aG.o (by decide)) (fun _ hk => hk.2) (.string a0_0)) (fun _ hk => hk.2) (.slice bd aH.length bh)) (fun _ hk => hk.2) (.slice bk aI.length bo)) (fun _ hk => hk.2) (.slice bw aX.length cG)) (fun _ hk => trivial), by exact Kd.S_mono (Kd.S_far (p := ⟨aU, 3, none⟩) (Kd.S_far (p := ⟨aU, 2, none⟩) (Kd.S_far (p := ⟨aU, 1, none⟩) (Kd.S_far (p := ⟨aU, 0, none⟩) (Kd.S_types aE.o aG.o (by decide)) (fun _ hk => hk.2) (.string a0_0)) (fun _ hk => hk.2) (.slice bd aH.length bh)) (fun _ hk => hk.2) (.slice bk aI.length bo)) (fun _ hk => hk.2) (.slice bw aX.length cG)) (fun _ hk => trivial), by exact Kd.R_mono (Kd.R_far (p := ⟨aU, 3, none⟩) (Kd.R_far (p := ⟨aU, 2, none⟩) (Kd.R_far (p := ⟨aU, 1, none⟩) (Kd.R_far (p := ⟨aU, 0, none⟩) (Kd.R_types aV.o aG.o (by decide)) (fun _ hk => hk.2) (.string a0_0)) (fun _ hk => hk.2) (.slice bd aH.length bh)) (fun _ hk => hk.2) (.slice bk aI.length bo)) (fun _ hk => hk.2) (.slice bw aX.length cG)) (fun _ hk => trivial), by repeat (with_reducible first | exact HB.o | refine qAb ?_ dQ.o)⟩
        rw [if_pos dJ] at H
        replace dJ := d1 dJ
        obtain ⟨dd, H⟩ := gd H
        replace dd := d1 dd
        obtain ⟨de, H⟩ := gd H
        have dU := am de
        clear de
        obtain ⟨bj, br⟩ : ∃ y_ : List (S104), y_ = (aX ++ [(⟨(qAw l0_3 aK).f0, (qAw l0_3 aK).f1, (qAw l0_3 aK).f2, (qAw l0_3 aK).f3, (qAw l0_3 aK).f4⟩ : S104)]) := ⟨_, rfl⟩
        replace H : (qAr.l2 k3 (wrap64 (aK + 1)) a0_0 l0_1 l0_2 l0_3 a0_0 aH aI bj) = some (r1, r2, r3, r4) := by (rw [br]; with_reducible exact H)
        have dX := am br
        clear br
        have H' := am H
        clear H
        have dh : wr.cell? ⟨aM, 3, none⟩ = some (.slice ak l0_3.length ac) := (qAa aA.o 3).trans rfl
        have dD : 0 ≤ aK := od (by assumption)
        have dG : aK < (l0_3.length : Int) := od (by assumption)
        obtain ⟨bl, eV, bH, bI, bJ, bK, bL⟩ := qCl dR.o aK dD dG
        cases eV
        replace bH := (HB.o.cell (World.block_lt_of_cell? w _ bH)).trans bH
        replace bI := (HB.o.cell (World.block_lt_of_cell? w _ bI)).trans bI
        replace bJ := (HB.o.cell (World.block_lt_of_cell? w _ bJ)).trans bJ
        replace bK := (HB.o.cell (World.block_lt_of_cell? w _ bK)).trans bK
        replace bL := (HB.o.cell (World.block_lt_of_cell? w _ bL)).trans bL
        replace dD := eq_true dD
        replace dG := eq_true dG
        go_wp2_with (first | ((with_reducible refine qAI (N := 7) rfl ?_); refine bx 7 #[.int .i64 0, .int .i64 0, .int .i64 0, .string ⟨#[]⟩, .string ⟨#[]⟩] 103 ?_; intro aR hg dK hbox hb; have n_ := a2 (Kd.R_below aD.o hb) (a2 (Kd.S_below aE.o hb) (a2 (Kd.R_below aV.o hb) (a2 (qAt (g := aM) (o := .cells #[.string a0_0, .slice aj l0_1.length ae, .slice an l0_2.length af, .slice (some bl) l0_3.length ac] 26 (0, 0)) aA.o hb) (a2 (qAt (g := aU) (o := .cells #[.string ⟨#[]⟩, .slice none 0 0, .slice none 0 0, .slice none 0 0] 33 (0, 0)) aG.o hb) (a2 (qAt (g := aN) (o := .cells #[.string a0_0, aT, aQ, a6] 33 (0, 0)) aC.o hb) (a2 (qAp HB.o hb) (a2 (hbox) (a2 (by rw [hg]; exact (qAs HB.o) : w.heap.size ≤ aR) (a2 (by rw [hg]; exact Nat.ne_of_lt (qAM (g := aM) (o := .cells #[.string a0_0, .slice aj l0_1.length ae, .slice an l0_2.length af, .slice (some bl) l0_3.length ac] 26 (0, 0)) aA.o) : aM ≠ aR) (a2 (by rw [hg]; exact Nat.ne_of_lt (qAM (g := aU) (o := .cells #[.string ⟨#[]⟩, .slice none 0 0, .slice none 0 0, .slice none 0 0] 33 (0, 0)) aG.o) : aU ≠ aR) (am (by rw [hg]; exact Nat.ne_of_lt (qAM (g := aN) (o := .cells #[.string a0_0, aT, aQ, a6] 33 (0, 0)) aC.o) : aN ≠ aR)))))))))))); clear aD aE aV aA aG aC HB; obtain ⟨aD, aE, aV, aA, aG, aC, HB, a9, c1, ag, ah, ab⟩ := n_; clear hb hbox hg; have eh := ab.o; have di : dK.cell? ⟨aR, 0, none⟩ = some (.int .i64 0) := (qAa a9.o 0).trans rfl; have dj : dK.cell? ⟨aR, 1, none⟩ = some (.int .i64 0) := (qAa a9.o 1).trans rfl; have dk : dK.cell? ⟨aR, 2, none⟩ = some (.int .i64 0) := (qAa a9.o 2).trans rfl; have dl : dK.cell? ⟨aR, 3, none⟩ = some (.string ⟨#[]⟩) := (qAa a9.o 3).trans rfl; have dm : dK.cell? ⟨aR, 4, none⟩ = some (.string ⟨#[]⟩) := (qAa a9.o 4).trans rfl; have eA := qAc a9.o 0; have eB := qAc a9.o 1; have eC := qAc a9.o 2; have eD := qAc a9.o 3; have eE := qAc a9.o 4; have eg := bg.o; have ei := a5.o; have dn : dK.cell? ⟨aN, 3, none⟩ = some (a6) := (qAa aC.o 3).trans rfl; have eF := qAc aC.o 3) | ((with_reducible refine qBE (b := .append) (xs := #[.tmp 75, .tmp 87]) rfl ?_); at_builtin; refine Kd.R_append k104 (w0 := w) w.heap.size rfl (.tmp 75) (.tmp 87) 31 104 (.agg #[(.int .i64 0), (.int .i64 0), (.int .i64 0), (.string ⟨#[]⟩), (.string ⟨#[]⟩)]) 56 rfl Tryz.underlying31 info104 rfl (by decide) (by omega) a6 aX (⟨(qAw l0_3 aK).f0, (qAw l0_3 aK).f1, (qAw l0_3 aK).f2, (qAw l0_3 aK).f3, (qAw l0_3 aK).f4⟩ : S104) [.int .i64 ((qAw l0_3 aK).f0), .int .i64 ((qAw l0_3 aK).f1), .int .i64 ((qAw l0_3 aK).f2), .string ((qAw l0_3 aK).f3), .string ((qAw l0_3 aK).f4)] (fun _ => True) (fun _ => False) rfl (by (go_simp; done)) ?aP (fun _ hk => hk.elim) ?aF ?aO ?aB ?aS ?aL ?_; (case aP => exact qE1 _ _ _ (⟨(qAw l0_3 aK).f0, (qAw l0_3 aK).f1, (qAw l0_3 aK).f2, (qAw l0_3 aK).f3, (qAw l0_3 aK).f4⟩ : S104)); (case aB => exact (by repeat (with_reducible first | exact HB.o | refine qAb ?_ c1.o))); (case aF => exact (fun _ _ => trivial)); (case aO => exact (by exact Kd.R_mono (Kd.R_far (p := ⟨aR, 4, none⟩) (Kd.R_far (p := ⟨aR, 3, none⟩) (Kd.R_far (p := ⟨aR, 2, none⟩) (Kd.R_far (p := ⟨aR, 1, none⟩) (Kd.R_far (p := ⟨aR, 0, none⟩) (Kd.R_types aV.o a9.o (by decide)) (fun _ hk => hk.2) (.int .i64 ((qAw l0_3 aK).f0))) (fun _ hk => hk.2) (.int .i64 ((qAw l0_3 aK).f1))) (fun _ hk => hk.2) (.int .i64 ((qAw l0_3 aK).f2))) (fun _ hk => hk.2) (.string ((qAw l0_3 aK).f3))) (fun _ hk => hk.2) (.string ((qAw l0_3 aK).f4))) (fun _ hk => trivial))); (case aS => exact (qAs (by repeat (with_reducible first | exact HB.o | refine qAb ?_ c1.o)))); (case aL => have := dU.o; omega); intro ep eq ho hb hg d7; rw [← dX.o] at ho; have n_ := a2 (Kd.R_over' (by exact (Kd.R_mono (Kd.R_far (p := ⟨aR, 4, none⟩) (Kd.R_far (p := ⟨aR, 3, none⟩) (Kd.R_far (p := ⟨aR, 2, none⟩) (Kd.R_far (p := ⟨aR, 1, none⟩) (Kd.R_far (p := ⟨aR, 0, none⟩) (Kd.R_types aD.o a9.o (by decide)) (fun _ hk => hk.2) (.int .i64 ((qAw l0_3 aK).f0))) (fun _ hk => hk.2) (.int .i64 ((qAw l0_3 aK).f1))) (fun _ hk => hk.2) (.int .i64 ((qAw l0_3 aK).f2))) (fun _ hk => hk.2) (.string ((qAw l0_3 aK).f3))) (fun _ hk => hk.2) (.string ((qAw l0_3 aK).f4))) (fun _ h_ => h_.1))) (Kd.R_typed (by exact (Kd.R_mono (Kd.R_far (p := ⟨aR, 4, none⟩) (Kd.R_far (p := ⟨aR, 3, none⟩) (Kd.R_far (p := ⟨aR, 2, none⟩) (Kd.R_far (p := ⟨aR, 1, none⟩) (Kd.R_far (p := ⟨aR, 0, none⟩) (Kd.R_types aV.o a9.o (by decide)) (fun _ hk => hk.2) (.int .i64 ((qAw l0_3 aK).f0))) (fun _ hk => hk.2) (.int .i64 ((qAw l0_3 aK).f1))) (fun _ hk => hk.2) (.int .i64 ((qAw l0_3 aK).f2))) (fun _ hk => hk.2) (.string ((qAw l0_3 aK).f3))) (fun _ hk => hk.2) (.string ((qAw l0_3 aK).f4))) (fun _ h_ => h_.1)))) (by decide) hg) (a2 (Kd.S_over' (by exact (Kd.S_mono (Kd.S_far (p := ⟨aR, 4, none⟩) (Kd.S_far (p := ⟨aR, 3, none⟩) (Kd.S_far (p := ⟨aR, 2, none⟩) (Kd.S_far (p := ⟨aR, 1, none⟩) (Kd.S_far (p := ⟨aR, 0, none⟩) (Kd.S_types aE.o a9.o (by decide)) (fun _ hk => hk.2) (.int .i64 ((qAw l0_3 aK).f0))) (fun _ hk => hk.2) (.int .i64 ((qAw l0_3 aK).f1))) (fun _ hk => hk.2) (.int .i64 ((qAw l0_3 aK).f2))) (fun _ hk => hk.2) (.string ((qAw l0_3 aK).f3))) (fun _ hk => hk.2) (.string ((qAw l0_3 aK).f4))) (fun _ h_ => h_.1))) (Kd.R_typed (by exact (Kd.R_mono (Kd.R_far (p := ⟨aR, 4, none⟩) (Kd.R_far (p := ⟨aR, 3, none⟩) (Kd.R_far (p := ⟨aR, 2, none⟩) (Kd.R_far (p := ⟨aR, 1, none⟩) (Kd.R_far (p := ⟨aR, 0, none⟩) (Kd.R_types aV.o a9.o (by decide)) (fun _ hk => hk.2) (.int .i64 ((qAw l0_3 aK).f0))) (fun _ hk => hk.2) (.int .i64 ((qAw l0_3 aK).f1))) (fun _ hk => hk.2) (.int .i64 ((qAw l0_3 aK).f2))) (fun _ hk => hk.2) (.string ((qAw l0_3 aK).f3))) (fun _ hk => hk.2) (.string ((qAw l0_3 aK).f4))) (fun _ h_ => h_.1)))) (by decide) hg) (a2 (qAP (g := aM) (o := .cells #[.string a0_0, .slice aj l0_1.length ae, .slice an l0_2.length af, .slice (some bl) l0_3.length ac] 26 (0, 0)) (by refine qA1 ?_ ag.o _; refine qA1 ?_ ag.o _; refine qA1 ?_ ag.o _; refine qA1 ?_ ag.o _; refine qA1 ?_ ag.o _; exact aA.o) hg (Kd.R_ne aV.o aA.o (by decide))) (a2 (qAP (g := aU) (o := .cells #[.string ⟨#[]⟩, .slice none 0 0, .slice none 0 0, .slice none 0 0] 33 (0, 0)) (by refine qA1 ?_ ah.o _; refine qA1 ?_ ah.o _; refine qA1 ?_ ah.o _; refine qA1 ?_ ah.o _; refine qA1 ?_ ah.o _; exact aG.o) hg (Kd.R_ne aV.o aG.o (by decide))) (a2 (qAP (g := aN) (o := .cells #[.string a0_0, aT, aQ, a6] 33 (0, 0)) (by refine qA1 ?_ ab.o _; refine qA1 ?_ ab.o _; refine qA1 ?_ ab.o _; refine qA1 ?_ ab.o _; refine qA1 ?_ ab.o _; exact aC.o) hg (Kd.R_ne aV.o aC.o (by decide))) (a2 (hb) (am (ho))))))); clear aD aE aA aG aC a9 HB aV; obtain ⟨aD, aE, aA, aG, aC, HB, cd⟩ := n_; clear ho hb hg d7; obtain ⟨bu, cF, e1⟩ := Kd.R_slice cd.o; subst e1; have dp : eq.cell? ⟨aN, 3, none⟩ = some (a6) := (qAa aC.o 3).trans rfl; have eG := qAc aC.o 3))
        go_roundg k3
        case measure => have := dH.o; have := d8.o; have := ec.o; omega
        case rel => exact ⟨(wrap64 (aK + 1)), (bj), (.slice bu bj.length cF), (by rfl), H', ⟨by have := dH.o; have := d8.o; have := ec.o; omega⟩, ⟨by exact Kd.R_mono (Kd.R_far (p := ⟨aN, 3, none⟩) (Kd.R_types aD.o aC.o (by decide)) (fun _ hk => hk.2) (.slice bu bj.length cF)) (fun _ hk => trivial)⟩, ⟨by exact Kd.S_mono (Kd.S_far (p := ⟨aN, 3, none⟩) (Kd.S_types aE.o aC.o (by decide)) (fun _ hk => hk.2) (.slice bu bj.length cF)) (fun _ hk => trivial)⟩, ⟨by exact Kd.R_mono (Kd.R_far (p := ⟨aN, 3, none⟩) (Kd.R_types cd.o aC.o (by decide)) (fun _ hk => hk.2) (.slice bu bj.length cF)) (fun _ hk => trivial)⟩, ⟨by refine qA1 ?_ a8.o _; exact aA.o⟩, ⟨by refine qA1 ?_ a5.o _; exact aG.o⟩, ⟨by refine qA6 (cs := #[.string a0_0, aT, aQ, a6]) ?_ 3 _ rfl; exact aC.o⟩, ⟨by repeat (with_reducible first | exact HB.o | refine qAb ?_ bW.o)⟩⟩
     rw [if_pos dI] at H
     replace dI := d1 dI
     obtain ⟨db, H⟩ := gd H
     replace db := d1 db
     replace H := bm H
     obtain ⟨⟨bT, bi, bU, bV⟩, dL, H⟩ := H
     replace H : (if aI.length < 1466015503701 then (qAr.l1 k2 (wrap64 (aJ + 1)) a0_0 l0_1 l0_2 l0_3 a0_0 aH (aI ++ [(⟨(qA3 l0_2 aJ).f0, (⟨(⟨bT, bi⟩ : S69), bU, bV⟩ : S90)⟩ : S92)])) else (none)) = some (r1, r2, r3, r4) := H
     have ej := am dL
     clear dL
     obtain ⟨dc, H⟩ := gd H
     have dT := am dc
     clear dc
     obtain ⟨bs, bq⟩ : ∃ y_ : List (S92), y_ = (aI ++ [(⟨(qA3 l0_2 aJ).f0, (⟨(⟨bT, bi⟩ : S69), bU, bV⟩ : S90)⟩ : S92)]) := ⟨_, rfl⟩
     replace H : (qAr.l1 k2 (wrap64 (aJ + 1)) a0_0 l0_1 l0_2 l0_3 a0_0 aH bs) = some (r1, r2, r3, r4) := by (rw [bq]; with_reducible exact H)
     have dW := am bq
     clear bq
     have H' := am H
     clear H
     have dg : wr.cell? ⟨aM, 2, none⟩ = some (.slice an l0_2.length af) := (qAa aA.o 2).trans rfl
     try go_wp2
     have n_ := a2 (Kd.R_drew aD.o) (a2 (Kd.S_drew aE.o) (a2 (qAh aA.o) (a2 (qAh aG.o) (a2 (qAh aC.o) (am (qAk HB.o))))))
     clear aD aE aA aG aC HB
     obtain ⟨aD, aE, aA, aG, aC, HB⟩ := n_
     have dC : 0 ≤ aJ := od (by assumption)
     have dF : aJ < (l0_2.length : Int) := od (by assumption)
     obtain ⟨a4, bN, bQ, bO, bR, bP, bS, eT, bD, ao, bE, ap, aq, cX, b4, cY, b5, cZ, b6⟩ := qD2 cf.o aJ dC dF
     have hw171_4 := aq
     have hw171_3 := ap
     have hw171_2 := bE
     have hw171_1 := ao
     have hw171_0 := bD
     cases eT
     replace bD := (HB.o.cell (World.block_lt_of_cell? w _ bD)).trans bD
     replace ao := (HB.o.cell (World.block_lt_of_cell? w _ ao)).trans ao
     replace bE := (HB.o.cell (World.block_lt_of_cell? w _ bE)).trans bE
     replace ap := (HB.o.cell (World.block_lt_of_cell? w _ ap)).trans ap
     replace aq := (HB.o.cell (World.block_lt_of_cell? w _ aq)).trans aq
     have cC := am b4
     clear b4 cX
     have cD := am b5
     clear b5 cY
     have cE := am b6
     clear b6 cZ
     replace dC := eq_true dC
     replace dF := eq_true dF
     have e9 : 0 ≤ aJ := od (by assumption)
     have eb : aJ < (l0_2.length : Int) := od (by assumption)
     obtain ⟨dZ, eL, eO, eM, eP, eN, eQ, eU, bF, ar, bG, au, av, ba, b7, bb, b8, bc, b9⟩ := qD2 cf.o aJ e9 eb
     have hw172_4 := av
     have hw172_3 := au
     have hw172_2 := bG
     have hw172_1 := ar
     have hw172_0 := bF
     obtain rfl : a4 = dZ := (by injection eU)
     replace bF := (HB.o.cell (World.block_lt_of_cell? w _ bF)).trans bF
     replace ar := (HB.o.cell (World.block_lt_of_cell? w _ ar)).trans ar
     replace bG := (HB.o.cell (World.block_lt_of_cell? w _ bG)).trans bG
     replace au := (HB.o.cell (World.block_lt_of_cell? w _ au)).trans au
     replace av := (HB.o.cell (World.block_lt_of_cell? w _ av)).trans av
     have b0 := am b7
     have bz := am ba
     clear b7 ba
     have b1 := am b8
     have cA := am bb
     clear b8 bb
     have b2 := am b9
     have cB := am bc
     clear b9 bc
     have ea_ := Option.some.inj (ao.symm.trans ar)
     injection ea_ with ea_ en_ ec_
     subst ea_
     subst ec_
     clear en_
     have ea_ := Option.some.inj (ap.symm.trans au)
     injection ea_ with ea_ en_ ec_
     subst ea_
     subst ec_
     clear en_
     have ea_ := Option.some.inj (aq.symm.trans av)
     injection ea_ with ea_ en_ ec_
     subst ea_
     subst ec_
     clear en_
     refine qDz (n := 20) (S := fun w' => w'.cell? ⟨aN, 0, none⟩ = some (.string a0_0) ∧ w'.cell? ⟨aN, 1, none⟩ = some (aT) ∧ w'.cell? ⟨aN, 2, none⟩ = some (aQ) ∧ w'.cell? ⟨aN, 3, none⟩ = some (.slice none 0 0) ∧ w'.cell? ⟨aM, 0, none⟩ = some (.string a0_0) ∧ w'.cell? ⟨aM, 1, none⟩ = some (.slice aj l0_1.length ae) ∧ w'.cell? ⟨aM, 2, none⟩ = some (.slice (some a4) l0_2.length af) ∧ w'.cell? ⟨aM, 3, none⟩ = some (.slice ak l0_3.length ac) ∧ w'.cell? (a4.add ((aJ).toNat * 5)) = some (.string ((qA3 l0_2 aJ).f0)) ∧ w'.cell? ⟨(a4.add ((aJ).toNat * 5)).block, (a4.add ((aJ).toNat * 5)).off + 1, none⟩ = some (.slice bN ((qA3 l0_2 aJ).f1.f0.f0).length bQ) ∧ w'.cell? ⟨(a4.add ((aJ).toNat * 5)).block, (a4.add ((aJ).toNat * 5)).off + 2, none⟩ = some (.int .i64 ((qA3 l0_2 aJ).f1.f0.f1)) ∧ w'.cell? ⟨(a4.add ((aJ).toNat * 5)).block, (a4.add ((aJ).toNat * 5)).off + 3, none⟩ = some (.slice bO ((qA3 l0_2 aJ).f1.f1).length bR) ∧ w'.cell? ⟨(a4.add ((aJ).toNat * 5)).block, (a4.add ((aJ).toNat * 5)).off + 4, none⟩ = some (.slice bP ((qA3 l0_2 aJ).f1.f2).length bS) ∧ w'.cell? (a4.add ((aJ).toNat * 5)) = some (.string ((qA3 l0_2 aJ).f0)) ∧ w'.cell? ⟨(a4.add ((aJ).toNat * 5)).block, (a4.add ((aJ).toNat * 5)).off + 1, none⟩ = some (.slice bN ((qA3 l0_2 aJ).f1.f0.f0).length bQ) ∧ w'.cell? ⟨(a4.add ((aJ).toNat * 5)).block, (a4.add ((aJ).toNat * 5)).off + 2, none⟩ = some (.int .i64 ((qA3 l0_2 aJ).f1.f0.f1)) ∧ w'.cell? ⟨(a4.add ((aJ).toNat * 5)).block, (a4.add ((aJ).toNat * 5)).off + 3, none⟩ = some (.slice bO ((qA3 l0_2 aJ).f1.f1).length bR) ∧ w'.cell? ⟨(a4.add ((aJ).toNat * 5)).block, (a4.add ((aJ).toNat * 5)).off + 4, none⟩ = some (.slice bP ((qA3 l0_2 aJ).f1.f2).length bS)) (ds := [19]) #[false, false, false, false, false, false, false, false, false, false, false, false, false, false, false, false, false, false, false, false] (by kernel_rfl) rfl rfl ⟨(qAa aC.o 0).trans rfl, (qAa aC.o 1).trans rfl, (qAa aC.o 2).trans rfl, (qAa aC.o 3).trans rfl, (qAa aA.o 0).trans rfl, (qAa aA.o 1).trans rfl, (qAa aA.o 2).trans rfl, (qAa aA.o 3).trans rfl, ((HB.o.cell (World.block_lt_of_cell? w _ hw171_0)).trans hw171_0), ((HB.o.cell (World.block_lt_of_cell? w _ hw171_1)).trans hw171_1), ((HB.o.cell (World.block_lt_of_cell? w _ hw171_2)).trans hw171_2), ((HB.o.cell (World.block_lt_of_cell? w _ hw171_3)).trans hw171_3), ((HB.o.cell (World.block_lt_of_cell? w _ hw171_4)).trans hw171_4), ((HB.o.cell (World.block_lt_of_cell? w _ hw172_0)).trans hw172_0), ((HB.o.cell (World.block_lt_of_cell? w _ hw172_1)).trans hw172_1), ((HB.o.cell (World.block_lt_of_cell? w _ hw172_2)).trans hw172_2), ((HB.o.cell (World.block_lt_of_cell? w _ hw172_3)).trans hw172_3), ((HB.o.cell (World.block_lt_of_cell? w _ hw172_4)).trans hw172_4)⟩ (fun hHeld => ?_); refine qBM qAr.tab9 qAr.bits9 (fun HT_ HW_ => ?_)
     generalize wr.drew = et at aD aE aA aG aC HB cC cD cE b0 b1 b2 bD ao bE ap aq bF ar bG au av hHeld ⊢
     refine pu 0 43 #[true, false, false, false, false, false, false, false, false, false, false, false, false, false, false, false, false, false, false, false] (qAK HT_.o (by kernel_rfl)) ?_
     refine pu 2 45 #[true, false, true, false, false, false, false, false, false, false, false, false, false, false, false, false, false, false, false, false] (qAK HT_.o (by kernel_rfl)) ?_
     refine pu 4 47 #[true, false, true, false, true, false, false, false, false, false, false, false, false, false, false, false, false, false, false, false] (qAK HT_.o (by kernel_rfl)) ?_
     refine pu 8 51 #[true, false, true, false, true, false, false, false, true, false, false, false, false, false, false, false, false, false, false, false] (qAK HT_.o (by kernel_rfl)) ?_
     refine pu 10 53 #[true, false, true, false, true, false, false, false, true, false, true, false, false, false, false, false, false, false, false, false] (qAK HT_.o (by kernel_rfl)) ?_
     refine qBR (i := 1) (N := some 44) (v := ?_) (a' := ?_) #[true, true, true, false, true, false, false, false, true, false, true, false, false, false, false, false, false, false, false, false] rfl rfl (qBg HT_.o HW_.o (by kernel_rfl)) (fun _ _ _ h => h) (Or.inl ⟨by rfl, ?_⟩) hHeld ?_ ?_
     rotate_left
     ·rintro w' ⟨s0, s1, s2, s3, s4, s5, s6, s7, s8, s9, s10, s11, s12, s13, s14, s15, s16, s17⟩
      go_simp
      with_reducible rfl
     rotate_left
     ·simp only [Act.put, List.setIfInBounds_toArray, List.set_cons_zero, List.set_cons_succ]
      rfl
     refine qBR (i := 3) (N := some 46) (v := ?_) (a' := ?_) #[true, true, true, true, true, false, false, false, true, false, true, false, false, false, false, false, false, false, false, false] rfl rfl (qBg HT_.o HW_.o (by kernel_rfl)) (fun _ _ _ h => h) (Or.inl ⟨by rfl, ?_⟩) hHeld ?_ ?_
     rotate_left
     ·rintro w' ⟨s0, s1, s2, s3, s4, s5, s6, s7, s8, s9, s10, s11, s12, s13, s14, s15, s16, s17⟩
      go_simp
      with_reducible rfl
     rotate_left
     ·simp only [Act.put, List.setIfInBounds_toArray, List.set_cons_zero, List.set_cons_succ]
      rfl
     refine pu 5 48 #[true, true, true, true, true, true, false, false, true, false, true, false, false, false, false, false, false, false, false, false] (qAK HT_.o (by kernel_rfl)) ?_
     refine pu 6 49 #[true, true, true, true, true, true, true, false, true, false, true, false, false, false, false, false, false, false, false, false] (qAK HT_.o (by kernel_rfl)) ?_
     refine qBR (i := 7) (N := some 50) (v := ?_) (a' := ?_) #[true, true, true, true, true, true, true, true, true, false, true, false, false, false, false, false, false, false, false, false] rfl rfl (qBg HT_.o HW_.o (by kernel_rfl)) (fun _ _ _ h => h) (Or.inl ⟨by rfl, ?_⟩) hHeld ?_ ?_
     rotate_left
     ·rintro w' ⟨s0, s1, s2, s3, s4, s5, s6, s7, s8, s9, s10, s11, s12, s13, s14, s15, s16, s17⟩
      go_simp
      with_reducible rfl
     rotate_left
     ·simp only [Act.put, List.setIfInBounds_toArray, List.set_cons_zero, List.set_cons_succ]
      rfl
     refine qBR (i := 9) (N := some 52) (v := ?_) (a' := ?_) #[true, true, true, true, true, true, true, true, true, true, true, false, false, false, false, false, false, false, false, false] rfl rfl (qBg HT_.o HW_.o (by kernel_rfl)) (fun _ _ _ h => h) (Or.inl ⟨by rfl, ?_⟩) hHeld ?_ ?_
     rotate_left
     ·rintro w' ⟨s0, s1, s2, s3, s4, s5, s6, s7, s8, s9, s10, s11, s12, s13, s14, s15, s16, s17⟩
      go_simp
      with_reducible rfl
     rotate_left
     ·simp only [Act.put, List.setIfInBounds_toArray, List.set_cons_zero, List.set_cons_succ]
      rfl
     refine pu 11 54 #[true, true, true, true, true, true, true, true, true, true, true, true, false, false, false, false, false, false, false, false] (qAK HT_.o (by kernel_rfl)) ?_
     refine pu 12 55 #[true, true, true, true, true, true, true, true, true, true, true, true, true, false, false, false, false, false, false, false] (qAK HT_.o (by kernel_rfl)) ?_
     refine qBR (i := 13) (N := some 56) (v := ?_) (a' := ?_) #[true, true, true, true, true, true, true, true, true, true, true, true, true, true, false, false, false, false, false, false] rfl rfl (qBg HT_.o HW_.o (by kernel_rfl)) (fun _ _ _ h => h) (Or.inl ⟨by rfl, ?_⟩) hHeld ?_ ?_
     rotate_left
     ·rintro w' ⟨s0, s1, s2, s3, s4, s5, s6, s7, s8, s9, s10, s11, s12, s13, s14, s15, s16, s17⟩
      go_simp
      with_reducible rfl
     rotate_left
     ·simp only [Act.put, List.setIfInBounds_toArray, List.set_cons_zero, List.set_cons_succ]
      rfl
     refine one_ (i := 14) (N := some 57) #[true, true, true, true, true, true, true, true, true, true, true, true, true, true, true, false, false, false, false, false] rfl rfl (qBq HT_.o (by kernel_rfl)) (by decide) (fun K hK => ?_)
     refine qCP Tryz.func35 (by kernel_rfl) rfl #[.agg #[.slice bN ((qA3 l0_2 aJ).f1.f0.f0).length bQ, .int .i64 ((qA3 l0_2 aJ).f1.f0.f1), .slice bO ((qA3 l0_2 aJ).f1.f1).length bR, .slice bP ((qA3 l0_2 aJ).f1.f2).length bS]] (by rfl) rfl rfl (by (try simp only [List.map_toArray, List.map_cons, List.map_nil]); (rfl)) ?_
     with_reducible refine (qAy.calls k2 _ _ ((qA3 l0_2 aJ).f1.f0.f0) ((qA3 l0_2 aJ).f1.f0.f1) _ _ ((qA3 l0_2 aJ).f1.f1) _ _ ((qA3 l0_2 aJ).f1.f2) bT bi bU bV _ ?side1 ?side2 ?side3 ?side4 ?side5 ?side6 ej.o).mono ?_
     (case side1 => exact (Kd.C_below b0.o HB.o))
     (case side2 => exact bz.o)
     (case side3 => exact (Kd.C_below b1.o HB.o))
     (case side4 => exact cA.o)
     (case side5 => exact (Kd.C_below b2.o HB.o))
     (case side6 => exact cB.o)
     rintro e eu ⟨el, em, en, rfl, e5, e6, e7, hb⟩
     refine ⟨_, rfl, ?_⟩
     have n_ := a2 (Kd.R_below aD.o hb) (a2 (Kd.S_mono (Kd.S_told (Kd.S_told (Kd.S_told (Kd.S_old aE.o hb) (Kd.R_base e5)) (Kd.R_base e6)) (Kd.R_base e7)) (fun _ h_ => h_.1)) (a2 (Kd.R_lower e5 (qAs HB.o)) (a2 (Kd.R_lower e6 (qAs HB.o)) (a2 (Kd.R_lower e7 (qAs HB.o)) (a2 (qAt (g := aM) (o := .cells #[.string a0_0, .slice aj l0_1.length ae, .slice (some a4) l0_2.length af, .slice ak l0_3.length ac] 26 (0, 0)) aA.o hb) (a2 (qAt (g := aU) (o := .cells #[.string ⟨#[]⟩, .slice none 0 0, .slice none 0 0, .slice none 0 0] 33 (0, 0)) aG.o hb) (a2 (qAt (g := aN) (o := .cells #[.string a0_0, aT, aQ, .slice none 0 0] 33 (0, 0)) aC.o hb) (am (qAp HB.o hb)))))))))
     clear aD aE aA aG aC HB
     obtain ⟨aD, aE, bX, bY, bZ, aA, aG, aC, HB⟩ := n_
     (try clear hb)
     (skip)
     (skip)
     (skip)
     (try clear e5)
     (try clear e6)
     (try clear e7)
     obtain ⟨dN, d4, eX⟩ := Kd.R_slice bZ.o
     (subst eX)
     obtain ⟨dO, d5, eY⟩ := Kd.R_slice bY.o
     (subst eY)
     obtain ⟨dP, d6, eZ⟩ := Kd.R_slice bX.o
     (subst eZ)
     refine hK.o _ _ ⟨(qAa aC.o 0).trans rfl, (qAa aC.o 1).trans rfl, (qAa aC.o 2).trans rfl, (qAa aC.o 3).trans rfl, (qAa aA.o 0).trans rfl, (qAa aA.o 1).trans rfl, (qAa aA.o 2).trans rfl, (qAa aA.o 3).trans rfl, ((HB.o.cell (World.block_lt_of_cell? w _ hw171_0)).trans hw171_0), ((HB.o.cell (World.block_lt_of_cell? w _ hw171_1)).trans hw171_1), ((HB.o.cell (World.block_lt_of_cell? w _ hw171_2)).trans hw171_2), ((HB.o.cell (World.block_lt_of_cell? w _ hw171_3)).trans hw171_3), ((HB.o.cell (World.block_lt_of_cell? w _ hw171_4)).trans hw171_4), ((HB.o.cell (World.block_lt_of_cell? w _ hw172_0)).trans hw172_0), ((HB.o.cell (World.block_lt_of_cell? w _ hw172_1)).trans hw172_1), ((HB.o.cell (World.block_lt_of_cell? w _ hw172_2)).trans hw172_2), ((HB.o.cell (World.block_lt_of_cell? w _ hw172_3)).trans hw172_3), ((HB.o.cell (World.block_lt_of_cell? w _ hw172_4)).trans hw172_4)⟩ (fun hHeld => ?_)
     clear hK K
     refine qBc (a' := ?_) ?_ ?_
     rotate_left
     ·show Act.put _ (some 57) _ = _
      simp only [Act.put, List.setIfInBounds_toArray, List.set_cons_zero, List.set_cons_succ]
      rfl
     refine pu 15 58 #[true, true, true, true, true, true, true, true, true, true, true, true, true, true, true, true, false, false, false, false] (qAK HT_.o (by kernel_rfl)) ?_
     refine one_ (i := 16) (N := some 59) #[true, true, true, true, true, true, true, true, true, true, true, true, true, true, true, true, true, false, false, false] rfl rfl (qBq HT_.o (by kernel_rfl)) (by decide) (fun K hK => ?_)
     refine value_ (w1 := ?_) (v := ?_) (by rfl) rfl ?_ ?_
     rotate_left 2
     ·go_simp
      constructor
      ·rfl
      rfl
     refine hK.o _ _ ⟨(qAa (qAe aC.o _) 0).trans rfl, (qAa (qAe aC.o _) 1).trans rfl, (qAa (qAe aC.o _) 2).trans rfl, (qAa (qAe aC.o _) 3).trans rfl, (qAa (qAe aA.o _) 0).trans rfl, (qAa (qAe aA.o _) 1).trans rfl, (qAa (qAe aA.o _) 2).trans rfl, (qAa (qAe aA.o _) 3).trans rfl, (World.cell?_alloc_lt _ _ _ (World.block_lt_of_cell? _ _ ((HB.o.cell (World.block_lt_of_cell? w _ hw171_0)).trans hw171_0))).trans ((HB.o.cell (World.block_lt_of_cell? w _ hw171_0)).trans hw171_0), (World.cell?_alloc_lt _ _ _ (World.block_lt_of_cell? _ _ ((HB.o.cell (World.block_lt_of_cell? w _ hw171_1)).trans hw171_1))).trans ((HB.o.cell (World.block_lt_of_cell? w _ hw171_1)).trans hw171_1), (World.cell?_alloc_lt _ _ _ (World.block_lt_of_cell? _ _ ((HB.o.cell (World.block_lt_of_cell? w _ hw171_2)).trans hw171_2))).trans ((HB.o.cell (World.block_lt_of_cell? w _ hw171_2)).trans hw171_2), (World.cell?_alloc_lt _ _ _ (World.block_lt_of_cell? _ _ ((HB.o.cell (World.block_lt_of_cell? w _ hw171_3)).trans hw171_3))).trans ((HB.o.cell (World.block_lt_of_cell? w _ hw171_3)).trans hw171_3), (World.cell?_alloc_lt _ _ _ (World.block_lt_of_cell? _ _ ((HB.o.cell (World.block_lt_of_cell? w _ hw171_4)).trans hw171_4))).trans ((HB.o.cell (World.block_lt_of_cell? w _ hw171_4)).trans hw171_4), (World.cell?_alloc_lt _ _ _ (World.block_lt_of_cell? _ _ ((HB.o.cell (World.block_lt_of_cell? w _ hw172_0)).trans hw172_0))).trans ((HB.o.cell (World.block_lt_of_cell? w _ hw172_0)).trans hw172_0), (World.cell?_alloc_lt _ _ _ (World.block_lt_of_cell? _ _ ((HB.o.cell (World.block_lt_of_cell? w _ hw172_1)).trans hw172_1))).trans ((HB.o.cell (World.block_lt_of_cell? w _ hw172_1)).trans hw172_1), (World.cell?_alloc_lt _ _ _ (World.block_lt_of_cell? _ _ ((HB.o.cell (World.block_lt_of_cell? w _ hw172_2)).trans hw172_2))).trans ((HB.o.cell (World.block_lt_of_cell? w _ hw172_2)).trans hw172_2), (World.cell?_alloc_lt _ _ _ (World.block_lt_of_cell? _ _ ((HB.o.cell (World.block_lt_of_cell? w _ hw172_3)).trans hw172_3))).trans ((HB.o.cell (World.block_lt_of_cell? w _ hw172_3)).trans hw172_3), (World.cell?_alloc_lt _ _ _ (World.block_lt_of_cell? _ _ ((HB.o.cell (World.block_lt_of_cell? w _ hw172_4)).trans hw172_4))).trans ((HB.o.cell (World.block_lt_of_cell? w _ hw172_4)).trans hw172_4)⟩ (fun hHeld => ?_)
     clear hK K
     refine qBc (a' := ?_) ?_ ?_
     rotate_left
     ·show Act.put _ (some 59) _ = _
      simp only [Act.put, List.setIfInBounds_toArray, List.set_cons_zero, List.set_cons_succ]
      rfl
     refine one_ (i := 17) (N := some 60) #[true, true, true, true, true, true, true, true, true, true, true, true, true, true, true, true, true, true, false, false] rfl rfl (qBq HT_.o (by kernel_rfl)) (by decide) (fun K hK => ?_)
     refine Kd.S_append_step k92 (w0 := w) w.heap.size (by rfl) (.tmp 44) (.tmp 59) 30 92 (.agg #[(.string ⟨#[]⟩), (.slice none 0 0), (.int .i64 0), (.slice none 0 0), (.slice none 0 0)]) 96 rfl Tryz.underlying30 info92 rfl (by decide) (by omega) aQ aI (⟨(qA3 l0_2 aJ).f0, (⟨(⟨bT, bi⟩ : S69), bU, bV⟩ : S90)⟩ : S92) [.string ((qA3 l0_2 aJ).f0), .slice dP bT.length d6, .int .i64 bi, .slice dO bU.length d5, .slice dN bV.length d4] (fun _ => True) (fun k_ => some k_ = (.slice dP bT.length d6 : Value).ownBlock ∨ some k_ = (.slice dO bU.length d5 : Value).ownBlock ∨ some k_ = (.slice dN bV.length d4 : Value).ownBlock) rfl rfl ?aP (fun k_ hk_ => hk_.elim (fun h_ => (Kd.R_mono (ok' := fun k_ => (fun _ => True) k_ ∧ some k_ ≠ (aQ : Value).ownBlock) (Kd.R_apart' bX.o (Kd.S_typed aE.o) (by decide)) (fun k_ hk => ⟨trivial, hk.2⟩)).1 k_ h_.symm) (fun h_ => h_.elim (fun h_ => (Kd.R_mono (ok' := fun k_ => (fun _ => True) k_ ∧ some k_ ≠ (aQ : Value).ownBlock) (Kd.R_apart' bY.o (Kd.S_typed aE.o) (by decide)) (fun k_ hk => ⟨trivial, hk.2⟩)).1 k_ h_.symm) (fun h_ => (Kd.R_mono (ok' := fun k_ => (fun _ => True) k_ ∧ some k_ ≠ (aQ : Value).ownBlock) (Kd.R_apart' bZ.o (Kd.S_typed aE.o) (by decide)) (fun k_ hk => ⟨trivial, hk.2⟩)).1 k_ h_.symm))) ?aF ?aO ?aB ?aS ?aL ?_
     (case aP => exact k92_mkM _ _ _ (⟨(qA3 l0_2 aJ).f0, (⟨(⟨bT, bi⟩ : S69), bU, bV⟩ : S90)⟩ : S92) (Kd.R_mono (Kd.R_tight rfl (Kd.R_mono (ok' := fun k_ => (fun _ => True) k_ ∧ some k_ ≠ (aQ : Value).ownBlock) (Kd.R_apart' bX.o (Kd.S_typed aE.o) (by decide)) (fun k_ hk => ⟨trivial, hk.2⟩))) (fun _ h_ => Or.inl h_)) (Kd.R_mono (Kd.R_tight rfl (Kd.R_mono (ok' := fun k_ => (fun _ => True) k_ ∧ some k_ ≠ (aQ : Value).ownBlock) (Kd.R_apart' bY.o (Kd.S_typed aE.o) (by decide)) (fun k_ hk => ⟨trivial, hk.2⟩))) (fun _ h_ => Or.inr (Or.inl h_))) (Kd.R_mono (Kd.R_tight rfl (Kd.R_mono (ok' := fun k_ => (fun _ => True) k_ ∧ some k_ ≠ (aQ : Value).ownBlock) (Kd.R_apart' bZ.o (Kd.S_typed aE.o) (by decide)) (fun k_ hk => ⟨trivial, hk.2⟩))) (fun _ h_ => Or.inr (Or.inr (h_)))))
     (case aB => exact HB.o)
     (case aF => exact (fun _ _ => trivial))
     (case aO => exact (by exact Kd.S_mono aE.o (fun k_ hk => ⟨trivial, fun e_ => e_.elim (fun h_ => hk.1.1.2 h_) (fun h_ => h_.elim (fun h_ => hk.1.2 h_) (fun h_ => hk.2 h_))⟩)))
     (case aS => exact (qAs HB.o))
     (case aL => have := dT.o; omega)
     intro eo ev ho hb hg d7
     rw [← dW.o] at ho
     have n_ := a2 (Kd.R_over' aD.o (Kd.S_typed aE.o) (by decide) hg) (a2 (qAP (g := aM) (o := .cells #[.string a0_0, .slice aj l0_1.length ae, .slice (some a4) l0_2.length af, .slice ak l0_3.length ac] 26 (0, 0)) aA.o hg (Kd.S_ne aE.o aA.o (by decide))) (a2 (qAP (g := aU) (o := .cells #[.string ⟨#[]⟩, .slice none 0 0, .slice none 0 0, .slice none 0 0] 33 (0, 0)) aG.o hg (Kd.S_ne aE.o aG.o (by decide))) (a2 (qAP (g := aN) (o := .cells #[.string a0_0, aT, aQ, .slice none 0 0] 33 (0, 0)) aC.o hg (Kd.S_ne aE.o aC.o (by decide))) (a2 (hb) (am (ho))))))
     clear aD aA aG aC HB aE bX bY bZ
     obtain ⟨aD, aA, aG, aC, HB, cc⟩ := n_
     clear ho hb hg d7
     obtain ⟨ci, cj, e0⟩ := Kd.S_slice cc.o
     (subst e0)
     refine hK.o _ _ ⟨(qAa aC.o 0).trans rfl, (qAa aC.o 1).trans rfl, (qAa aC.o 2).trans rfl, (qAa aC.o 3).trans rfl, (qAa aA.o 0).trans rfl, (qAa aA.o 1).trans rfl, (qAa aA.o 2).trans rfl, (qAa aA.o 3).trans rfl, ((HB.o.cell (World.block_lt_of_cell? w _ hw171_0)).trans hw171_0), ((HB.o.cell (World.block_lt_of_cell? w _ hw171_1)).trans hw171_1), ((HB.o.cell (World.block_lt_of_cell? w _ hw171_2)).trans hw171_2), ((HB.o.cell (World.block_lt_of_cell? w _ hw171_3)).trans hw171_3), ((HB.o.cell (World.block_lt_of_cell? w _ hw171_4)).trans hw171_4), ((HB.o.cell (World.block_lt_of_cell? w _ hw172_0)).trans hw172_0), ((HB.o.cell (World.block_lt_of_cell? w _ hw172_1)).trans hw172_1), ((HB.o.cell (World.block_lt_of_cell? w _ hw172_2)).trans hw172_2), ((HB.o.cell (World.block_lt_of_cell? w _ hw172_3)).trans hw172_3), ((HB.o.cell (World.block_lt_of_cell? w _ hw172_4)).trans hw172_4)⟩ (fun hHeld => ?_)
     clear hK K
     refine qBc (a' := ?_) ?_ ?_
     rotate_left
     ·show Act.put _ (some 60) _ = _
      simp only [Act.put, List.setIfInBounds_toArray, List.set_cons_zero, List.set_cons_succ]
      rfl
     refine pu 18 61 #[true, true, true, true, true, true, true, true, true, true, true, true, true, true, true, true, true, true, true, false] (qAK HT_.o (by kernel_rfl)) ?_
     refine last_ (i := 19) (N := none) #[true, true, true, true, true, true, true, true, true, true, true, true, true, true, true, true, true, true, true, true] rfl rfl (qBq HT_.o (by kernel_rfl)) (by decide) (fun K hK => ?_)
     have hfs37 := qAc aC.o 2
     refine skip_ (w1 := ?_) (by rfl) rfl ?_ ?_
     rotate_left
     ·go_simp
      rfl
     refine hK.o _ _ ?_
     clear hK K
     refine done_ (qC8 HT_.o (by kernel_rfl)) ?_
     try go_wp2
     go_roundg k2
     case measure => have := dH.o; have := d8.o; omega
     case rel => exact ⟨(wrap64 (aJ + 1)), (bs), (.slice ci bs.length cj), (by rfl), H', ⟨by have := dH.o; have := d8.o; omega⟩, ⟨by exact Kd.R_mono (Kd.R_far (p := ⟨aN, 2, none⟩) (Kd.R_types aD.o aC.o (by decide)) (fun _ hk => hk.2) (.slice ci bs.length cj)) (fun _ hk => trivial)⟩, ⟨by exact Kd.S_mono (Kd.S_far (p := ⟨aN, 2, none⟩) (Kd.S_types cc.o aC.o (by decide)) (fun _ hk => hk.2) (.slice ci bs.length cj)) (fun _ hk => trivial)⟩, ⟨by refine qA1 ?_ a8.o _; exact aA.o⟩, ⟨by refine qA1 ?_ a5.o _; exact aG.o⟩, ⟨by refine qA6 (cs := #[.string a0_0, aT, aQ, .slice none 0 0]) ?_ 2 _ rfl; exact aC.o⟩, ⟨by repeat (with_reducible first | exact HB.o | refine qAb ?_ bW.o)⟩⟩
def foundrylaw15_ObjectRights.f (k : Nat) (a0_0 : ByteArray) (l0_1 : List (S95)) (l0_2 : List (S100)) (l0_3 : List (S103)) : Option (Bool) := (qAr.f k a0_0 l0_1 l0_2 l0_3).bind fun aL => ((qA2.f k aL.1 aL.2.1 aL.2.2.1 aL.2.2.2).bind fun aN => ((qAm.f k a0_0 l0_1 l0_2 l0_3).bind fun aM => (if aN = aM then ((qBe.f k).bind fun aO => (some aO)) else (some false))))
def foundrylaw15_ObjectRights.T1 : Bool × List (List Nat × List Nat) := (true, [([], []), ([0], [0]), ([1, 1], [1]), ([], []), ([3, 2], [3]), ([2, 4], [2, 4]), ([5, 4], [5]), ([6, 6], [6]), ([6, 7], [6, 7]), ([8, 7, 0, 1, 2, 3, 4, 5, 6, 7, 8], [8])])
def foundrylaw15_ObjectRights.B1 : List Nat := [0, 1, 3, 0, 15, 31, 63, 127, 255, 511]
theorem foundrylaw15_ObjectRights.tab1 : rtab .any (opsOf Tryz.f3 1) = foundrylaw15_ObjectRights.T1 := by kernel_rfl
theorem foundrylaw15_ObjectRights.bits1 : qCe foundrylaw15_ObjectRights.T1.2 foundrylaw15_ObjectRights.B1 = true := by kernel_rfl
theorem foundrylaw15_ObjectRights.calls (k : Nat) (a0_0 : ByteArray) (aF : Option Addr) (aI : Nat) (l0_1 : List (S95)) (aG : Option Addr) (aJ : Nat) (l0_2 : List (S100)) (aH : Option Addr) (aK : Nat) (l0_3 : List (S103)) (r : Bool) (w : World) (hr0_1 : Kd.C k95 w aF l0_1.length l0_1) (hc0_1 : l0_1.length ≤ aI) (hr0_2 : Kd.C k100 w aG l0_2.length l0_2) (hc0_2 : l0_2.length ≤ aJ) (hr0_3 : Kd.C k103 w aH l0_3.length l0_3) (hc0_3 : l0_3.length ≤ aK) (h : foundrylaw15_ObjectRights.f k a0_0 l0_1 l0_2 l0_3 = some r) :
  Calls Tryz.prog 3 #[.agg #[.string a0_0, .slice aF l0_1.length aI, .slice aG l0_2.length aJ, .slice aH l0_3.length aK]] w fun e w' => e = .returned (.bool r) ∧ Below w.heap.size w w' := by
 have aW := am hr0_1
 have aT := am hc0_1
 clear hr0_1 hc0_1
 have aX := am hr0_2
 have aU := am hc0_2
 clear hr0_2 hc0_2
 have aY := am hr0_3
 have aV := am hc0_3
 clear hr0_3 hc0_3
 have HB := am (Below.refl w.heap.size w)
 have H : ((qAr.f k a0_0 l0_1 l0_2 l0_3).bind fun aL => ((qA2.f k aL.1 aL.2.1 aL.2.2.1 aL.2.2.2).bind fun aN => ((qAm.f k a0_0 l0_1 l0_2 l0_3).bind fun aM => (if aN = aM then ((qBe.f k).bind fun aO => (some aO)) else (some false))))) = some r := h
 clear h
 replace H := bm H
 obtain ⟨⟨aP, aQ, aR, aS⟩, av, H⟩ := H
 replace H : ((qA2.f k aP aQ aR aS).bind fun aN => ((qAm.f k a0_0 l0_1 l0_2 l0_3).bind fun aM => (if aN = aM then ((qBe.f k).bind fun aO => (some aO)) else (some false)))) = some r := H
 have A2 := am av
 clear av
 replace H := bm H
 obtain ⟨aN, aw, H⟩ := H
 replace H : ((qAm.f k a0_0 l0_1 l0_2 l0_3).bind fun aM => (if aN = aM then ((qBe.f k).bind fun aO => (some aO)) else (some false))) = some r := H
 have A3 := am aw
 clear aw
 replace H := bm H
 obtain ⟨aM, ax, H⟩ := H
 replace H : (if aN = aM then ((qBe.f k).bind fun aO => (some aO)) else (some false)) = some r := H
 have A4 := am ax
 clear ax
 by_cases c5 : aN = aM
 ·rw [if_pos c5] at H
  have ac : (aN == aM) = true := beq_iff_eq.mpr c5
  clear c5
  replace H := bm H
  obtain ⟨aO, ay, H⟩ := H
  replace H : (some aO) = some r := H
  have A6 := am ay
  clear ay
  obtain rfl := Option.some.inj H
  go_enter Tryz.func3, Tryz.ntmps3
  try go_wp2_with ((with_reducible refine qAI (N := 1) rfl ?_); refine bx 1 #[.string a0_0, .slice aF l0_1.length aI, .slice aG l0_2.length aJ, .slice aH l0_3.length aK] 26 ?_; intro aE hg w7 hbox hb; have n_ := a2 (qAp HB.o hb) (am (hbox)); clear HB; obtain ⟨HB, aA⟩ := n_; clear hb hbox hg)
  have n_ := a2 (qAh aA.o) (am (qAk HB.o))
  clear aA HB
  obtain ⟨aA, HB⟩ := n_
  refine qDz (n := 10) (S := fun w' => w'.cell? ⟨aE, 0, none⟩ = some (.string a0_0) ∧ w'.cell? ⟨aE, 1, none⟩ = some (.slice aF l0_1.length aI) ∧ w'.cell? ⟨aE, 2, none⟩ = some (.slice aG l0_2.length aJ) ∧ w'.cell? ⟨aE, 3, none⟩ = some (.slice aH l0_3.length aK)) (ds := []) #[false, false, false, false, false, false, false, false, false, false] (by kernel_rfl) rfl rfl ⟨(qAa aA.o 0).trans rfl, (qAa aA.o 1).trans rfl, (qAa aA.o 2).trans rfl, (qAa aA.o 3).trans rfl⟩ (fun hHeld => ?_); refine qBM foundrylaw15_ObjectRights.tab1 foundrylaw15_ObjectRights.bits1 (fun HT_ HW_ => ?_)
  generalize w7.drew = w8 at aA HB hHeld ⊢
  refine qBR (i := 0) (N := some 3) (v := ?_) (a' := ?_) #[true, false, false, false, false, false, false, false, false, false] rfl rfl (qBg HT_.o HW_.o (by kernel_rfl)) (fun _ _ _ h => h) (Or.inl ⟨by rfl, ?_⟩) hHeld ?_ ?_
  rotate_left
  ·rintro w' ⟨s0, s1, s2, s3⟩
   go_simp
   with_reducible rfl
  rotate_left
  ·simp only [Act.put, List.setIfInBounds_toArray, List.set_cons_zero, List.set_cons_succ]
   rfl
  refine qBR (i := 3) (N := some 6) (v := ?_) (a' := ?_) #[true, false, false, true, false, false, false, false, false, false] rfl rfl (qBg HT_.o HW_.o (by kernel_rfl)) (fun _ _ _ h => h) (Or.inl ⟨by rfl, ?_⟩) hHeld ?_ ?_
  rotate_left
  ·rintro w' ⟨s0, s1, s2, s3⟩
   go_simp
   with_reducible rfl
  rotate_left
  ·simp only [Act.put, List.setIfInBounds_toArray, List.set_cons_zero, List.set_cons_succ]
   rfl
  refine one_ (i := 1) (N := some 4) #[true, true, false, true, false, false, false, false, false, false] rfl rfl (qBq HT_.o (by kernel_rfl)) (by decide) (fun K hK => ?_)
  refine qCP Tryz.func10 (by kernel_rfl) rfl #[.agg #[.string a0_0, .slice aF l0_1.length aI, .slice aG l0_2.length aJ, .slice aH l0_3.length aK]] (by rfl) rfl rfl (by (try simp only [List.map_toArray, List.map_cons, List.map_nil]); (rfl)) ?_
  with_reducible refine (qAr.calls k a0_0 _ _ l0_1 _ _ l0_2 _ _ l0_3 aP aQ aR aS _ ?side1 ?side2 ?side3 ?side4 ?side5 ?side6 A2.o).mono ?_
  (case side1 => exact (Kd.C_below aW.o HB.o))
  (case side2 => exact aT.o)
  (case side3 => exact (Kd.C_below aX.o HB.o))
  (case side4 => exact aU.o)
  (case side5 => exact (Kd.C_below aY.o HB.o))
  (case side6 => exact aV.o)
  rintro e w9 ⟨aq, ar, au, rfl, aZ, a4, a5, hb⟩
  refine ⟨_, rfl, ?_⟩
  have n_ := a2 (Kd.R_lower aZ (qAs HB.o)) (a2 (Kd.S_lower a4 (qAs HB.o)) (a2 (Kd.R_lower a5 (qAs HB.o)) (a2 (qAt (g := aE) (o := .cells #[.string a0_0, .slice aF l0_1.length aI, .slice aG l0_2.length aJ, .slice aH l0_3.length aK] 26 (0, 0)) aA.o hb) (am (qAp HB.o hb)))))
  clear aA HB
  obtain ⟨aB, aC, aD, aA, HB⟩ := n_
  (try clear hb)
  (skip)
  (skip)
  (skip)
  (try clear aZ)
  (try clear a4)
  (try clear a5)
  obtain ⟨a6, ad, aj⟩ := Kd.R_slice aB.o
  (subst aj)
  obtain ⟨a7, ae, ak⟩ := Kd.S_slice aC.o
  (subst ak)
  obtain ⟨a8, af, al⟩ := Kd.R_slice aD.o
  (subst al)
  refine hK.o _ _ ⟨(qAa aA.o 0).trans rfl, (qAa aA.o 1).trans rfl, (qAa aA.o 2).trans rfl, (qAa aA.o 3).trans rfl⟩ (fun hHeld => ?_)
  clear hK K
  refine qBc (a' := ?_) ?_ ?_
  rotate_left
  ·show Act.put _ (some 4) _ = _
   simp only [Act.put, List.setIfInBounds_toArray, List.set_cons_zero, List.set_cons_succ]
   rfl
  refine one_ (i := 2) (N := some 5) #[true, true, true, true, false, false, false, false, false, false] rfl rfl (qBq HT_.o (by kernel_rfl)) (by decide) (fun K hK => ?_)
  refine qCP Tryz.func9 (by kernel_rfl) rfl #[.agg #[.string aP, .slice a6 aQ.length ad, .slice a7 aR.length ae, .slice a8 aS.length af]] (by rfl) rfl rfl (by (try simp only [List.map_toArray, List.map_cons, List.map_nil]); (rfl)) ?_
  with_reducible refine (qA2.calls k aP _ _ aQ _ _ aR _ _ aS aN _ ?side1 ?side2 ?side3 ?side4 ?side5 ?side6 A3.o).mono ?_
  (case side1 => exact (Kd.R_reads' aB.o).2.2)
  (case side2 => exact (Kd.R_reads' aB.o).2.1)
  (case side3 => exact (Kd.S_reads' aC.o).2.2)
  (case side4 => exact (Kd.S_reads' aC.o).2.1)
  (case side5 => exact (Kd.R_reads' aD.o).2.2)
  (case side6 => exact (Kd.R_reads' aD.o).2.1)
  rintro e bA ⟨rfl, hb⟩
  refine ⟨_, rfl, ?_⟩
  have n_ := a2 (Kd.R_below aB.o hb) (a2 (Kd.S_below aC.o hb) (a2 (Kd.R_below aD.o hb) (a2 (qAt (g := aE) (o := .cells #[.string a0_0, .slice aF l0_1.length aI, .slice aG l0_2.length aJ, .slice aH l0_3.length aK] 26 (0, 0)) aA.o hb) (am (qAp HB.o hb)))))
  clear aB aC aD aA HB
  obtain ⟨aB, aC, aD, aA, HB⟩ := n_
  (try clear hb)
  (skip)
  (skip)
  (skip)
  refine hK.o _ _ ⟨(qAa aA.o 0).trans rfl, (qAa aA.o 1).trans rfl, (qAa aA.o 2).trans rfl, (qAa aA.o 3).trans rfl⟩ (fun hHeld => ?_)
  clear hK K
  refine qBc (a' := ?_) ?_ ?_
  rotate_left
  ·show Act.put _ (some 5) _ = _
   simp only [Act.put, List.setIfInBounds_toArray, List.set_cons_zero, List.set_cons_succ]
   rfl
  refine one_ (i := 4) (N := some 7) #[true, true, true, true, true, false, false, false, false, false] rfl rfl (qBq HT_.o (by kernel_rfl)) (by decide) (fun K hK => ?_)
  refine qCP Tryz.func11 (by kernel_rfl) rfl #[.agg #[.string a0_0, .slice aF l0_1.length aI, .slice aG l0_2.length aJ, .slice aH l0_3.length aK]] (by rfl) rfl rfl (by (try simp only [List.map_toArray, List.map_cons, List.map_nil]); (rfl)) ?_
  with_reducible refine (qAm.calls k a0_0 _ _ l0_1 _ _ l0_2 _ _ l0_3 aM _ ?side1 ?side2 ?side3 ?side4 ?side5 ?side6 A4.o).mono ?_
  (case side1 => exact (Kd.C_below aW.o HB.o))
  (case side2 => exact aT.o)
  (case side3 => exact (Kd.C_below aX.o HB.o))
  (case side4 => exact aU.o)
  (case side5 => exact (Kd.C_below aY.o HB.o))
  (case side6 => exact aV.o)
  rintro e bB ⟨rfl, hb⟩
  refine ⟨_, rfl, ?_⟩
  have n_ := a2 (Kd.R_below aB.o hb) (a2 (Kd.S_below aC.o hb) (a2 (Kd.R_below aD.o hb) (a2 (qAt (g := aE) (o := .cells #[.string a0_0, .slice aF l0_1.length aI, .slice aG l0_2.length aJ, .slice aH l0_3.length aK] 26 (0, 0)) aA.o hb) (am (qAp HB.o hb)))))
  clear aB aC aD aA HB
  obtain ⟨aB, aC, aD, aA, HB⟩ := n_
  (try clear hb)
  (skip)
  (skip)
  (skip)
  refine hK.o _ _ ⟨(qAa aA.o 0).trans rfl, (qAa aA.o 1).trans rfl, (qAa aA.o 2).trans rfl, (qAa aA.o 3).trans rfl⟩ (fun hHeld => ?_)
  clear hK K
  refine qBc (a' := ?_) ?_ ?_
  rotate_left
  ·show Act.put _ (some 7) _ = _
   simp only [Act.put, List.setIfInBounds_toArray, List.set_cons_zero, List.set_cons_succ]
   rfl
  refine pu 5 8 #[true, true, true, true, true, true, false, false, false, false] (qAK HT_.o (by kernel_rfl)) ?_
  refine pu 6 9 #[true, true, true, true, true, true, true, false, false, false] (qAK HT_.o (by kernel_rfl)) ?_
  refine one_ (i := 7) (N := some 10) #[true, true, true, true, true, true, true, true, false, false] rfl rfl (qBq HT_.o (by kernel_rfl)) (by decide) (fun K hK => ?_)
  refine qCP Tryz.func12 (by kernel_rfl) rfl #[] (by rfl) rfl rfl (by (try simp only [List.map_toArray, List.map_nil]); (done)) ?_
  with_reducible refine (qBe.calls k  aO _ A6.o).mono ?_
  rintro e bC ⟨rfl, hb⟩
  refine ⟨_, rfl, ?_⟩
  have n_ := a2 (qAt (g := aE) (o := .cells #[.string a0_0, .slice aF l0_1.length aI, .slice aG l0_2.length aJ, .slice aH l0_3.length aK] 26 (0, 0)) aA.o hb) (am (qAp HB.o hb))
  clear aB aC aD aA HB
  obtain ⟨aA, HB⟩ := n_
  (try clear hb)
  (skip)
  (skip)
  (skip)
  refine hK.o _ _ ⟨(qAa aA.o 0).trans rfl, (qAa aA.o 1).trans rfl, (qAa aA.o 2).trans rfl, (qAa aA.o 3).trans rfl⟩ (fun hHeld => ?_)
  clear hK K
  refine qBc (a' := ?_) ?_ ?_
  rotate_left
  ·show Act.put _ (some 10) _ = _
   simp only [Act.put, List.setIfInBounds_toArray, List.set_cons_zero, List.set_cons_succ]
   rfl
  refine pu 8 11 #[true, true, true, true, true, true, true, true, true, false] (qAK HT_.o (by kernel_rfl)) ?_
  refine pu 9 2 #[true, true, true, true, true, true, true, true, true, true] (qAK HT_.o (by kernel_rfl)) ?_
  refine done_ (qC8 HT_.o (by kernel_rfl)) ?_
  try go_wp2
  go_ret
  exact ⟨by rfl, by exact HB.o⟩
 ·rw [if_neg c5] at H
  have ac : (aN == aM) = false := bf c5
  obtain rfl := Option.some.inj H
  go_enter Tryz.func3, Tryz.ntmps3
  try go_wp2_with ((with_reducible refine qAI (N := 1) rfl ?_); refine bx 1 #[.string a0_0, .slice aF l0_1.length aI, .slice aG l0_2.length aJ, .slice aH l0_3.length aK] 26 ?_; intro aE hg az hbox hb; have n_ := a2 (qAp HB.o hb) (am (hbox)); clear HB; obtain ⟨HB, aA⟩ := n_; clear hb hbox hg)
  have n_ := a2 (qAh aA.o) (am (qAk HB.o))
  clear aA HB
  obtain ⟨aA, HB⟩ := n_
  refine qDz (n := 10) (S := fun w' => w'.cell? ⟨aE, 0, none⟩ = some (.string a0_0) ∧ w'.cell? ⟨aE, 1, none⟩ = some (.slice aF l0_1.length aI) ∧ w'.cell? ⟨aE, 2, none⟩ = some (.slice aG l0_2.length aJ) ∧ w'.cell? ⟨aE, 3, none⟩ = some (.slice aH l0_3.length aK)) (ds := []) #[false, false, false, false, false, false, false, false, false, false] (by kernel_rfl) rfl rfl ⟨(qAa aA.o 0).trans rfl, (qAa aA.o 1).trans rfl, (qAa aA.o 2).trans rfl, (qAa aA.o 3).trans rfl⟩ (fun hHeld => ?_); refine qBM foundrylaw15_ObjectRights.tab1 foundrylaw15_ObjectRights.bits1 (fun HT_ HW_ => ?_)
  generalize az.drew = bD at aA HB hHeld ⊢
  refine qBR (i := 0) (N := some 3) (v := ?_) (a' := ?_) #[true, false, false, false, false, false, false, false, false, false] rfl rfl (qBg HT_.o HW_.o (by kernel_rfl)) (fun _ _ _ h => h) (Or.inl ⟨by rfl, ?_⟩) hHeld ?_ ?_
  rotate_left
  ·rintro w' ⟨s0, s1, s2, s3⟩
   go_simp
   with_reducible rfl
  rotate_left
  ·simp only [Act.put, List.setIfInBounds_toArray, List.set_cons_zero, List.set_cons_succ]
   rfl
  refine qBR (i := 3) (N := some 6) (v := ?_) (a' := ?_) #[true, false, false, true, false, false, false, false, false, false] rfl rfl (qBg HT_.o HW_.o (by kernel_rfl)) (fun _ _ _ h => h) (Or.inl ⟨by rfl, ?_⟩) hHeld ?_ ?_
  rotate_left
  ·rintro w' ⟨s0, s1, s2, s3⟩
   go_simp
   with_reducible rfl
  rotate_left
  ·simp only [Act.put, List.setIfInBounds_toArray, List.set_cons_zero, List.set_cons_succ]
   rfl
  refine one_ (i := 1) (N := some 4) #[true, true, false, true, false, false, false, false, false, false] rfl rfl (qBq HT_.o (by kernel_rfl)) (by decide) (fun K hK => ?_)
  refine qCP Tryz.func10 (by kernel_rfl) rfl #[.agg #[.string a0_0, .slice aF l0_1.length aI, .slice aG l0_2.length aJ, .slice aH l0_3.length aK]] (by rfl) rfl rfl (by (try simp only [List.map_toArray, List.map_cons, List.map_nil]); (rfl)) ?_
  with_reducible refine (qAr.calls k a0_0 _ _ l0_1 _ _ l0_2 _ _ l0_3 aP aQ aR aS _ ?side1 ?side2 ?side3 ?side4 ?side5 ?side6 A2.o).mono ?_
  (case side1 => exact (Kd.C_below aW.o HB.o))
  (case side2 => exact aT.o)
  (case side3 => exact (Kd.C_below aX.o HB.o))
  (case side4 => exact aU.o)
  (case side5 => exact (Kd.C_below aY.o HB.o))
  (case side6 => exact aV.o)
  rintro e bE ⟨aq, ar, au, rfl, aZ, a4, a5, hb⟩
  refine ⟨_, rfl, ?_⟩
  have n_ := a2 (Kd.R_lower aZ (qAs HB.o)) (a2 (Kd.S_lower a4 (qAs HB.o)) (a2 (Kd.R_lower a5 (qAs HB.o)) (a2 (qAt (g := aE) (o := .cells #[.string a0_0, .slice aF l0_1.length aI, .slice aG l0_2.length aJ, .slice aH l0_3.length aK] 26 (0, 0)) aA.o hb) (am (qAp HB.o hb)))))
  clear aA HB
  obtain ⟨aB, aC, aD, aA, HB⟩ := n_
  (try clear hb)
  (skip)
  (skip)
  (skip)
  (try clear aZ)
  (try clear a4)
  (try clear a5)
  obtain ⟨a9, ag, an⟩ := Kd.R_slice aB.o
  (subst an)
  obtain ⟨aa, ah, ao⟩ := Kd.S_slice aC.o
  (subst ao)
  obtain ⟨ab, ai, ap⟩ := Kd.R_slice aD.o
  (subst ap)
  refine hK.o _ _ ⟨(qAa aA.o 0).trans rfl, (qAa aA.o 1).trans rfl, (qAa aA.o 2).trans rfl, (qAa aA.o 3).trans rfl⟩ (fun hHeld => ?_)
  clear hK K
  refine qBc (a' := ?_) ?_ ?_
  rotate_left
  ·show Act.put _ (some 4) _ = _
   simp only [Act.put, List.setIfInBounds_toArray, List.set_cons_zero, List.set_cons_succ]
   rfl
  refine one_ (i := 2) (N := some 5) #[true, true, true, true, false, false, false, false, false, false] rfl rfl (qBq HT_.o (by kernel_rfl)) (by decide) (fun K hK => ?_)
  refine qCP Tryz.func9 (by kernel_rfl) rfl #[.agg #[.string aP, .slice a9 aQ.length ag, .slice aa aR.length ah, .slice ab aS.length ai]] (by rfl) rfl rfl (by (try simp only [List.map_toArray, List.map_cons, List.map_nil]); (rfl)) ?_
  with_reducible refine (qA2.calls k aP _ _ aQ _ _ aR _ _ aS aN _ ?side1 ?side2 ?side3 ?side4 ?side5 ?side6 A3.o).mono ?_
  (case side1 => exact (Kd.R_reads' aB.o).2.2)
  (case side2 => exact (Kd.R_reads' aB.o).2.1)
  (case side3 => exact (Kd.S_reads' aC.o).2.2)
  (case side4 => exact (Kd.S_reads' aC.o).2.1)
  (case side5 => exact (Kd.R_reads' aD.o).2.2)
  (case side6 => exact (Kd.R_reads' aD.o).2.1)
  rintro e bF ⟨rfl, hb⟩
  refine ⟨_, rfl, ?_⟩
  have n_ := a2 (Kd.R_below aB.o hb) (a2 (Kd.S_below aC.o hb) (a2 (Kd.R_below aD.o hb) (a2 (qAt (g := aE) (o := .cells #[.string a0_0, .slice aF l0_1.length aI, .slice aG l0_2.length aJ, .slice aH l0_3.length aK] 26 (0, 0)) aA.o hb) (am (qAp HB.o hb)))))
  clear aB aC aD aA HB
  obtain ⟨aB, aC, aD, aA, HB⟩ := n_
  (try clear hb)
  (skip)
  (skip)
  (skip)
  refine hK.o _ _ ⟨(qAa aA.o 0).trans rfl, (qAa aA.o 1).trans rfl, (qAa aA.o 2).trans rfl, (qAa aA.o 3).trans rfl⟩ (fun hHeld => ?_)
  clear hK K
  refine qBc (a' := ?_) ?_ ?_
  rotate_left
  ·show Act.put _ (some 5) _ = _
   simp only [Act.put, List.setIfInBounds_toArray, List.set_cons_zero, List.set_cons_succ]
   rfl
  refine one_ (i := 4) (N := some 7) #[true, true, true, true, true, false, false, false, false, false] rfl rfl (qBq HT_.o (by kernel_rfl)) (by decide) (fun K hK => ?_)
  refine qCP Tryz.func11 (by kernel_rfl) rfl #[.agg #[.string a0_0, .slice aF l0_1.length aI, .slice aG l0_2.length aJ, .slice aH l0_3.length aK]] (by rfl) rfl rfl (by (try simp only [List.map_toArray, List.map_cons, List.map_nil]); (rfl)) ?_
  with_reducible refine (qAm.calls k a0_0 _ _ l0_1 _ _ l0_2 _ _ l0_3 aM _ ?side1 ?side2 ?side3 ?side4 ?side5 ?side6 A4.o).mono ?_
  (case side1 => exact (Kd.C_below aW.o HB.o))
  (case side2 => exact aT.o)
  (case side3 => exact (Kd.C_below aX.o HB.o))
  (case side4 => exact aU.o)
  (case side5 => exact (Kd.C_below aY.o HB.o))
  (case side6 => exact aV.o)
  rintro e bG ⟨rfl, hb⟩
  refine ⟨_, rfl, ?_⟩
  have n_ := a2 (qAt (g := aE) (o := .cells #[.string a0_0, .slice aF l0_1.length aI, .slice aG l0_2.length aJ, .slice aH l0_3.length aK] 26 (0, 0)) aA.o hb) (am (qAp HB.o hb))
  clear aB aC aD aA HB
  obtain ⟨aA, HB⟩ := n_
  (try clear hb)
  (skip)
  (skip)
  (skip)
  refine hK.o _ _ ⟨(qAa aA.o 0).trans rfl, (qAa aA.o 1).trans rfl, (qAa aA.o 2).trans rfl, (qAa aA.o 3).trans rfl⟩ (fun hHeld => ?_)
  clear hK K
  refine qBc (a' := ?_) ?_ ?_
  rotate_left
  ·show Act.put _ (some 7) _ = _
   simp only [Act.put, List.setIfInBounds_toArray, List.set_cons_zero, List.set_cons_succ]
   rfl
  refine pu 5 8 #[true, true, true, true, true, true, false, false, false, false] (qAK HT_.o (by kernel_rfl)) ?_
  refine pu 6 9 #[true, true, true, true, true, true, true, false, false, false] (qAK HT_.o (by kernel_rfl)) ?_
  refine qBv (i := 7) (N := some 10) (v := undef) (a' := ?_) #[true, true, true, true, true, true, true, true, false, false] rfl rfl (qAK HT_.o (by kernel_rfl)) (fun _ _ _ h => h) (Or.inr ⟨by rfl, rfl⟩) ?_ ?_
  rotate_left
  ·simp only [Act.put, List.setIfInBounds_toArray, List.set_cons_zero, List.set_cons_succ]
   rfl
  refine pu 8 11 #[true, true, true, true, true, true, true, true, true, false] (qAK HT_.o (by kernel_rfl)) ?_
  refine pu 9 2 #[true, true, true, true, true, true, true, true, true, true] (qAK HT_.o (by kernel_rfl)) ?_
  refine done_ (qC8 HT_.o (by kernel_rfl)) ?_
  try go_wp2
  go_ret
  exact ⟨by rfl, by exact HB.o⟩
end Q
end
section
namespace Q
open Go.RowKit PA PC PB
open Val Ins
def ofRI (x : S172) : S144 := ⟨x.f0, x.f1, x.f2⟩
def ofRV (x : S95) : S85 := ⟨x.f0, x.f1⟩
def ofRN (x : S100) : S92 := ⟨x.f0, ⟨⟨x.f1.f0.f0, x.f1.f0.f1⟩, x.f1.f1, x.f1.f2.map ofRI⟩⟩
def ofRR (x : S103) : S104 := ⟨x.f0, x.f1, x.f2, x.f3, x.f4⟩
theorem to_ofI (l : List S172) : (l.map ofRI).map toRI = l := by rw [List.map_map]; exact List.map_id l
theorem to_ofV (l : List S95) : (l.map ofRV).map toRV = l := by rw [List.map_map]; exact List.map_id l
theorem to_ofR (l : List S103) : (l.map ofRR).map toRR = l := by rw [List.map_map]; exact List.map_id l
theorem to_ofN (l : List S100) : (l.map ofRN).map toRN = l := by
 rw [List.map_map]
 have : (toRN ∘ ofRN) = id := by
  funext x
  show toRN (ofRN x) = x
  unfold toRN ofRN
  simp only [to_ofI]
 rw [this, List.map_id]
theorem ownfn_ev (a : List Int) (b : Int) (c : List Int) (d : List S172) (ha : a.length ≤ 1048576) (hc : c.length ≤ 1048576) (hd : d.length ≤ 1048576) : Ev (fun k => qAy.f k a b c d) (a, b, c, d.map ofRI) := by
 have loop : ∀ (n : Nat) (i : Int) (acc : List S144), 0 ≤ i → (d.length : Int) - i = n → acc.length ≤ i → Ev (fun k => qAy.l0 k i a b c d a b c acc) (a, b, c, acc ++ (d.drop i.toNat).map ofRI) := by
  intro n
  induction n with
  | zero =>
   intro i acc h0 hn hacc
   rw [List.drop_eq_nil_of_le (by omega), List.map_nil, List.append_nil]
   refine Ev.step (f := fun _ => some (a, b, c, acc)) (fun k => ?_) (Ev.now _)
   simp only [qAy.l0]
   rw [if_neg (by omega)]
  | succ n ih =>
   intro i acc h0 hn hacc
   have hw := qBr (n := d.length) h0 (by omega) (by omega)
   have hrec := ih (i + 1) (acc ++ [ofRI (qAC d i)]) (by omega) (by omega) (by rw [List.length_append]; simp; omega)
   rw [qAS d z172 i h0 (by omega), List.map_cons]
   rw [List.append_assoc] at hrec
   refine Ev.step (fun k => ?_) hrec
   simp only [qAy.l0]
   rw [if_pos (by omega), if_pos h0, if_pos (by omega), hw]
   rfl
 have h := loop d.length 0 [] (by omega) (by omega) (by simp)
 refine Ev.congr (fun k => ?_) h
 unfold qAy.f
 rw [Option.bind_some, if_pos (by simp; omega), Option.bind_some, if_pos (by simp; omega), List.nil_append, List.nil_append]
section
variable (m : ByteArray) (vs : List S95) (fs : List S100) (rs : List S103)
theorem own2_ev (hr : rs.length ≤ 1048576) (V : List S85) (F : List S92) : ∀ (n : Nat) (i : Int) (acc : List S104), 0 ≤ i → (rs.length : Int) - i = n → acc.length ≤ i → Ev (fun k => qAr.l2 k i m vs fs rs m V F acc) (m, V, F, acc ++ (rs.drop i.toNat).map ofRR) := by
 intro n
 induction n with
 | zero =>
  intro i acc h0 hn hacc
  rw [List.drop_eq_nil_of_le (by omega), List.map_nil, List.append_nil]
  refine Ev.step (f := fun _ => some (m, V, F, acc)) (fun k => ?_) (Ev.now _)
  simp only [qAr.l2]
  rw [if_neg (by omega)]
 | succ n ih =>
  intro i acc h0 hn hacc
  have hw := qBr (n := rs.length) h0 (by omega) (by omega)
  have hrec := ih (i + 1) (acc ++ [ofRR (qAw rs i)]) (by omega) (by omega) (by rw [List.length_append]; simp; omega)
  rw [qAS rs z103 i h0 (by omega), List.map_cons]
  rw [List.append_assoc] at hrec
  refine Ev.step (fun k => ?_) hrec
  simp only [qAr.l2]
  rw [if_pos (by omega), if_pos h0, if_pos (by omega), hw]
  rfl
theorem own1_ev (hr : rs.length ≤ 1048576) (hf : fs.length ≤ 1048576) (hx : ∀ x ∈ fs, x.f1.f0.f0.length ≤ 1048576 ∧ x.f1.f1.length ≤ 1048576 ∧ x.f1.f2.length ≤ 1048576) (V : List S85) : ∀ (n : Nat) (i : Int) (acc : List S92), 0 ≤ i → (fs.length : Int) - i = n → acc.length ≤ i → Ev (fun k => qAr.l1 k i m vs fs rs m V acc) (m, V, acc ++ (fs.drop i.toNat).map ofRN, rs.map ofRR) := by
 intro n
 induction n with
 | zero =>
  intro i acc h0 hn hacc
  rw [List.drop_eq_nil_of_le (by omega), List.map_nil, List.append_nil]
  have h := own2_ev m vs fs rs hr V acc rs.length 0 [] (by omega) (by omega) (by simp)
  refine Ev.step (fun k => ?_) h
  simp only [qAr.l1]
  rw [if_neg (by omega)]
 | succ n ih =>
  intro i acc h0 hn hacc
  have hw := qBr (n := fs.length) h0 (by omega) (by omega)
  have hmem : qA3 fs i ∈ fs := qC3 fs z100 i h0 (by omega)
  obtain ⟨x0, x1, x2⟩ := hx _ hmem
  have hrec := ih (i + 1) (acc ++ [ofRN (qA3 fs i)]) (by omega) (by omega) (by rw [List.length_append]; simp; omega)
  rw [qAS fs z100 i h0 (by omega), List.map_cons]
  rw [List.append_assoc] at hrec
  refine Ev.step (f := fun k => (qAy.f k ((qA3 fs i).f1.f0.f0) ((qA3 fs i).f1.f0.f1) ((qA3 fs i).f1.f1) ((qA3 fs i).f1.f2)).bind fun t => qAr.l1 k (i + 1) m vs fs rs m V (acc ++ [⟨(qA3 fs i).f0, ⟨⟨t.1, t.2.1⟩, t.2.2.1, t.2.2.2⟩⟩])) (fun k => ?_) (Ev.bind (ownfn_ev _ _ _ _ x0 x1 x2) hrec)
  simp only [qAr.l1]
  rw [if_pos (by omega), if_pos h0, hw]
  have : acc.length < 1466015503701 := by omega
  simp only [if_pos this]
theorem own0_ev (hr : rs.length ≤ 1048576) (hf : fs.length ≤ 1048576) (hv : vs.length ≤ 1048576) (hx : ∀ x ∈ fs, x.f1.f0.f0.length ≤ 1048576 ∧ x.f1.f1.length ≤ 1048576 ∧ x.f1.f2.length ≤ 1048576) : ∀ (n : Nat) (i : Int) (acc : List S85), 0 ≤ i → (vs.length : Int) - i = n → acc.length ≤ i → Ev (fun k => qAr.l0 k i m vs fs rs m acc) (m, acc ++ (vs.drop i.toNat).map ofRV, fs.map ofRN, rs.map ofRR) := by
 intro n
 induction n with
 | zero =>
  intro i acc h0 hn hacc
  rw [List.drop_eq_nil_of_le (by omega), List.map_nil, List.append_nil]
  have h := own1_ev m vs fs rs hr hf hx acc fs.length 0 [] (by omega) (by omega) (by simp)
  refine Ev.step (fun k => ?_) h
  simp only [qAr.l0]
  rw [if_neg (by omega)]
 | succ n ih =>
  intro i acc h0 hn hacc
  have hw := qBr (n := vs.length) h0 (by omega) (by omega)
  have hrec := ih (i + 1) (acc ++ [ofRV (qBu vs i)]) (by omega) (by omega) (by rw [List.length_append]; simp; omega)
  rw [qAS vs z95 i h0 (by omega), List.map_cons]
  rw [List.append_assoc] at hrec
  refine Ev.step (fun k => ?_) hrec
  simp only [qAr.l0]
  rw [if_pos (by omega), if_pos h0, if_pos (by omega), hw]
  rfl
theorem own_ev (hr : rs.length ≤ 1048576) (hf : fs.length ≤ 1048576) (hv : vs.length ≤ 1048576) (hx : ∀ x ∈ fs, x.f1.f0.f0.length ≤ 1048576 ∧ x.f1.f1.length ≤ 1048576 ∧ x.f1.f2.length ≤ 1048576) : Ev (fun k => qAr.f k m vs fs rs) (m, vs.map ofRV, fs.map ofRN, rs.map ofRR) :=
 own0_ev m vs fs rs hr hf hv hx vs.length 0 [] (by omega) (by omega) (by simp)
theorem u64_bounds {n : Int} (h : (Lit.int .u64 n).wf = true) : 0 ≤ n ∧ n < 18446744073709551616 := by
 simp [Lit.wf, IntKind.min, IntKind.max, IntKind.bits, IntKind.signed] at h
 omega
theorem own_good (g : qBB 1048576 ⟨m, vs, fs, rs⟩) : qEr m (vs.map ofRV) (fs.map ofRN) (rs.map ofRR) := by
 obtain ⟨gm, ⟨gvl, gv⟩, ⟨gfl, gf⟩, ⟨grl, gr⟩⟩ := g
 simp only at gm gvl gv gfl gf grl gr
 refine ⟨?_, ?_, ?_, ?_, ?_, ?_, ?_⟩
 ·show m.size ≤ _; omega
 ·rw [List.length_map]; omega
 ·intro x hx
  obtain ⟨y, hy, rfl⟩ := List.mem_map.1 hx
  obtain ⟨h0, h1, h2⟩ := gv y hy
  have := u64_bounds h2
  refine ⟨?_, this.1, this.2⟩
  show y.f0.size ≤ _; omega
 ·rw [List.length_map]; omega
 ·intro x hx
  obtain ⟨y, hy, rfl⟩ := List.mem_map.1 hx
  obtain ⟨h0, ⟨⟨h1, _⟩, _⟩, ⟨h2, _⟩, ⟨h3, h4⟩⟩ := gf y hy
  refine ⟨?_, ?_, ?_, ?_, ?_⟩
  ·show y.f0.size ≤ _; omega
  ·show y.f1.f0.f0.length ≤ _; omega
  ·show y.f1.f1.length ≤ _; omega
  ·show (y.f1.f2.map ofRI).length ≤ _; rw [List.length_map]; omega
  show (y.f1.f2.map ofRI).all u64S = true
  rw [List.all_eq_true]
  intro z hz
  obtain ⟨u, hu, rfl⟩ := List.mem_map.1 hz
  exact decide_eq_true (u64_bounds (h4 u hu).2.2.2)
 ·rw [List.length_map]; omega
 intro x hx
 obtain ⟨y, hy, rfl⟩ := List.mem_map.1 hx
 obtain ⟨_, _, _, h3, h4⟩ := gr y hy
 exact ⟨by show y.f3.size ≤ _; omega, by show y.f4.size ≤ _; omega⟩
theorem rights_ev (g : qBB 1048576 ⟨m, vs, fs, rs⟩) : Ev (fun k => foundrylaw15_ObjectRights.f k m vs fs rs) true := by
 have hg := own_good m vs fs rs g
 have hx : ∀ x ∈ fs, x.f1.f0.f0.length ≤ 1048576 ∧ x.f1.f1.length ≤ 1048576 ∧ x.f1.f2.length ≤ 1048576 := fun x hx => by
  obtain ⟨_, ⟨⟨h1, _⟩, _⟩, ⟨h2, _⟩, ⟨h3, _⟩⟩ := g.2.2.1.2 x hx
  exact ⟨h1, h2, h3⟩
 have ho := own_ev m vs fs rs g.2.2.2.1 g.2.2.1.1 g.2.1.1 hx
 have h1 := right_ev m (vs.map ofRV) (fs.map ofRN) (rs.map ofRR) hg
 have h2 := rright_ev m (vs.map ofRV) (fs.map ofRN) (rs.map ofRR) hg
 rw [to_ofV, to_ofN, to_ofR] at h2
 unfold foundrylaw15_ObjectRights.f
 refine Ev.bind ho (Ev.bind h1 (Ev.bind h2 ?_))
 simp only [if_true]
 exact Ev.bind alive_ev (Ev.now _)
end
end Q
end
section
namespace objectRights
open Go.ChangeShapes Go.WideShapes Go.ChangeAt Go.RowKit
theorem own : ownKnob Tryz.prog.godebug = none := by kernel_rfl
theorem laidOut : laidOutB Tryz.prog = true := by kernel_rfl
theorem lifted (os : Os) (started : os.Started) (H : Type) (enc : TypeId × Value → H) (F : Stop.Interp) :
  ReturnsInHanded {} Tryz.checked os 3 .any ((Rows.OpenSpec.upto Rows.objectRightsSpec).pre6 enc Tryz.prog Tryz.f3 Rows.objectRightsUptoRow.domain false) (((Rows.OpenSpec.upto Rows.objectRightsSpec).at F).post enc Tryz.prog Tryz.f3 false true false false) := by
 refine returnsInHanded_of_cond (C := Tryz.checked) (s := Rows.OpenSpec.upto Rows.objectRightsSpec) (k := Rows.uptoSmall) rfl own started (by kernel_rfl) Tryz.func3
  (OpenSpec.witness (enc := enc) (C := Tryz.checked) (s := Rows.OpenSpec.upto Rows.objectRightsSpec) (k := Rows.uptoSmall) rfl false ⟨#[], #[.agg #[.string ⟨#[]⟩, .slice none 0 0, .slice none 0 0, .slice none 0 0]], []⟩ 8 (by kernel_rfl) (by kernel_rfl) (by kernel_rfl)
    (x := ([.agg [.lit (.string []), .nil, .nil, .nil]], [], [])) (by kernel_rfl) rfl (by kernel_rfl)) ?_
 intro W base args ds gs before hval0 hW hcnd hk0 _
 have hval : ∀ (j : Nat) t v, Tryz.f3.params[j]? = some t → args[j]? = some v → Value.okWide Tryz.prog W .any base t v := hval0
 have hW' := hW
 obtain ⟨p, q, hA0, hV, rfl, hfz, hnd⟩ := hW
 have hA : DataW.TrodAll enc Tryz.prog W 0 (fun _ => true) true Tryz.f3.params.toList args.toList ds p := hA0
 rw [Tryz.params3] at hA hval
 obtain ⟨v0, vs0, d0, ds0, p0, q0, hargs, rfl, rfl, h0, r0⟩ := trodAll_cons hA
 obtain ⟨rfl, rfl, rfl⟩ := trodAll_nil r0
 obtain rfl : args = #[v0] := by cases args; simp_all
 obtain ⟨rfl, rfl⟩ := trodVars_none hV
 have hk : Rows.uptoBulkAll ([d0] ++ []) ≤ 1048576 := of_decide_eq_true hk0
 simp only [List.append_nil, Rows.uptoBulkAll] at hk
 have k0 := h0
 have lt0 : ∀ x ∈ p0, x.block < W.heap.size := by obtain ⟨m, hm⟩ := k0; exact DataW.trod_lt m _ _ _ hm
 obtain ⟨cs, rfl, hsz⟩ := okWide_struct Tryz.underlying26 (hval 0 26 v0 rfl rfl)
 obtain ⟨fuel, hf⟩ := h0
 obtain ⟨x, hK, hG⟩ := Q.opens_foundryref15_Object W 1048576 H enc 0 (fun _ => true) true fuel _ _ hf (by show Rows.uptoBulk d0 ≤ _; omega)
 obtain ⟨A1, c1, A2, c2, A3, c3, he, l1, g1, l2, g2, l3, g3⟩ := Q.k26_open hK
 obtain rfl : cs = #[.string x.f0, .slice A1 x.f1.length c1, .slice A2 x.f2.length c2, .slice A3 x.f3.length c3] := Array.ext' he
 obtain ⟨k, hkk⟩ := (Q.rights_ev x.f0 x.f1 x.f2 x.f3 hG).rounds
 clear hA0 hval0 hf hK
 refine (Q.foundrylaw15_ObjectRights.calls k x.f0 A1 c1 x.f1 A2 c2 x.f2 A3 c3 x.f3 true W g1 l1 g2 l2 g3 l3 hkk).mono fun e W' ⟨he', bel⟩ => ?_
 subst he'
 exact ⟨_, rfl, _, _, _, [], _, [], hW', trodAll_mk1 (shut_bool Tryz.underlying4 _), (trodAll_cons_mk (Below.trod laidOut (by kernel_rfl) (of_decide_eq_true (by kernel_rfl)) k0 bel lt0) trodAll_mk0), rfl, bel.frame _, fun h => by cases h⟩
theorem over : Rows.objectRightsUptoRow.holds Tryz.pinned (Rows.OpenSpec.upto Rows.objectRightsSpec) :=
 OpenClaim.holds_of_cond 3 Tryz.f3 rfl rfl rfl rfl rfl rfl rfl ⟨rfl, rfl, rfl, rfl, rfl⟩ rfl rfl rfl rfl rfl (by kernel_rfl) Tryz.func3 (by kernel_rfl)
  (of_decide_eq_true (by kernel_rfl)) (by unfold Func.isWrapper; first | (rw [if_pos (by decide +kernel)]; kernel_rfl) | (rw [if_neg (by decide +kernel)]; exact ⟨rfl, rfl⟩))
  (fun os started H enc _ F => lifted os started H enc F)
theorem proved : Rows.ObjectRightsUptoSaid := over
end objectRights

theorem objectRights_holds : Rows.ObjectRightsUptoSaid := objectRights.proved
end
end Go.Proofs.YtfjpnjbinbhcfaaGreat
