/- There and back; unlike objects have unlike bytes. Part 6 of 8. -/
import Derived.Test.YtfjpnjbinbhcfaaK5
set_option maxHeartbeats 8000000
set_option maxRecDepth 100000
set_option linter.unusedVariables false
set_option linter.unusedSimpArgs false
namespace Go.Proofs.Ytfjpnjbinbhcfaa
section
namespace Q
open Go.RowKit PA PB PC
attribute [local go_sem] qBd min2_int qBn min_two max_three min_three max_four min_four
mutual
def qAh.l0 : Nat → Int → ByteArray → List (S94) → List (S100) → List (S102) → ByteArray → List (S71) → Option (ByteArray × (List (S71)) × (List (S80)) × (List (S82)))
 | 0, _, _, _, _, _, _, _ => none
 | k + 1, x4, ae, a5, aX, aY, aa, a8 => if x4 < (a5.length : Int) then (if 0 ≤ x4 then (if a8.length < 4398046511104 then (qAh.l0 k (wrap64 (x4 + 1)) ae a5 aX aY aa (a8 ++ [(⟨(qB0 a5 x4).f0, (⟨(qB0 a5 x4).f1.f0, (qB0 a5 x4).f1.f1⟩ : S69)⟩ : S71)])) else (none)) else (none)) else (qAh.l1 k 0 ae a5 aX aY aa a8 ([] : List (S80)))
def qAh.l1 : Nat → Int → ByteArray → List (S94) → List (S100) → List (S102) → ByteArray → List (S71) → List (S80) → Option (ByteArray × (List (S71)) × (List (S80)) × (List (S82)))
 | 0, _, _, _, _, _, _, _, _ => none
 | k + 1, x5, ae, a5, aX, aY, aa, a8, an => if x5 < (aX.length : Int) then (if 0 ≤ x5 then ((qAm.f k ((qAM aX x5).f1.f0.f0) ((qAM aX x5).f1.f0.f1) ((qAM aX x5).f1.f1) ((qAM aX x5).f1.f2)).bind fun b3 => (if an.length < 1466015503701 then (qAh.l1 k (wrap64 (x5 + 1)) ae a5 aX aY aa a8 (an ++ [(⟨(qAM aX x5).f0, (⟨(⟨b3.1, b3.2.1⟩ : S74), b3.2.2.1, b3.2.2.2⟩ : S77)⟩ : S80)])) else (none))) else (none)) else (qAh.l2 k 0 ae a5 aX aY aa a8 an ([] : List (S82)))
def qAh.l2 : Nat → Int → ByteArray → List (S94) → List (S100) → List (S102) → ByteArray → List (S71) → List (S80) → List (S82) → Option (ByteArray × (List (S71)) × (List (S80)) × (List (S82)))
 | 0, _, _, _, _, _, _, _, _, _ => none
 | k + 1, x6, ae, a5, aX, aY, aa, a8, an, bM => if x6 < (aY.length : Int) then (if 0 ≤ x6 then (if bM.length < 2513169434916 then (qAh.l2 k (wrap64 (x6 + 1)) ae a5 aX aY aa a8 an (bM ++ [(⟨(qAI aY x6).f0, (qAI aY x6).f1, (qAI aY x6).f2, (qAI aY x6).f3, (qAI aY x6).f4⟩ : S82)])) else (none)) else (none)) else (some (aa, a8, an, bM))
end
def qAh.f (k : Nat) (a0_0 : ByteArray) (l0_1 : List (S94)) (l0_2 : List (S100)) (l0_3 : List (S102)) : Option (ByteArray × (List (S71)) × (List (S80)) × (List (S82))) := qAh.l0 k 0 a0_0 l0_1 l0_2 l0_3 a0_0 ([] : List (S71))
def qAh.T5 : Bool × List (List Nat × List Nat) := (true, [([], []), ([0], [0]), ([], []), ([2], [2]), ([], []), ([3, 4], [3, 4]), ([5], [5]), ([6], [6]), ([], []), ([8], [8]), ([], []), ([9, 10], [9, 10]), ([11], [11]), ([12], [12]), ([7, 13], [7, 13]), ([14], [14]), ([1, 15], [1, 15]), ([0, 1, 2, 3, 4, 5, 6, 7, 8, 9, 10, 11, 12, 13, 14, 15, 16], []), ([17, 16, 16, 0, 1, 2, 3, 4, 5, 6, 7, 8, 9, 10, 11, 12, 13, 14, 15, 16], [16, 17])])
def qAh.B5 : List Nat := [0, 1, 0, 4, 0, 28, 60, 124, 0, 256, 0, 1792, 3840, 7936, 16380, 32764, 65535, 131071, 262143]
theorem qAh.tab5 : rtab .any (opsOf Try.f10 5) = qAh.T5 := by kernel_rfl
theorem qAh.bits5 : qBQ qAh.T5.2 qAh.B5 = true := by kernel_rfl
def qAh.T9 : Bool × List (List Nat × List Nat) := (true, [([], []), ([0], [0]), ([], []), ([2], [2]), ([], []), ([3, 4], [3, 4]), ([5], [5]), ([6], [6]), ([], []), ([8], [8]), ([], []), ([9, 10], [9, 10]), ([11], [11]), ([12], [12]), ([13], [13]), ([7, 14], [7, 14]), ([15], [15]), ([1, 16, 14], [1, 16]), ([0, 1, 2, 3, 4, 5, 6, 7, 8, 9, 10, 11, 12, 13, 14, 15, 16, 17], []), ([18, 17, 17, 0, 1, 2, 3, 4, 5, 6, 7, 8, 9, 10, 11, 12, 13, 14, 15, 16, 17], [17, 18])])
def qAh.B9 : List Nat := [0, 1, 0, 4, 0, 28, 60, 124, 0, 256, 0, 1792, 3840, 7936, 16128, 32764, 65532, 131071, 262143, 524287]
theorem qAh.tab9 : rtab .any (opsOf Try.f10 9) = qAh.T9 := by kernel_rfl
theorem qAh.bits9 : qBQ qAh.T9.2 qAh.B9 = true := by kernel_rfl
theorem qAh.calls (k : Nat) (a0_0 : ByteArray) (bF : Option Addr) (bB : Nat) (l0_1 : List (S94)) (bG : Option Addr) (bC : Nat) (l0_2 : List (S100)) (bE : Option Addr) (bD : Nat) (l0_3 : List (S102)) (r1 : ByteArray) (r2 : List (S71)) (r3 : List (S80)) (r4 : List (S82)) (w : World) (hr0_1 : Kd.C k94 w bF l0_1.length l0_1) (hc0_1 : l0_1.length ≤ bB) (hr0_2 : Kd.C k100 w bG l0_2.length l0_2) (hc0_2 : l0_2.length ≤ bC) (hr0_3 : Kd.C k102 w bE l0_3.length l0_3) (hc0_3 : l0_3.length ≤ bD) (h : qAh.f k a0_0 l0_1 l0_2 l0_3 = some (r1, r2, r3, r4)) :
  Calls Try.prog 10 #[.agg #[.string a0_0, .slice bF l0_1.length bB, .slice bG l0_2.length bC, .slice bE l0_3.length bD]] w fun e w' => ∃ v1_ v2_ v3_ : Value, e = .returned (.agg #[.string r1, v1_, v2_, v3_]) ∧ Kd.R k71 71 w' w.heap.size (fun _ => True) v1_ r2 ∧ Kd.S k80 80 w' w.heap.size (fun _ => True) v2_ r3 ∧ Kd.R k82 82 w' w.heap.size (fun _ => True) v3_ r4 ∧ Below w.heap.size w w' := by
 have cd := am hr0_1
 clear hr0_1 hc0_1
 have ce := am hr0_2
 clear hr0_2 hc0_2
 have dP := am hr0_3
 clear hr0_3 hc0_3
 have HB := am (Below.refl w.heap.size w)
 have H : (qAh.l0 k 0 a0_0 l0_1 l0_2 l0_3 a0_0 ([] : List (S71))) = some (r1, r2, r3, r4) := h
 clear h
 have H' := am H
 clear H
 go_enter Try.func10, Try.ntmps10
 go_wp2_with (first | ((with_reducible refine qAJ (N := 1) rfl ?_); refine bx 1 #[.string a0_0, .slice bF l0_1.length bB, .slice bG l0_2.length bC, .slice bE l0_3.length bD] 39 ?_; intro a7 hg w2 hbox hb; have n_ := a2 (qAj HB.o hb) (am (hbox)); clear HB; obtain ⟨HB, aA⟩ := n_; clear hb hbox hg) | ((with_reducible refine qAJ (N := 2) rfl ?_); refine bx 2 #[.string ⟨#[]⟩, .slice none 0 0, .slice none 0 0, .slice none 0 0] 27 ?_; intro aW hg w3 hbox hb; have n_ := a2 (qAd aA.o hb) (a2 (qAj HB.o hb) (a2 (hbox) (am (by rw [hg]; exact (qAe HB.o) : w.heap.size ≤ aW)))); clear aA HB; obtain ⟨aA, HB, aG, dO⟩ := n_; clear hb hbox hg; obtain ⟨cj, ck, cl, cm⟩ := c4_ w3 aA.o; obtain ⟨cr, ct, cu, cv⟩ := z4_ aA.o) | ((with_reducible refine qAJ (N := 3) rfl ?_); refine bx 3 #[.string ⟨#[]⟩, .slice none 0 0, .slice none 0 0, .slice none 0 0] 27 ?_; intro aU hg w6 hbox hb; have n_ := a2 (qAd aA.o hb) (a2 (qAd aG.o hb) (a2 (qAj HB.o hb) (a2 (hbox) (a2 (by rw [hg]; exact (qAe HB.o) : w.heap.size ≤ aU) (a2 (by rw [hg]; exact Nat.ne_of_lt (qAw aA.o) : a7 ≠ aU) (a2 (by rw [hg]; exact Nat.ne_of_lt (qAw aG.o) : aW ≠ aU) (am (by rw [hg]; exact Nat.ne_of_gt (qAw aG.o) : aU ≠ aW)))))))); clear aA aG HB; obtain ⟨aA, aG, HB, aC, bW, a6, a4, bg⟩ := n_; clear hb hbox hg; obtain ⟨cn, co, cp, cq⟩ := c4_ w6 aC.o; obtain ⟨cw, cx, cy, cz⟩ := z4_ aC.o))
 go_loopg [4] k (fun kq v4 w' => ∃ (aR : Int) (aH : List (S71)) (aT : Value), v4 = .int .i64 aR ∧ qAa (qAh.l0 kq aR a0_0 l0_1 l0_2 l0_3 a0_0 aH = some (r1, r2, r3, r4)) ∧ qAa (kq ≤ k) ∧ qAa (Kd.R k71 71 w' w.heap.size (fun _ => True) aT aH) ∧ qAa (w'.heap[a7]? = some (.cells #[.string a0_0, (.slice bF l0_1.length bB), (.slice bG l0_2.length bC), (.slice bE l0_3.length bD)] 39 (0, 0))) ∧ qAa (w'.heap[aW]? = some (.cells #[.string ⟨#[]⟩, (.slice none 0 0), (.slice none 0 0), (.slice none 0 0)] 27 (0, 0))) ∧ qAa (w'.heap[aU]? = some (.cells #[.string a0_0, aT, (.slice none 0 0), (.slice none 0 0)] 27 (0, 0))) ∧ qAa (Below w.heap.size w w'))
 case atStart => exact ⟨(0), ([] : List (S71)), (.slice none 0 0), (by rfl), H', ⟨Nat.le_refl _⟩, ⟨by (exact Kd.R_nil _ _ _ _ _)⟩, ⟨by refine qAg ?_ a6.o _; refine qAg ?_ a6.o _; refine qAg ?_ a6.o _; refine qAg ?_ a6.o _; exact aA.o⟩, ⟨by refine qAg ?_ a4.o _; refine qAg ?_ a4.o _; refine qAg ?_ a4.o _; refine qAg ?_ a4.o _; exact aG.o⟩, ⟨by refine qAo (cs := #[.string a0_0, .slice none 0 0, .slice none 0 0, .slice none 0 0]) ?_ 3 _ rfl; refine qAo (cs := #[.string a0_0, .slice none 0 0, .slice none 0 0, .slice none 0 0]) ?_ 2 _ rfl; refine qAo (cs := #[.string a0_0, .slice none 0 0, .slice none 0 0, .slice none 0 0]) ?_ 1 _ rfl; refine qAo (cs := #[.string ⟨#[]⟩, .slice none 0 0, .slice none 0 0, .slice none 0 0]) ?_ 0 _ rfl; exact aC.o⟩, ⟨by repeat (with_reducible first | exact HB.o | refine qAq ?_ bW.o)⟩⟩
 case round =>
  clear H'
  obtain ⟨aR, aH, aT, rfl, HA, dG, aD, aA, aG, aC, HB⟩ := hrel
  cases gk with
  | zero => exact absurd HA.o (by simp [qAh.l0])
  | succ k1 =>
   have H := HA.o
   clear HA
   simp only [qAh.l0] at H
   by_cases c10 : aR < (l0_1.length : Int)
   ·rw [if_pos c10] at H
    replace c10 := d1 c10
    obtain ⟨d8, H⟩ := gd H
    replace d8 := d1 d8
    obtain ⟨d9, H⟩ := gd H
    have dQ := am d9
    clear d9
    obtain ⟨cZ, bo⟩ : ∃ y_ : List (S71), y_ = (aH ++ [(⟨(qB0 l0_1 aR).f0, (⟨(qB0 l0_1 aR).f1.f0, (qB0 l0_1 aR).f1.f1⟩ : S69)⟩ : S71)]) := ⟨_, rfl⟩
    replace H : (qAh.l0 k1 (wrap64 (aR + 1)) a0_0 l0_1 l0_2 l0_3 a0_0 cZ) = some (r1, r2, r3, r4) := by (rw [bo]; with_reducible exact H)
    have dT := am bo
    clear bo
    have H' := am H
    clear H
    obtain ⟨-, de⟩ := c2_ wr aA.o
    try go_wp2
    have n_ := a2 (Kd.R_drew aD.o) (a2 (qAU aA.o) (a2 (qAU aG.o) (a2 (qAU aC.o) (am (qBi HB.o)))))
    clear aD aA aG aC HB
    obtain ⟨aD, aA, aG, aC, HB⟩ := n_
    have dA : 0 ≤ aR := od (by assumption)
    have dD : aR < (l0_1.length : Int) := od (by assumption)
    obtain ⟨ad, eQ, ao, ap, aq⟩ := at_T94 cd.o aR dA dD
    have hw385_2 := aq
    have hw385_1 := ap
    have hw385_0 := ao
    cases eQ
    replace ao := (HB.o.cell (World.block_lt_of_cell? w _ ao)).trans ao
    replace ap := (HB.o.cell (World.block_lt_of_cell? w _ ap)).trans ap
    replace aq := (HB.o.cell (World.block_lt_of_cell? w _ aq)).trans aq
    replace dA := eq_true dA
    replace dD := eq_true dD
    have e7 : 0 ≤ aR := od (by assumption)
    have e9 : aR < (l0_1.length : Int) := od (by assumption)
    obtain ⟨dW, eR, ar, au, av⟩ := at_T94 cd.o aR e7 e9
    have hw386_2 := av
    have hw386_1 := au
    have hw386_0 := ar
    obtain rfl : ad = dW := (by injection eR)
    replace ar := (HB.o.cell (World.block_lt_of_cell? w _ ar)).trans ar
    replace au := (HB.o.cell (World.block_lt_of_cell? w _ au)).trans au
    replace av := (HB.o.cell (World.block_lt_of_cell? w _ av)).trans av
    refine qCY (n := 19) (S := fun w' => w'.cell? ⟨aU, 0, none⟩ = some (.string a0_0) ∧ w'.cell? ⟨aU, 1, none⟩ = some (aT) ∧ w'.cell? ⟨aU, 2, none⟩ = some (.slice none 0 0) ∧ w'.cell? ⟨aU, 3, none⟩ = some (.slice none 0 0) ∧ w'.cell? ⟨a7, 0, none⟩ = some (.string a0_0) ∧ w'.cell? ⟨a7, 1, none⟩ = some (.slice (some ad) l0_1.length bB) ∧ w'.cell? ⟨a7, 2, none⟩ = some (.slice bG l0_2.length bC) ∧ w'.cell? ⟨a7, 3, none⟩ = some (.slice bE l0_3.length bD) ∧ w'.cell? (ad.add ((aR).toNat * 3)) = some (.string ((qB0 l0_1 aR).f0)) ∧ w'.cell? ⟨(ad.add ((aR).toNat * 3)).block, (ad.add ((aR).toNat * 3)).off + 1, none⟩ = some (.int .i64 ((qB0 l0_1 aR).f1.f0)) ∧ w'.cell? ⟨(ad.add ((aR).toNat * 3)).block, (ad.add ((aR).toNat * 3)).off + 2, none⟩ = some (.int .u64 ((qB0 l0_1 aR).f1.f1)) ∧ w'.cell? (ad.add ((aR).toNat * 3)) = some (.string ((qB0 l0_1 aR).f0)) ∧ w'.cell? ⟨(ad.add ((aR).toNat * 3)).block, (ad.add ((aR).toNat * 3)).off + 1, none⟩ = some (.int .i64 ((qB0 l0_1 aR).f1.f0)) ∧ w'.cell? ⟨(ad.add ((aR).toNat * 3)).block, (ad.add ((aR).toNat * 3)).off + 2, none⟩ = some (.int .u64 ((qB0 l0_1 aR).f1.f1))) (ds := [18]) (mK 19 0) (by kernel_rfl) rfl rfl ⟨(qAb aC.o 0).trans rfl, (qAb aC.o 1).trans rfl, (qAb aC.o 2).trans rfl, (qAb aC.o 3).trans rfl, (qAb aA.o 0).trans rfl, (qAb aA.o 1).trans rfl, (qAb aA.o 2).trans rfl, (qAb aA.o 3).trans rfl, ((HB.o.cell (World.block_lt_of_cell? w _ hw385_0)).trans hw385_0), ((HB.o.cell (World.block_lt_of_cell? w _ hw385_1)).trans hw385_1), ((HB.o.cell (World.block_lt_of_cell? w _ hw385_2)).trans hw385_2), ((HB.o.cell (World.block_lt_of_cell? w _ hw386_0)).trans hw386_0), ((HB.o.cell (World.block_lt_of_cell? w _ hw386_1)).trans hw386_1), ((HB.o.cell (World.block_lt_of_cell? w _ hw386_2)).trans hw386_2)⟩ (fun hHeld => ?_); refine qB8 qAh.tab5 qAh.bits5 (fun HT_ HW_ => ?_)
    generalize wr.drew = er at aD aA aG aC HB ao ap aq ar au av hHeld ⊢
    refine pu 0 18 (mK 19 1) (qA8 HT_.o (by kernel_rfl)) ?_
    refine pu 2 20 (mK 19 5) (qA8 HT_.o (by kernel_rfl)) ?_
    refine pu 4 22 (mK 19 21) (qA8 HT_.o (by kernel_rfl)) ?_
    refine pu 8 26 (mK 19 277) (qA8 HT_.o (by kernel_rfl)) ?_
    refine pu 10 28 (mK 19 1301) (qA8 HT_.o (by kernel_rfl)) ?_
    refine tk 1 19 (mK 19 1303) (qAQ HT_.o HW_.o (by kernel_rfl)) hHeld ?_
    refine tk 3 21 (mK 19 1311) (qAQ HT_.o HW_.o (by kernel_rfl)) hHeld ?_
    refine pu 5 23 (mK 19 1343) (qA8 HT_.o (by kernel_rfl)) ?_
    refine pu 6 24 (mK 19 1407) (qA8 HT_.o (by kernel_rfl)) ?_
    refine tk 7 25 (mK 19 1535) (qAQ HT_.o HW_.o (by kernel_rfl)) hHeld ?_
    refine tk 9 27 (mK 19 2047) (qAQ HT_.o HW_.o (by kernel_rfl)) hHeld ?_
    refine pu 11 29 (mK 19 4095) (qA8 HT_.o (by kernel_rfl)) ?_
    refine pu 12 30 (mK 19 8191) (qA8 HT_.o (by kernel_rfl)) ?_
    refine tk 13 31 (mK 19 16383) (qAQ HT_.o HW_.o (by kernel_rfl)) hHeld ?_
    refine pu 14 32 (mK 19 32767) (qA8 HT_.o (by kernel_rfl)) ?_
    refine one_ (i := 15) (N := some 33) (mK 19 65535) rfl rfl (qBf HT_.o (by kernel_rfl)) (by decide) (fun K hK => ?_)
    refine value_ (w1 := ?_) (v := ?_) (by rfl) rfl ?_ ?_
    rotate_left 2
    ·go_simp
     constructor
     ·rfl
     rfl
    refine hK.o _ _ ⟨(qAb (qAE aC.o _) 0).trans rfl, (qAb (qAE aC.o _) 1).trans rfl, (qAb (qAE aC.o _) 2).trans rfl, (qAb (qAE aC.o _) 3).trans rfl, (qAb (qAE aA.o _) 0).trans rfl, (qAb (qAE aA.o _) 1).trans rfl, (qAb (qAE aA.o _) 2).trans rfl, (qAb (qAE aA.o _) 3).trans rfl, (World.cell?_alloc_lt _ _ _ (World.block_lt_of_cell? _ _ ((HB.o.cell (World.block_lt_of_cell? w _ hw385_0)).trans hw385_0))).trans ((HB.o.cell (World.block_lt_of_cell? w _ hw385_0)).trans hw385_0), (World.cell?_alloc_lt _ _ _ (World.block_lt_of_cell? _ _ ((HB.o.cell (World.block_lt_of_cell? w _ hw385_1)).trans hw385_1))).trans ((HB.o.cell (World.block_lt_of_cell? w _ hw385_1)).trans hw385_1), (World.cell?_alloc_lt _ _ _ (World.block_lt_of_cell? _ _ ((HB.o.cell (World.block_lt_of_cell? w _ hw385_2)).trans hw385_2))).trans ((HB.o.cell (World.block_lt_of_cell? w _ hw385_2)).trans hw385_2), (World.cell?_alloc_lt _ _ _ (World.block_lt_of_cell? _ _ ((HB.o.cell (World.block_lt_of_cell? w _ hw386_0)).trans hw386_0))).trans ((HB.o.cell (World.block_lt_of_cell? w _ hw386_0)).trans hw386_0), (World.cell?_alloc_lt _ _ _ (World.block_lt_of_cell? _ _ ((HB.o.cell (World.block_lt_of_cell? w _ hw386_1)).trans hw386_1))).trans ((HB.o.cell (World.block_lt_of_cell? w _ hw386_1)).trans hw386_1), (World.cell?_alloc_lt _ _ _ (World.block_lt_of_cell? _ _ ((HB.o.cell (World.block_lt_of_cell? w _ hw386_2)).trans hw386_2))).trans ((HB.o.cell (World.block_lt_of_cell? w _ hw386_2)).trans hw386_2)⟩ (fun hHeld => ?_)
    clear hK K
    refine nm ?_
    refine one_ (i := 16) (N := some 34) (mK 19 131071) rfl rfl (qBf HT_.o (by kernel_rfl)) (by decide) (fun K hK => ?_)
    refine Kd.R_append_step k71 (w0 := w) w.heap.size (by rfl) (.tmp 19) (.tmp 33) 23 71 (.agg #[(.string ⟨#[]⟩), (.int .i64 0), (.int .u64 0)]) 32 rfl Try.underlying23 info71 rfl (by decide) (by omega) aT aH (⟨(qB0 l0_1 aR).f0, (⟨(qB0 l0_1 aR).f1.f0, (qB0 l0_1 aR).f1.f1⟩ : S69)⟩ : S71) [.string ((qB0 l0_1 aR).f0), .int .i64 ((qB0 l0_1 aR).f1.f0), .int .u64 ((qB0 l0_1 aR).f1.f1)] (fun _ => True) (fun _ => False) rfl rfl ?aP (fun _ hk => hk.elim) ?aF ?aO ?aB ?aS ?aL ?_
    (case aP => exact k71_mkM _ _ _ (⟨(qB0 l0_1 aR).f0, (⟨(qB0 l0_1 aR).f1.f0, (qB0 l0_1 aR).f1.f1⟩ : S69)⟩ : S71))
    (case aB => exact HB.o)
    (case aF => exact (fun _ _ => trivial))
    (case aO => exact aD.o)
    (case aS => exact (qAe HB.o))
    (case aL => have := dQ.o; omega)
    intro ek es ho hb hg d6
    rw [← dT.o] at ho
    have n_ := a2 (qAH (g := a7) (o := .cells #[.string a0_0, .slice (some ad) l0_1.length bB, .slice bG l0_2.length bC, .slice bE l0_3.length bD] 39 (0, 0)) aA.o hg (Kd.R_ne aD.o aA.o (by decide))) (a2 (qAH (g := aW) (o := .cells #[.string ⟨#[]⟩, .slice none 0 0, .slice none 0 0, .slice none 0 0] 27 (0, 0)) aG.o hg (Kd.R_ne aD.o aG.o (by decide))) (a2 (qAH (g := aU) (o := .cells #[.string a0_0, aT, .slice none 0 0, .slice none 0 0] 27 (0, 0)) aC.o hg (Kd.R_ne aD.o aC.o (by decide))) (a2 (hb) (am (ho)))))
    clear aA aG aC HB aD
    obtain ⟨aA, aG, aC, HB, c1⟩ := n_
    clear ho hb hg d6
    obtain ⟨dK, d2, eV⟩ := Kd.R_slice c1.o
    (subst eV)
    refine hK.o _ _ ⟨(qAb aC.o 0).trans rfl, (qAb aC.o 1).trans rfl, (qAb aC.o 2).trans rfl, (qAb aC.o 3).trans rfl, (qAb aA.o 0).trans rfl, (qAb aA.o 1).trans rfl, (qAb aA.o 2).trans rfl, (qAb aA.o 3).trans rfl, ((HB.o.cell (World.block_lt_of_cell? w _ hw385_0)).trans hw385_0), ((HB.o.cell (World.block_lt_of_cell? w _ hw385_1)).trans hw385_1), ((HB.o.cell (World.block_lt_of_cell? w _ hw385_2)).trans hw385_2), ((HB.o.cell (World.block_lt_of_cell? w _ hw386_0)).trans hw386_0), ((HB.o.cell (World.block_lt_of_cell? w _ hw386_1)).trans hw386_1), ((HB.o.cell (World.block_lt_of_cell? w _ hw386_2)).trans hw386_2)⟩ (fun hHeld => ?_)
    clear hK K
    refine nm ?_
    refine pu 17 35 (mK 19 262143) (qA8 HT_.o (by kernel_rfl)) ?_
    refine last_ (i := 18) (N := none) (mK 19 524287) rfl rfl (qBf HT_.o (by kernel_rfl)) (by decide) (fun K hK => ?_)
    have hfs19 := qAr aC.o 1
    refine skip_ (w1 := ?_) (by rfl) rfl ?_ ?_
    rotate_left
    ·go_simp
     rfl
    refine hK.o _ _ ?_
    clear hK K
    refine qE1 (qCk HT_.o (by kernel_rfl)) ?_
    try go_wp2
    go_roundg k1
    case measure => have := dG.o; omega
    case rel => exact ⟨(wrap64 (aR + 1)), (cZ), (.slice dK cZ.length d2), (by rfl), H', ⟨by have := dG.o; omega⟩, ⟨by exact Kd.R_mono (Kd.R_far (p := ⟨aU, 1, none⟩) (Kd.R_types c1.o aC.o (by decide)) (fun _ hk => hk.2) (.slice dK cZ.length d2)) (fun _ hk => trivial)⟩, ⟨by refine qAg ?_ a6.o _; exact aA.o⟩, ⟨by refine qAg ?_ a4.o _; exact aG.o⟩, ⟨by refine qAo (cs := #[.string a0_0, aT, .slice none 0 0, .slice none 0 0]) ?_ 1 _ rfl; exact aC.o⟩, ⟨by repeat (with_reducible first | exact HB.o | refine qAq ?_ bW.o)⟩⟩
   rw [if_neg c10] at H
   replace c10 := d0 c10
   have H' := am H
   clear H
   obtain ⟨cG, cH, cI, cJ⟩ := c4_ wr aA.o
   obtain ⟨cO, cP, cQ, cR⟩ := z4_ aA.o
   go_wp2
   go_loopg [5] k1 (fun kq v5 w' => ∃ (aJ : Int) (aI : List (S80)) (aQ : Value), v5 = .int .i64 aJ ∧ qAa (qAh.l1 kq aJ a0_0 l0_1 l0_2 l0_3 a0_0 aH aI = some (r1, r2, r3, r4)) ∧ qAa (kq ≤ k1) ∧ qAa (Kd.R k71 71 w' w.heap.size (fun _ => True) aT aH) ∧ qAa (Kd.S k80 80 w' w.heap.size (fun _ => True) aQ aI) ∧ qAa (w'.heap[a7]? = some (.cells #[.string a0_0, (.slice bF l0_1.length bB), (.slice bG l0_2.length bC), (.slice bE l0_3.length bD)] 39 (0, 0))) ∧ qAa (w'.heap[aW]? = some (.cells #[.string ⟨#[]⟩, (.slice none 0 0), (.slice none 0 0), (.slice none 0 0)] 27 (0, 0))) ∧ qAa (w'.heap[aU]? = some (.cells #[.string a0_0, aT, aQ, (.slice none 0 0)] 27 (0, 0))) ∧ qAa (Below w.heap.size w w'))
   case atStart => exact ⟨(0), ([] : List (S80)), (.slice none 0 0), (by rfl), H', ⟨Nat.le_refl _⟩, ⟨by exact aD.o⟩, ⟨by (exact Kd.S_nil _ _ _ _ _)⟩, ⟨by exact aA.o⟩, ⟨by exact aG.o⟩, ⟨by exact aC.o⟩, ⟨by exact HB.o⟩⟩
   case round =>
    clear H'
    obtain ⟨aJ, aI, aQ, rfl, HA, d7, aD, aE, aA, aG, aC, HB⟩ := hrel
    cases gk with
    | zero => exact absurd HA.o (by simp [qAh.l1])
    | succ k2 =>
     have H := HA.o
     clear HA
     simp only [qAh.l1] at H
     by_cases dH : aJ < (l0_2.length : Int)
     rotate_left
     ·rw [if_neg dH] at H
      replace dH := d0 dH
      have H' := am H
      clear H
      obtain ⟨cK, cL, cM, cN⟩ := c4_ wr aA.o
      obtain ⟨cS, cT, cU, cV⟩ := z4_ aA.o
      go_wp2
      go_loopg [6] k2 (fun kq v6 w' => ∃ (aK : Int) (aV : List (S82)) (al : Value), v6 = .int .i64 aK ∧ qAa (qAh.l2 kq aK a0_0 l0_1 l0_2 l0_3 a0_0 aH aI aV = some (r1, r2, r3, r4)) ∧ qAa (kq ≤ k2) ∧ qAa (Kd.R k71 71 w' w.heap.size (fun _ => True) aT aH) ∧ qAa (Kd.S k80 80 w' w.heap.size (fun _ => True) aQ aI) ∧ qAa (Kd.R k82 82 w' w.heap.size (fun _ => True) al aV) ∧ qAa (w'.heap[a7]? = some (.cells #[.string a0_0, (.slice bF l0_1.length bB), (.slice bG l0_2.length bC), (.slice bE l0_3.length bD)] 39 (0, 0))) ∧ qAa (w'.heap[aW]? = some (.cells #[.string ⟨#[]⟩, (.slice none 0 0), (.slice none 0 0), (.slice none 0 0)] 27 (0, 0))) ∧ qAa (w'.heap[aU]? = some (.cells #[.string a0_0, aT, aQ, al] 27 (0, 0))) ∧ qAa (Below w.heap.size w w'))
      case atStart => exact ⟨(0), ([] : List (S82)), (.slice none 0 0), (by rfl), H', ⟨Nat.le_refl _⟩, ⟨by exact aD.o⟩, ⟨by exact aE.o⟩, ⟨by (exact Kd.R_nil _ _ _ _ _)⟩, ⟨by exact aA.o⟩, ⟨by exact aG.o⟩, ⟨by exact aC.o⟩, ⟨by exact HB.o⟩⟩
      case round =>
       clear H'
       obtain ⟨aK, aV, al, rfl, HA, eb, aD, aE, aM, aA, aG, aC, HB⟩ := hrel
       cases gk with
       | zero => exact absurd HA.o (by simp [qAh.l2])
       | succ k3 =>
        have H := HA.o
        clear HA
        simp only [qAh.l2] at H
        by_cases dI : aK < (l0_3.length : Int)
        rotate_left
        ·rw [if_neg dI] at H
         replace dI := d0 dI
         simp only [Option.some.injEq, Prod.mk.injEq] at H
         obtain ⟨rfl, rfl, rfl, rfl⟩ := H
         obtain ⟨-, -, -, dp⟩ := c4_ wr aA.o
         obtain ⟨dq, dr, dt, du⟩ := c4_ wr aC.o
         obtain ⟨dv, dw, dx, dy⟩ := c4_ wr aG.o
         obtain ⟨eG, eH, eI, eJ⟩ := z4_ aG.o
         obtain ⟨bd, bh, e1⟩ := Kd.R_slice aD.o
         subst e1
         obtain ⟨bk, bl, e2⟩ := Kd.S_slice aE.o
         subst e2
         obtain ⟨bu, cF, e3⟩ := Kd.R_slice aM.o
         subst e3
         go_wp2
         refine bodyPost_ret (results_cell_row rfl _ _ aW 27 #[.string a0_0, .slice bd aH.length bh, .slice bk aI.length bl, .slice bu aV.length cF] (0, 0) _ rfl (by refine qAo (cs := #[.string a0_0, .slice bd aH.length bh, .slice bk aI.length bl, .slice none 0 0]) ?_ 3 _ rfl; refine qAo (cs := #[.string a0_0, .slice bd aH.length bh, .slice none 0 0, .slice none 0 0]) ?_ 2 _ rfl; refine qAo (cs := #[.string a0_0, .slice none 0 0, .slice none 0 0, .slice none 0 0]) ?_ 1 _ rfl; refine qAo (cs := #[.string ⟨#[]⟩, .slice none 0 0, .slice none 0 0, .slice none 0 0]) ?_ 0 _ rfl; exact aG.o) Try.underlying27 rfl (by kernel_rfl)) rfl ?_
         exact ⟨_, _, _, by rfl, by exact Kd.R_mono (Kd.R_far (p := ⟨aW, 3, none⟩) (Kd.R_far (p := ⟨aW, 2, none⟩) (Kd.R_far (p := ⟨aW, 1, none⟩) (Kd.R_far (p := ⟨aW, 0, none⟩) (Kd.R_types aD.o aG.o (by decide)) (fun _ hk => hk.2) (.string a0_0)) (fun _ hk => hk.2) (.slice bd aH.length bh)) (fun _ hk => hk.2) (.slice bk aI.length bl)) (fun _ hk => hk.2) (.slice bu aV.length cF)) (fun _ hk => trivial), by exact Kd.S_mono (Kd.S_far (p := ⟨aW, 3, none⟩) (Kd.S_far (p := ⟨aW, 2, none⟩) (Kd.S_far (p := ⟨aW, 1, none⟩) (Kd.S_far (p := ⟨aW, 0, none⟩) (Kd.S_types aE.o aG.o (by decide)) (fun _ hk => hk.2) (.string a0_0)) (fun _ hk => hk.2) (.slice bd aH.length bh)) (fun _ hk => hk.2) (.slice bk aI.length bl)) (fun _ hk => hk.2) (.slice bu aV.length cF)) (fun _ hk => trivial), by exact Kd.R_mono (Kd.R_far (p := ⟨aW, 3, none⟩) (Kd.R_far (p := ⟨aW, 2, none⟩) (Kd.R_far (p := ⟨aW, 1, none⟩) (Kd.R_far (p := ⟨aW, 0, none⟩) (Kd.R_types aM.o aG.o (by decide)) (fun _ hk => hk.2) (.string a0_0)) (fun _ hk => hk.2) (.slice bd aH.length bh)) (fun _ hk => hk.2) (.slice bk aI.length bl)) (fun _ hk => hk.2) (.slice bu aV.length cF)) (fun _ hk => trivial), by repeat (with_reducible first | exact HB.o | refine qAq ?_ dO.o)⟩
        rw [if_pos dI] at H
        replace dI := d1 dI
        obtain ⟨dc, H⟩ := gd H
        replace dc := d1 dc
        obtain ⟨dd, H⟩ := gd H
        have dS := am dd
        clear dd
        obtain ⟨bj, bq⟩ : ∃ y_ : List (S82), y_ = (aV ++ [(⟨(qAI l0_3 aK).f0, (qAI l0_3 aK).f1, (qAI l0_3 aK).f2, (qAI l0_3 aK).f3, (qAI l0_3 aK).f4⟩ : S82)]) := ⟨_, rfl⟩
        replace H : (qAh.l2 k3 (wrap64 (aK + 1)) a0_0 l0_1 l0_2 l0_3 a0_0 aH aI bj) = some (r1, r2, r3, r4) := by (rw [bq]; with_reducible exact H)
        have dV := am bq
        clear bq
        have H' := am H
        clear H
        obtain ⟨-, -, -, dg⟩ := c4_ wr aA.o
        have dC : 0 ≤ aK := od (by assumption)
        have dF : aK < (l0_3.length : Int) := od (by assumption)
        obtain ⟨dY, eU, bH, bI, bJ, bK, bL⟩ := at_T102 dP.o aK dC dF
        cases eU
        replace bH := (HB.o.cell (World.block_lt_of_cell? w _ bH)).trans bH
        replace bI := (HB.o.cell (World.block_lt_of_cell? w _ bI)).trans bI
        replace bJ := (HB.o.cell (World.block_lt_of_cell? w _ bJ)).trans bJ
        replace bK := (HB.o.cell (World.block_lt_of_cell? w _ bK)).trans bK
        replace bL := (HB.o.cell (World.block_lt_of_cell? w _ bL)).trans bL
        replace dC := eq_true dC
        replace dF := eq_true dF
        go_wp2_with (first | ((with_reducible refine qAJ (N := 7) rfl ?_); refine bx 7 #[.int .i64 0, .int .i64 0, .int .i64 0, .string ⟨#[]⟩, .string ⟨#[]⟩] 102 ?_; intro aN hg ei hbox hb; have n_ := a2 (Kd.R_below aD.o hb) (a2 (Kd.S_below aE.o hb) (a2 (Kd.R_below aM.o hb) (a2 (qAd aA.o hb) (a2 (qAd aG.o hb) (a2 (qAd aC.o hb) (a2 (qAj HB.o hb) (a2 (hbox) (a2 (by rw [hg]; exact (qAe HB.o) : w.heap.size ≤ aN) (a2 (by rw [hg]; exact Nat.ne_of_lt (qAw aA.o) : a7 ≠ aN) (a2 (by rw [hg]; exact Nat.ne_of_lt (qAw aG.o) : aW ≠ aN) (am (by rw [hg]; exact Nat.ne_of_lt (qAw aC.o) : aU ≠ aN)))))))))))); clear aD aE aM aA aG aC HB; obtain ⟨aD, aE, aM, aA, aG, aC, HB, bA, c0, ab, ac, a9⟩ := n_; clear hb hbox hg; have eg := a9.o; obtain ⟨dh, di, dj, dk, dl⟩ := c5_ ei bA.o; obtain ⟨dz, eA, eB, eC, eD⟩ := z5_ bA.o; have ef := bg.o; have eh := a4.o; obtain ⟨-, -, -, dm⟩ := c4_ ei aC.o; have eE := qAr aC.o 3) | ((with_reducible refine qBG (b := .append) (xs := #[.tmp 75, .tmp 87]) rfl ?_); at_builtin; refine Kd.R_append k82 (w0 := w) w.heap.size rfl (.tmp 75) (.tmp 87) 25 82 (.agg #[(.int .i64 0), (.int .i64 0), (.int .i64 0), (.string ⟨#[]⟩), (.string ⟨#[]⟩)]) 56 rfl Try.underlying25 info82 rfl (by decide) (by omega) al aV (⟨(qAI l0_3 aK).f0, (qAI l0_3 aK).f1, (qAI l0_3 aK).f2, (qAI l0_3 aK).f3, (qAI l0_3 aK).f4⟩ : S82) [.int .i64 ((qAI l0_3 aK).f0), .int .i64 ((qAI l0_3 aK).f1), .int .i64 ((qAI l0_3 aK).f2), .string ((qAI l0_3 aK).f3), .string ((qAI l0_3 aK).f4)] (fun _ => True) (fun _ => False) rfl (by (go_simp; done)) ?aP (fun _ hk => hk.elim) ?aF ?aO ?aB ?aS ?aL ?_; (case aP => exact k82_mkM _ _ _ (⟨(qAI l0_3 aK).f0, (qAI l0_3 aK).f1, (qAI l0_3 aK).f2, (qAI l0_3 aK).f3, (qAI l0_3 aK).f4⟩ : S82)); (case aB => exact (by repeat (with_reducible first | exact HB.o | refine qAq ?_ c0.o))); (case aF => exact (fun _ _ => trivial)); (case aO => exact (by exact Kd.R_mono (Kd.R_far (p := ⟨aN, 4, none⟩) (Kd.R_far (p := ⟨aN, 3, none⟩) (Kd.R_far (p := ⟨aN, 2, none⟩) (Kd.R_far (p := ⟨aN, 1, none⟩) (Kd.R_far (p := ⟨aN, 0, none⟩) (Kd.R_types aM.o bA.o (by decide)) (fun _ hk => hk.2) (.int .i64 ((qAI l0_3 aK).f0))) (fun _ hk => hk.2) (.int .i64 ((qAI l0_3 aK).f1))) (fun _ hk => hk.2) (.int .i64 ((qAI l0_3 aK).f2))) (fun _ hk => hk.2) (.string ((qAI l0_3 aK).f3))) (fun _ hk => hk.2) (.string ((qAI l0_3 aK).f4))) (fun _ hk => trivial))); (case aS => exact (qAe (by repeat (with_reducible first | exact HB.o | refine qAq ?_ c0.o)))); (case aL => have := dS.o; omega); intro ep eq ho hb hg d6; rw [← dV.o] at ho; have n_ := a2 (Kd.R_over' (by exact (Kd.R_mono (Kd.R_far (p := ⟨aN, 4, none⟩) (Kd.R_far (p := ⟨aN, 3, none⟩) (Kd.R_far (p := ⟨aN, 2, none⟩) (Kd.R_far (p := ⟨aN, 1, none⟩) (Kd.R_far (p := ⟨aN, 0, none⟩) (Kd.R_types aD.o bA.o (by decide)) (fun _ hk => hk.2) (.int .i64 ((qAI l0_3 aK).f0))) (fun _ hk => hk.2) (.int .i64 ((qAI l0_3 aK).f1))) (fun _ hk => hk.2) (.int .i64 ((qAI l0_3 aK).f2))) (fun _ hk => hk.2) (.string ((qAI l0_3 aK).f3))) (fun _ hk => hk.2) (.string ((qAI l0_3 aK).f4))) (fun _ h_ => h_.1))) (Kd.R_typed (by exact (Kd.R_mono (Kd.R_far (p := ⟨aN, 4, none⟩) (Kd.R_far (p := ⟨aN, 3, none⟩) (Kd.R_far (p := ⟨aN, 2, none⟩) (Kd.R_far (p := ⟨aN, 1, none⟩) (Kd.R_far (p := ⟨aN, 0, none⟩) (Kd.R_types aM.o bA.o (by decide)) (fun _ hk => hk.2) (.int .i64 ((qAI l0_3 aK).f0))) (fun _ hk => hk.2) (.int .i64 ((qAI l0_3 aK).f1))) (fun _ hk => hk.2) (.int .i64 ((qAI l0_3 aK).f2))) (fun _ hk => hk.2) (.string ((qAI l0_3 aK).f3))) (fun _ hk => hk.2) (.string ((qAI l0_3 aK).f4))) (fun _ h_ => h_.1)))) (by decide) hg) (a2 (Kd.S_over' (by exact (Kd.S_mono (Kd.S_far (p := ⟨aN, 4, none⟩) (Kd.S_far (p := ⟨aN, 3, none⟩) (Kd.S_far (p := ⟨aN, 2, none⟩) (Kd.S_far (p := ⟨aN, 1, none⟩) (Kd.S_far (p := ⟨aN, 0, none⟩) (Kd.S_types aE.o bA.o (by decide)) (fun _ hk => hk.2) (.int .i64 ((qAI l0_3 aK).f0))) (fun _ hk => hk.2) (.int .i64 ((qAI l0_3 aK).f1))) (fun _ hk => hk.2) (.int .i64 ((qAI l0_3 aK).f2))) (fun _ hk => hk.2) (.string ((qAI l0_3 aK).f3))) (fun _ hk => hk.2) (.string ((qAI l0_3 aK).f4))) (fun _ h_ => h_.1))) (Kd.R_typed (by exact (Kd.R_mono (Kd.R_far (p := ⟨aN, 4, none⟩) (Kd.R_far (p := ⟨aN, 3, none⟩) (Kd.R_far (p := ⟨aN, 2, none⟩) (Kd.R_far (p := ⟨aN, 1, none⟩) (Kd.R_far (p := ⟨aN, 0, none⟩) (Kd.R_types aM.o bA.o (by decide)) (fun _ hk => hk.2) (.int .i64 ((qAI l0_3 aK).f0))) (fun _ hk => hk.2) (.int .i64 ((qAI l0_3 aK).f1))) (fun _ hk => hk.2) (.int .i64 ((qAI l0_3 aK).f2))) (fun _ hk => hk.2) (.string ((qAI l0_3 aK).f3))) (fun _ hk => hk.2) (.string ((qAI l0_3 aK).f4))) (fun _ h_ => h_.1)))) (by decide) hg) (a2 (qAH (g := a7) (o := .cells #[.string a0_0, .slice bF l0_1.length bB, .slice bG l0_2.length bC, .slice (some dY) l0_3.length bD] 39 (0, 0)) (by refine qAg ?_ ab.o _; refine qAg ?_ ab.o _; refine qAg ?_ ab.o _; refine qAg ?_ ab.o _; refine qAg ?_ ab.o _; exact aA.o) hg (Kd.R_ne aM.o aA.o (by decide))) (a2 (qAH (g := aW) (o := .cells #[.string ⟨#[]⟩, .slice none 0 0, .slice none 0 0, .slice none 0 0] 27 (0, 0)) (by refine qAg ?_ ac.o _; refine qAg ?_ ac.o _; refine qAg ?_ ac.o _; refine qAg ?_ ac.o _; refine qAg ?_ ac.o _; exact aG.o) hg (Kd.R_ne aM.o aG.o (by decide))) (a2 (qAH (g := aU) (o := .cells #[.string a0_0, aT, aQ, al] 27 (0, 0)) (by refine qAg ?_ a9.o _; refine qAg ?_ a9.o _; refine qAg ?_ a9.o _; refine qAg ?_ a9.o _; refine qAg ?_ a9.o _; exact aC.o) hg (Kd.R_ne aM.o aC.o (by decide))) (a2 (hb) (am (ho))))))); clear aD aE aA aG aC bA HB aM; obtain ⟨aD, aE, aA, aG, aC, HB, cc⟩ := n_; clear ho hb hg d6; obtain ⟨bs, cE, e0⟩ := Kd.R_slice cc.o; subst e0; obtain ⟨-, -, -, dn⟩ := c4_ eq aC.o; have eF := qAr aC.o 3))
        go_roundg k3
        case measure => have := dG.o; have := d7.o; have := eb.o; omega
        case rel => exact ⟨(wrap64 (aK + 1)), (bj), (.slice bs bj.length cE), (by rfl), H', ⟨by have := dG.o; have := d7.o; have := eb.o; omega⟩, ⟨by exact Kd.R_mono (Kd.R_far (p := ⟨aU, 3, none⟩) (Kd.R_types aD.o aC.o (by decide)) (fun _ hk => hk.2) (.slice bs bj.length cE)) (fun _ hk => trivial)⟩, ⟨by exact Kd.S_mono (Kd.S_far (p := ⟨aU, 3, none⟩) (Kd.S_types aE.o aC.o (by decide)) (fun _ hk => hk.2) (.slice bs bj.length cE)) (fun _ hk => trivial)⟩, ⟨by exact Kd.R_mono (Kd.R_far (p := ⟨aU, 3, none⟩) (Kd.R_types cc.o aC.o (by decide)) (fun _ hk => hk.2) (.slice bs bj.length cE)) (fun _ hk => trivial)⟩, ⟨by refine qAg ?_ a6.o _; exact aA.o⟩, ⟨by refine qAg ?_ a4.o _; exact aG.o⟩, ⟨by refine qAo (cs := #[.string a0_0, aT, aQ, al]) ?_ 3 _ rfl; exact aC.o⟩, ⟨by repeat (with_reducible first | exact HB.o | refine qAq ?_ bW.o)⟩⟩
     rw [if_pos dH] at H
     replace dH := d1 dH
     obtain ⟨da, H⟩ := gd H
     replace da := d1 da
     replace H := bm H
     obtain ⟨⟨bT, bi, bU, bV⟩, dJ, H⟩ := H
     replace H : (if aI.length < 1466015503701 then (qAh.l1 k2 (wrap64 (aJ + 1)) a0_0 l0_1 l0_2 l0_3 a0_0 aH (aI ++ [(⟨(qAM l0_2 aJ).f0, (⟨(⟨bT, bi⟩ : S74), bU, bV⟩ : S77)⟩ : S80)])) else (none)) = some (r1, r2, r3, r4) := H
     have ej := am dJ
     clear dJ
     obtain ⟨db, H⟩ := gd H
     have dR := am db
     clear db
     obtain ⟨br, bp⟩ : ∃ y_ : List (S80), y_ = (aI ++ [(⟨(qAM l0_2 aJ).f0, (⟨(⟨bT, bi⟩ : S74), bU, bV⟩ : S77)⟩ : S80)]) := ⟨_, rfl⟩
     replace H : (qAh.l1 k2 (wrap64 (aJ + 1)) a0_0 l0_1 l0_2 l0_3 a0_0 aH br) = some (r1, r2, r3, r4) := by (rw [bp]; with_reducible exact H)
     have dU := am bp
     clear bp
     have H' := am H
     clear H
     obtain ⟨-, -, df⟩ := c3_ wr aA.o
     try go_wp2
     have n_ := a2 (Kd.R_drew aD.o) (a2 (Kd.S_drew aE.o) (a2 (qAU aA.o) (a2 (qAU aG.o) (a2 (qAU aC.o) (am (qBi HB.o))))))
     clear aD aE aA aG aC HB
     obtain ⟨aD, aE, aA, aG, aC, HB⟩ := n_
     have dB : 0 ≤ aJ := od (by assumption)
     have dE : aJ < (l0_2.length : Int) := od (by assumption)
     obtain ⟨aZ, bN, bQ, bO, bR, bP, bS, eS, aw, af, ax, ag, ah, cW, b4, cX, b5, cY, b6⟩ := at_T100 ce.o aJ dB dE
     have hw390_4 := ah
     have hw390_3 := ag
     have hw390_2 := ax
     have hw390_1 := af
     have hw390_0 := aw
     cases eS
     replace aw := (HB.o.cell (World.block_lt_of_cell? w _ aw)).trans aw
     replace af := (HB.o.cell (World.block_lt_of_cell? w _ af)).trans af
     replace ax := (HB.o.cell (World.block_lt_of_cell? w _ ax)).trans ax
     replace ag := (HB.o.cell (World.block_lt_of_cell? w _ ag)).trans ag
     replace ah := (HB.o.cell (World.block_lt_of_cell? w _ ah)).trans ah
     have cB := am b4
     clear b4 cW
     have cC := am b5
     clear b5 cX
     have cD := am b6
     clear b6 cY
     replace dB := eq_true dB
     replace dE := eq_true dE
     have e8 : 0 ≤ aJ := od (by assumption)
     have ea : aJ < (l0_2.length : Int) := od (by assumption)
     obtain ⟨dX, eK, eN, eL, eO, eM, eP, eT, ay, ai, az, aj, ak, ba, b7, bb, b8, bc, b9⟩ := at_T100 ce.o aJ e8 ea
     have hw391_4 := ak
     have hw391_3 := aj
     have hw391_2 := az
     have hw391_1 := ai
     have hw391_0 := ay
     obtain rfl : aZ = dX := (by injection eT)
     replace ay := (HB.o.cell (World.block_lt_of_cell? w _ ay)).trans ay
     replace ai := (HB.o.cell (World.block_lt_of_cell? w _ ai)).trans ai
     replace az := (HB.o.cell (World.block_lt_of_cell? w _ az)).trans az
     replace aj := (HB.o.cell (World.block_lt_of_cell? w _ aj)).trans aj
     replace ak := (HB.o.cell (World.block_lt_of_cell? w _ ak)).trans ak
     have b0 := am b7
     have bw := am ba
     clear b7 ba
     have b1 := am b8
     have bz := am bb
     clear b8 bb
     have b2 := am b9
     have cA := am bc
     clear b9 bc
     have ea_ := Option.some.inj (af.symm.trans ai)
     injection ea_ with ea_ en_ ec_
     subst ea_
     subst ec_
     clear en_
     have ea_ := Option.some.inj (ag.symm.trans aj)
     injection ea_ with ea_ en_ ec_
     subst ea_
     subst ec_
     clear en_
     have ea_ := Option.some.inj (ah.symm.trans ak)
     injection ea_ with ea_ en_ ec_
     subst ea_
     subst ec_
     clear en_
     refine qCY (n := 20) (S := fun w' => w'.cell? ⟨aU, 0, none⟩ = some (.string a0_0) ∧ w'.cell? ⟨aU, 1, none⟩ = some (aT) ∧ w'.cell? ⟨aU, 2, none⟩ = some (aQ) ∧ w'.cell? ⟨aU, 3, none⟩ = some (.slice none 0 0) ∧ w'.cell? ⟨a7, 0, none⟩ = some (.string a0_0) ∧ w'.cell? ⟨a7, 1, none⟩ = some (.slice bF l0_1.length bB) ∧ w'.cell? ⟨a7, 2, none⟩ = some (.slice (some aZ) l0_2.length bC) ∧ w'.cell? ⟨a7, 3, none⟩ = some (.slice bE l0_3.length bD) ∧ w'.cell? (aZ.add ((aJ).toNat * 5)) = some (.string ((qAM l0_2 aJ).f0)) ∧ w'.cell? ⟨(aZ.add ((aJ).toNat * 5)).block, (aZ.add ((aJ).toNat * 5)).off + 1, none⟩ = some (.slice bN ((qAM l0_2 aJ).f1.f0.f0).length bQ) ∧ w'.cell? ⟨(aZ.add ((aJ).toNat * 5)).block, (aZ.add ((aJ).toNat * 5)).off + 2, none⟩ = some (.int .i64 ((qAM l0_2 aJ).f1.f0.f1)) ∧ w'.cell? ⟨(aZ.add ((aJ).toNat * 5)).block, (aZ.add ((aJ).toNat * 5)).off + 3, none⟩ = some (.slice bO ((qAM l0_2 aJ).f1.f1).length bR) ∧ w'.cell? ⟨(aZ.add ((aJ).toNat * 5)).block, (aZ.add ((aJ).toNat * 5)).off + 4, none⟩ = some (.slice bP ((qAM l0_2 aJ).f1.f2).length bS) ∧ w'.cell? (aZ.add ((aJ).toNat * 5)) = some (.string ((qAM l0_2 aJ).f0)) ∧ w'.cell? ⟨(aZ.add ((aJ).toNat * 5)).block, (aZ.add ((aJ).toNat * 5)).off + 1, none⟩ = some (.slice bN ((qAM l0_2 aJ).f1.f0.f0).length bQ) ∧ w'.cell? ⟨(aZ.add ((aJ).toNat * 5)).block, (aZ.add ((aJ).toNat * 5)).off + 2, none⟩ = some (.int .i64 ((qAM l0_2 aJ).f1.f0.f1)) ∧ w'.cell? ⟨(aZ.add ((aJ).toNat * 5)).block, (aZ.add ((aJ).toNat * 5)).off + 3, none⟩ = some (.slice bO ((qAM l0_2 aJ).f1.f1).length bR) ∧ w'.cell? ⟨(aZ.add ((aJ).toNat * 5)).block, (aZ.add ((aJ).toNat * 5)).off + 4, none⟩ = some (.slice bP ((qAM l0_2 aJ).f1.f2).length bS)) (ds := [19]) (mK 20 0) (by kernel_rfl) rfl rfl ⟨(qAb aC.o 0).trans rfl, (qAb aC.o 1).trans rfl, (qAb aC.o 2).trans rfl, (qAb aC.o 3).trans rfl, (qAb aA.o 0).trans rfl, (qAb aA.o 1).trans rfl, (qAb aA.o 2).trans rfl, (qAb aA.o 3).trans rfl, ((HB.o.cell (World.block_lt_of_cell? w _ hw390_0)).trans hw390_0), ((HB.o.cell (World.block_lt_of_cell? w _ hw390_1)).trans hw390_1), ((HB.o.cell (World.block_lt_of_cell? w _ hw390_2)).trans hw390_2), ((HB.o.cell (World.block_lt_of_cell? w _ hw390_3)).trans hw390_3), ((HB.o.cell (World.block_lt_of_cell? w _ hw390_4)).trans hw390_4), ((HB.o.cell (World.block_lt_of_cell? w _ hw391_0)).trans hw391_0), ((HB.o.cell (World.block_lt_of_cell? w _ hw391_1)).trans hw391_1), ((HB.o.cell (World.block_lt_of_cell? w _ hw391_2)).trans hw391_2), ((HB.o.cell (World.block_lt_of_cell? w _ hw391_3)).trans hw391_3), ((HB.o.cell (World.block_lt_of_cell? w _ hw391_4)).trans hw391_4)⟩ (fun hHeld => ?_); refine qB8 qAh.tab9 qAh.bits9 (fun HT_ HW_ => ?_)
     generalize wr.drew = et at aD aE aA aG aC HB cB cC cD b0 b1 b2 aw af ax ag ah ay ai az aj ak hHeld ⊢
     refine pu 0 43 (mK 20 1) (qA8 HT_.o (by kernel_rfl)) ?_
     refine pu 2 45 (mK 20 5) (qA8 HT_.o (by kernel_rfl)) ?_
     refine pu 4 47 (mK 20 21) (qA8 HT_.o (by kernel_rfl)) ?_
     refine pu 8 51 (mK 20 277) (qA8 HT_.o (by kernel_rfl)) ?_
     refine pu 10 53 (mK 20 1301) (qA8 HT_.o (by kernel_rfl)) ?_
     refine tk 1 44 (mK 20 1303) (qAQ HT_.o HW_.o (by kernel_rfl)) hHeld ?_
     refine tk 3 46 (mK 20 1311) (qAQ HT_.o HW_.o (by kernel_rfl)) hHeld ?_
     refine pu 5 48 (mK 20 1343) (qA8 HT_.o (by kernel_rfl)) ?_
     refine pu 6 49 (mK 20 1407) (qA8 HT_.o (by kernel_rfl)) ?_
     refine tk 7 50 (mK 20 1535) (qAQ HT_.o HW_.o (by kernel_rfl)) hHeld ?_
     refine tk 9 52 (mK 20 2047) (qAQ HT_.o HW_.o (by kernel_rfl)) hHeld ?_
     refine pu 11 54 (mK 20 4095) (qA8 HT_.o (by kernel_rfl)) ?_
     refine pu 12 55 (mK 20 8191) (qA8 HT_.o (by kernel_rfl)) ?_
     refine tk 13 56 (mK 20 16383) (qAQ HT_.o HW_.o (by kernel_rfl)) hHeld ?_
     refine one_ (i := 14) (N := some 57) (mK 20 32767) rfl rfl (qBf HT_.o (by kernel_rfl)) (by decide) (fun K hK => ?_)
     refine qCy Try.func37 (by kernel_rfl) rfl #[.agg #[.slice bN ((qAM l0_2 aJ).f1.f0.f0).length bQ, .int .i64 ((qAM l0_2 aJ).f1.f0.f1), .slice bO ((qAM l0_2 aJ).f1.f1).length bR, .slice bP ((qAM l0_2 aJ).f1.f2).length bS]] (by rfl) rfl rfl (by (try simp only [List.map_toArray, List.map_cons, List.map_nil]); (rfl)) ?_
     with_reducible refine (qAm.calls k2 _ _ ((qAM l0_2 aJ).f1.f0.f0) ((qAM l0_2 aJ).f1.f0.f1) _ _ ((qAM l0_2 aJ).f1.f1) _ _ ((qAM l0_2 aJ).f1.f2) bT bi bU bV _ ?side1 ?side2 ?side3 ?side4 ?side5 ?side6 ej.o).mono ?_
     (case side1 => exact (Kd.C_below b0.o HB.o))
     (case side2 => exact bw.o)
     (case side3 => exact (Kd.C_below b1.o HB.o))
     (case side4 => exact bz.o)
     (case side5 => exact (Kd.C_below b2.o HB.o))
     (case side6 => exact cA.o)
     rintro e eu ⟨el, em, en, rfl, e4, e5, e6, hb⟩
     refine ⟨_, rfl, ?_⟩
     have n_ := a2 (Kd.R_below aD.o hb) (a2 (Kd.S_mono (Kd.S_told (Kd.S_told (Kd.S_told (Kd.S_old aE.o hb) (Kd.R_base e4)) (Kd.R_base e5)) (Kd.R_base e6)) (fun _ h_ => h_.1)) (a2 (Kd.R_lower e4 (qAe HB.o)) (a2 (Kd.R_lower e5 (qAe HB.o)) (a2 (Kd.R_lower e6 (qAe HB.o)) (a2 (qAd aA.o hb) (a2 (qAd aG.o hb) (a2 (qAd aC.o hb) (am (qAj HB.o hb)))))))))
     clear aD aE aA aG aC HB
     obtain ⟨aD, aE, bX, bY, bZ, aA, aG, aC, HB⟩ := n_
     (try clear hb)
     (skip)
     (skip)
     (skip)
     (try clear e4)
     (try clear e5)
     (try clear e6)
     obtain ⟨dL, d3, eW⟩ := Kd.R_slice bZ.o
     (subst eW)
     obtain ⟨dM, d4, eX⟩ := Kd.R_slice bY.o
     (subst eX)
     obtain ⟨dN, d5, eY⟩ := Kd.R_slice bX.o
     (subst eY)
     refine hK.o _ _ ⟨(qAb aC.o 0).trans rfl, (qAb aC.o 1).trans rfl, (qAb aC.o 2).trans rfl, (qAb aC.o 3).trans rfl, (qAb aA.o 0).trans rfl, (qAb aA.o 1).trans rfl, (qAb aA.o 2).trans rfl, (qAb aA.o 3).trans rfl, ((HB.o.cell (World.block_lt_of_cell? w _ hw390_0)).trans hw390_0), ((HB.o.cell (World.block_lt_of_cell? w _ hw390_1)).trans hw390_1), ((HB.o.cell (World.block_lt_of_cell? w _ hw390_2)).trans hw390_2), ((HB.o.cell (World.block_lt_of_cell? w _ hw390_3)).trans hw390_3), ((HB.o.cell (World.block_lt_of_cell? w _ hw390_4)).trans hw390_4), ((HB.o.cell (World.block_lt_of_cell? w _ hw391_0)).trans hw391_0), ((HB.o.cell (World.block_lt_of_cell? w _ hw391_1)).trans hw391_1), ((HB.o.cell (World.block_lt_of_cell? w _ hw391_2)).trans hw391_2), ((HB.o.cell (World.block_lt_of_cell? w _ hw391_3)).trans hw391_3), ((HB.o.cell (World.block_lt_of_cell? w _ hw391_4)).trans hw391_4)⟩ (fun hHeld => ?_)
     clear hK K
     refine nm ?_
     refine pu 15 58 (mK 20 65535) (qA8 HT_.o (by kernel_rfl)) ?_
     refine one_ (i := 16) (N := some 59) (mK 20 131071) rfl rfl (qBf HT_.o (by kernel_rfl)) (by decide) (fun K hK => ?_)
     refine value_ (w1 := ?_) (v := ?_) (by rfl) rfl ?_ ?_
     rotate_left 2
     ·go_simp
      constructor
      ·rfl
      rfl
     refine hK.o _ _ ⟨(qAb (qAE aC.o _) 0).trans rfl, (qAb (qAE aC.o _) 1).trans rfl, (qAb (qAE aC.o _) 2).trans rfl, (qAb (qAE aC.o _) 3).trans rfl, (qAb (qAE aA.o _) 0).trans rfl, (qAb (qAE aA.o _) 1).trans rfl, (qAb (qAE aA.o _) 2).trans rfl, (qAb (qAE aA.o _) 3).trans rfl, (World.cell?_alloc_lt _ _ _ (World.block_lt_of_cell? _ _ ((HB.o.cell (World.block_lt_of_cell? w _ hw390_0)).trans hw390_0))).trans ((HB.o.cell (World.block_lt_of_cell? w _ hw390_0)).trans hw390_0), (World.cell?_alloc_lt _ _ _ (World.block_lt_of_cell? _ _ ((HB.o.cell (World.block_lt_of_cell? w _ hw390_1)).trans hw390_1))).trans ((HB.o.cell (World.block_lt_of_cell? w _ hw390_1)).trans hw390_1), (World.cell?_alloc_lt _ _ _ (World.block_lt_of_cell? _ _ ((HB.o.cell (World.block_lt_of_cell? w _ hw390_2)).trans hw390_2))).trans ((HB.o.cell (World.block_lt_of_cell? w _ hw390_2)).trans hw390_2), (World.cell?_alloc_lt _ _ _ (World.block_lt_of_cell? _ _ ((HB.o.cell (World.block_lt_of_cell? w _ hw390_3)).trans hw390_3))).trans ((HB.o.cell (World.block_lt_of_cell? w _ hw390_3)).trans hw390_3), (World.cell?_alloc_lt _ _ _ (World.block_lt_of_cell? _ _ ((HB.o.cell (World.block_lt_of_cell? w _ hw390_4)).trans hw390_4))).trans ((HB.o.cell (World.block_lt_of_cell? w _ hw390_4)).trans hw390_4), (World.cell?_alloc_lt _ _ _ (World.block_lt_of_cell? _ _ ((HB.o.cell (World.block_lt_of_cell? w _ hw391_0)).trans hw391_0))).trans ((HB.o.cell (World.block_lt_of_cell? w _ hw391_0)).trans hw391_0), (World.cell?_alloc_lt _ _ _ (World.block_lt_of_cell? _ _ ((HB.o.cell (World.block_lt_of_cell? w _ hw391_1)).trans hw391_1))).trans ((HB.o.cell (World.block_lt_of_cell? w _ hw391_1)).trans hw391_1), (World.cell?_alloc_lt _ _ _ (World.block_lt_of_cell? _ _ ((HB.o.cell (World.block_lt_of_cell? w _ hw391_2)).trans hw391_2))).trans ((HB.o.cell (World.block_lt_of_cell? w _ hw391_2)).trans hw391_2), (World.cell?_alloc_lt _ _ _ (World.block_lt_of_cell? _ _ ((HB.o.cell (World.block_lt_of_cell? w _ hw391_3)).trans hw391_3))).trans ((HB.o.cell (World.block_lt_of_cell? w _ hw391_3)).trans hw391_3), (World.cell?_alloc_lt _ _ _ (World.block_lt_of_cell? _ _ ((HB.o.cell (World.block_lt_of_cell? w _ hw391_4)).trans hw391_4))).trans ((HB.o.cell (World.block_lt_of_cell? w _ hw391_4)).trans hw391_4)⟩ (fun hHeld => ?_)
     clear hK K
     refine nm ?_
     refine one_ (i := 17) (N := some 60) (mK 20 262143) rfl rfl (qBf HT_.o (by kernel_rfl)) (by decide) (fun K hK => ?_)
     refine Kd.S_append_step k80 (w0 := w) w.heap.size (by rfl) (.tmp 44) (.tmp 59) 24 80 (.agg #[(.string ⟨#[]⟩), (.slice none 0 0), (.int .i64 0), (.slice none 0 0), (.slice none 0 0)]) 96 rfl Try.underlying24 info80 rfl (by decide) (by omega) aQ aI (⟨(qAM l0_2 aJ).f0, (⟨(⟨bT, bi⟩ : S74), bU, bV⟩ : S77)⟩ : S80) [.string ((qAM l0_2 aJ).f0), .slice dN bT.length d5, .int .i64 bi, .slice dM bU.length d4, .slice dL bV.length d3] (fun _ => True) (fun k_ => some k_ = (.slice dN bT.length d5 : Value).ownBlock ∨ some k_ = (.slice dM bU.length d4 : Value).ownBlock ∨ some k_ = (.slice dL bV.length d3 : Value).ownBlock) rfl rfl ?aP (fun k_ hk_ => hk_.elim (fun h_ => (Kd.R_mono (ok' := fun k_ => (fun _ => True) k_ ∧ some k_ ≠ (aQ : Value).ownBlock) (Kd.R_apart' bX.o (Kd.S_typed aE.o) (by decide)) (fun k_ hk => ⟨trivial, hk.2⟩)).1 k_ h_.symm) (fun h_ => h_.elim (fun h_ => (Kd.R_mono (ok' := fun k_ => (fun _ => True) k_ ∧ some k_ ≠ (aQ : Value).ownBlock) (Kd.R_apart' bY.o (Kd.S_typed aE.o) (by decide)) (fun k_ hk => ⟨trivial, hk.2⟩)).1 k_ h_.symm) (fun h_ => (Kd.R_mono (ok' := fun k_ => (fun _ => True) k_ ∧ some k_ ≠ (aQ : Value).ownBlock) (Kd.R_apart' bZ.o (Kd.S_typed aE.o) (by decide)) (fun k_ hk => ⟨trivial, hk.2⟩)).1 k_ h_.symm))) ?aF ?aO ?aB ?aS ?aL ?_
     (case aP => exact k80_mkM _ _ _ (⟨(qAM l0_2 aJ).f0, (⟨(⟨bT, bi⟩ : S74), bU, bV⟩ : S77)⟩ : S80) (Kd.R_mono (Kd.R_tight rfl (Kd.R_mono (ok' := fun k_ => (fun _ => True) k_ ∧ some k_ ≠ (aQ : Value).ownBlock) (Kd.R_apart' bX.o (Kd.S_typed aE.o) (by decide)) (fun k_ hk => ⟨trivial, hk.2⟩))) (fun _ h_ => Or.inl h_)) (Kd.R_mono (Kd.R_tight rfl (Kd.R_mono (ok' := fun k_ => (fun _ => True) k_ ∧ some k_ ≠ (aQ : Value).ownBlock) (Kd.R_apart' bY.o (Kd.S_typed aE.o) (by decide)) (fun k_ hk => ⟨trivial, hk.2⟩))) (fun _ h_ => Or.inr (Or.inl h_))) (Kd.R_mono (Kd.R_tight rfl (Kd.R_mono (ok' := fun k_ => (fun _ => True) k_ ∧ some k_ ≠ (aQ : Value).ownBlock) (Kd.R_apart' bZ.o (Kd.S_typed aE.o) (by decide)) (fun k_ hk => ⟨trivial, hk.2⟩))) (fun _ h_ => Or.inr (Or.inr (h_)))))
     (case aB => exact HB.o)
     (case aF => exact (fun _ _ => trivial))
     (case aO => exact (by exact Kd.S_mono aE.o (fun k_ hk => ⟨trivial, fun e_ => e_.elim (fun h_ => hk.1.1.2 h_) (fun h_ => h_.elim (fun h_ => hk.1.2 h_) (fun h_ => hk.2 h_))⟩)))
     (case aS => exact (qAe HB.o))
     (case aL => have := dR.o; omega)
     intro eo ev ho hb hg d6
     rw [← dU.o] at ho
     have n_ := a2 (Kd.R_over' aD.o (Kd.S_typed aE.o) (by decide) hg) (a2 (qAH (g := a7) (o := .cells #[.string a0_0, .slice bF l0_1.length bB, .slice (some aZ) l0_2.length bC, .slice bE l0_3.length bD] 39 (0, 0)) aA.o hg (Kd.S_ne aE.o aA.o (by decide))) (a2 (qAH (g := aW) (o := .cells #[.string ⟨#[]⟩, .slice none 0 0, .slice none 0 0, .slice none 0 0] 27 (0, 0)) aG.o hg (Kd.S_ne aE.o aG.o (by decide))) (a2 (qAH (g := aU) (o := .cells #[.string a0_0, aT, aQ, .slice none 0 0] 27 (0, 0)) aC.o hg (Kd.S_ne aE.o aC.o (by decide))) (a2 (hb) (am (ho))))))
     clear aD aA aG aC HB aE bX bY bZ
     obtain ⟨aD, aA, aG, aC, HB, ca⟩ := n_
     clear ho hb hg d6
     obtain ⟨ch, ci, eZ⟩ := Kd.S_slice ca.o
     (subst eZ)
     refine hK.o _ _ ⟨(qAb aC.o 0).trans rfl, (qAb aC.o 1).trans rfl, (qAb aC.o 2).trans rfl, (qAb aC.o 3).trans rfl, (qAb aA.o 0).trans rfl, (qAb aA.o 1).trans rfl, (qAb aA.o 2).trans rfl, (qAb aA.o 3).trans rfl, ((HB.o.cell (World.block_lt_of_cell? w _ hw390_0)).trans hw390_0), ((HB.o.cell (World.block_lt_of_cell? w _ hw390_1)).trans hw390_1), ((HB.o.cell (World.block_lt_of_cell? w _ hw390_2)).trans hw390_2), ((HB.o.cell (World.block_lt_of_cell? w _ hw390_3)).trans hw390_3), ((HB.o.cell (World.block_lt_of_cell? w _ hw390_4)).trans hw390_4), ((HB.o.cell (World.block_lt_of_cell? w _ hw391_0)).trans hw391_0), ((HB.o.cell (World.block_lt_of_cell? w _ hw391_1)).trans hw391_1), ((HB.o.cell (World.block_lt_of_cell? w _ hw391_2)).trans hw391_2), ((HB.o.cell (World.block_lt_of_cell? w _ hw391_3)).trans hw391_3), ((HB.o.cell (World.block_lt_of_cell? w _ hw391_4)).trans hw391_4)⟩ (fun hHeld => ?_)
     clear hK K
     refine nm ?_
     refine pu 18 61 (mK 20 524287) (qA8 HT_.o (by kernel_rfl)) ?_
     refine last_ (i := 19) (N := none) (mK 20 1048575) rfl rfl (qBf HT_.o (by kernel_rfl)) (by decide) (fun K hK => ?_)
     have hfs37 := qAr aC.o 2
     refine skip_ (w1 := ?_) (by rfl) rfl ?_ ?_
     rotate_left
     ·go_simp
      rfl
     refine hK.o _ _ ?_
     clear hK K
     refine qE1 (qCk HT_.o (by kernel_rfl)) ?_
     try go_wp2
     go_roundg k2
     case measure => have := dG.o; have := d7.o; omega
     case rel => exact ⟨(wrap64 (aJ + 1)), (br), (.slice ch br.length ci), (by rfl), H', ⟨by have := dG.o; have := d7.o; omega⟩, ⟨by exact Kd.R_mono (Kd.R_far (p := ⟨aU, 2, none⟩) (Kd.R_types aD.o aC.o (by decide)) (fun _ hk => hk.2) (.slice ch br.length ci)) (fun _ hk => trivial)⟩, ⟨by exact Kd.S_mono (Kd.S_far (p := ⟨aU, 2, none⟩) (Kd.S_types ca.o aC.o (by decide)) (fun _ hk => hk.2) (.slice ch br.length ci)) (fun _ hk => trivial)⟩, ⟨by refine qAg ?_ a6.o _; exact aA.o⟩, ⟨by refine qAg ?_ a4.o _; exact aG.o⟩, ⟨by refine qAo (cs := #[.string a0_0, aT, aQ, .slice none 0 0]) ?_ 2 _ rfl; exact aC.o⟩, ⟨by repeat (with_reducible first | exact HB.o | refine qAq ?_ bW.o)⟩⟩
end Q
end
section
namespace Q
open Go.RowKit PA PB PC
open Val Ins
def ofRI (x : S150) : S115 := ⟨x.f0, x.f1, x.f2⟩
def ofRV (x : S94) : S71 := ⟨x.f0, x.f1⟩
def ofRN (x : S100) : S80 := ⟨x.f0, ⟨⟨x.f1.f0.f0, x.f1.f0.f1⟩, x.f1.f1, x.f1.f2.map ofRI⟩⟩
def ofRR (x : S102) : S82 := ⟨x.f0, x.f1, x.f2, x.f3, x.f4⟩
theorem ownfn_ev (a : List Int) (b : Int) (c : List Int) (d : List S150) (ha : a.length ≤ 1048576) (hc : c.length ≤ 1048576) (hd : d.length ≤ 1048576) : Ev (fun k => qAm.f k a b c d) (a, b, c, d.map ofRI) := by
 have loop : ∀ (n : Nat) (i : Int) (acc : List S115), 0 ≤ i → (d.length : Int) - i = n → acc.length ≤ i → Ev (fun k => qAm.l0 k i a b c d a b c acc) (a, b, c, acc ++ (d.drop i.toNat).map ofRI) := by
  intro n
  induction n with
  | zero =>
   intro i acc h0 hn hacc
   rw [List.drop_eq_nil_of_le (by omega), List.map_nil, List.append_nil]
   refine Ev.step (f := fun _ => some (a, b, c, acc)) (fun k => ?_) (Ev.now _)
   simp only [qAm.l0]
   rw [if_neg (by omega)]
  | succ n ih =>
   intro i acc h0 hn hacc
   have hw := qBD (n := d.length) h0 (by omega) (by omega)
   have hrec := ih (i + 1) (acc ++ [ofRI (qAX d i)]) (by omega) (by omega) (by rw [List.length_append]; simp; omega)
   rw [qBe d z150 i h0 (by omega), List.map_cons]
   rw [List.append_assoc] at hrec
   refine Ev.step (fun k => ?_) hrec
   simp only [qAm.l0]
   rw [if_pos (by omega), if_pos h0, if_pos (by omega), hw]
   rfl
 have h := loop d.length 0 [] (by omega) (by omega) (by simp)
 refine Ev.congr (fun k => ?_) h
 unfold qAm.f
 rw [Option.bind_some, if_pos (by simp; omega), Option.bind_some, if_pos (by simp; omega), List.nil_append, List.nil_append]
section
variable (m : ByteArray) (vs : List S94) (fs : List S100) (rs : List S102)
theorem own2_ev (hr : rs.length ≤ 1048576) (V : List S71) (F : List S80) : ∀ (n : Nat) (i : Int) (acc : List S82), 0 ≤ i → (rs.length : Int) - i = n → acc.length ≤ i → Ev (fun k => qAh.l2 k i m vs fs rs m V F acc) (m, V, F, acc ++ (rs.drop i.toNat).map ofRR) := by
 intro n
 induction n with
 | zero =>
  intro i acc h0 hn hacc
  rw [List.drop_eq_nil_of_le (by omega), List.map_nil, List.append_nil]
  refine Ev.step (f := fun _ => some (m, V, F, acc)) (fun k => ?_) (Ev.now _)
  simp only [qAh.l2]
  rw [if_neg (by omega)]
 | succ n ih =>
  intro i acc h0 hn hacc
  have hw := qBD (n := rs.length) h0 (by omega) (by omega)
  have hrec := ih (i + 1) (acc ++ [ofRR (qAI rs i)]) (by omega) (by omega) (by rw [List.length_append]; simp; omega)
  rw [qBe rs z102 i h0 (by omega), List.map_cons]
  rw [List.append_assoc] at hrec
  refine Ev.step (fun k => ?_) hrec
  simp only [qAh.l2]
  rw [if_pos (by omega), if_pos h0, if_pos (by omega), hw]
  rfl
theorem own1_ev (hr : rs.length ≤ 1048576) (hf : fs.length ≤ 1048576) (hx : ∀ x ∈ fs, x.f1.f0.f0.length ≤ 1048576 ∧ x.f1.f1.length ≤ 1048576 ∧ x.f1.f2.length ≤ 1048576) (V : List S71) : ∀ (n : Nat) (i : Int) (acc : List S80), 0 ≤ i → (fs.length : Int) - i = n → acc.length ≤ i → Ev (fun k => qAh.l1 k i m vs fs rs m V acc) (m, V, acc ++ (fs.drop i.toNat).map ofRN, rs.map ofRR) := by
 intro n
 induction n with
 | zero =>
  intro i acc h0 hn hacc
  rw [List.drop_eq_nil_of_le (by omega), List.map_nil, List.append_nil]
  have h := own2_ev m vs fs rs hr V acc rs.length 0 [] (by omega) (by omega) (by simp)
  refine Ev.step (fun k => ?_) h
  simp only [qAh.l1]
  rw [if_neg (by omega)]
 | succ n ih =>
  intro i acc h0 hn hacc
  have hw := qBD (n := fs.length) h0 (by omega) (by omega)
  have hmem : qAM fs i ∈ fs := qEq fs z100 i h0 (by omega)
  obtain ⟨x0, x1, x2⟩ := hx _ hmem
  have hrec := ih (i + 1) (acc ++ [ofRN (qAM fs i)]) (by omega) (by omega) (by rw [List.length_append]; simp; omega)
  rw [qBe fs z100 i h0 (by omega), List.map_cons]
  rw [List.append_assoc] at hrec
  refine Ev.step (f := fun k => (qAm.f k ((qAM fs i).f1.f0.f0) ((qAM fs i).f1.f0.f1) ((qAM fs i).f1.f1) ((qAM fs i).f1.f2)).bind fun t => qAh.l1 k (i + 1) m vs fs rs m V (acc ++ [⟨(qAM fs i).f0, ⟨⟨t.1, t.2.1⟩, t.2.2.1, t.2.2.2⟩⟩])) (fun k => ?_) (Ev.bind (ownfn_ev _ _ _ _ x0 x1 x2) hrec)
  simp only [qAh.l1]
  rw [if_pos (by omega), if_pos h0, hw]
  have : acc.length < 1466015503701 := by omega
  simp only [if_pos this]
theorem own0_ev (hr : rs.length ≤ 1048576) (hf : fs.length ≤ 1048576) (hv : vs.length ≤ 1048576) (hx : ∀ x ∈ fs, x.f1.f0.f0.length ≤ 1048576 ∧ x.f1.f1.length ≤ 1048576 ∧ x.f1.f2.length ≤ 1048576) : ∀ (n : Nat) (i : Int) (acc : List S71), 0 ≤ i → (vs.length : Int) - i = n → acc.length ≤ i → Ev (fun k => qAh.l0 k i m vs fs rs m acc) (m, acc ++ (vs.drop i.toNat).map ofRV, fs.map ofRN, rs.map ofRR) := by
 intro n
 induction n with
 | zero =>
  intro i acc h0 hn hacc
  rw [List.drop_eq_nil_of_le (by omega), List.map_nil, List.append_nil]
  have h := own1_ev m vs fs rs hr hf hx acc fs.length 0 [] (by omega) (by omega) (by simp)
  refine Ev.step (fun k => ?_) h
  simp only [qAh.l0]
  rw [if_neg (by omega)]
 | succ n ih =>
  intro i acc h0 hn hacc
  have hw := qBD (n := vs.length) h0 (by omega) (by omega)
  have hrec := ih (i + 1) (acc ++ [ofRV (qB0 vs i)]) (by omega) (by omega) (by rw [List.length_append]; simp; omega)
  rw [qBe vs z94 i h0 (by omega), List.map_cons]
  rw [List.append_assoc] at hrec
  refine Ev.step (fun k => ?_) hrec
  simp only [qAh.l0]
  rw [if_pos (by omega), if_pos h0, if_pos (by omega), hw]
  rfl
theorem own_ev (hr : rs.length ≤ 1048576) (hf : fs.length ≤ 1048576) (hv : vs.length ≤ 1048576) (hx : ∀ x ∈ fs, x.f1.f0.f0.length ≤ 1048576 ∧ x.f1.f1.length ≤ 1048576 ∧ x.f1.f2.length ≤ 1048576) : Ev (fun k => qAh.f k m vs fs rs) (m, vs.map ofRV, fs.map ofRN, rs.map ofRR) :=
 own0_ev m vs fs rs hr hf hv hx vs.length 0 [] (by omega) (by omega) (by simp)
theorem u64_bounds {n : Int} (h : (Lit.int .u64 n).wf = true) : 0 ≤ n ∧ n < 18446744073709551616 := by
 simp [Lit.wf, IntKind.min, IntKind.max, IntKind.bits, IntKind.signed] at h
 omega
theorem own_good (g : qBm 1048576 ⟨m, vs, fs, rs⟩) : qCI m (vs.map ofRV) (fs.map ofRN) (rs.map ofRR) := by
 obtain ⟨gm, ⟨gvl, gv⟩, ⟨gfl, gf⟩, ⟨grl, gr⟩⟩ := g
 simp only at gm gvl gv gfl gf grl gr
 refine ⟨?_, ?_, ?_, ?_, ?_, ?_, ?_⟩
 ·show m.size ≤ _; omega
 ·rw [List.length_map]; omega
 ·intro x hx
  obtain ⟨y, hy, rfl⟩ := List.mem_map.1 hx
  obtain ⟨h0, h1, h2⟩ := gv y hy
  have := u64_bounds h2
  refine ⟨?_, this.1, this.2⟩
  show y.f0.size ≤ _; omega
 ·rw [List.length_map]; omega
 ·intro x hx
  obtain ⟨y, hy, rfl⟩ := List.mem_map.1 hx
  obtain ⟨h0, ⟨⟨h1, _⟩, _⟩, ⟨h2, _⟩, ⟨h3, h4⟩⟩ := gf y hy
  refine ⟨?_, ?_, ?_, ?_, ?_⟩
  ·show y.f0.size ≤ _; omega
  ·show y.f1.f0.f0.length ≤ _; omega
  ·show y.f1.f1.length ≤ _; omega
  ·show (y.f1.f2.map ofRI).length ≤ _; rw [List.length_map]; omega
  show (y.f1.f2.map ofRI).all u64S = true
  rw [List.all_eq_true]
  intro z hz
  obtain ⟨u, hu, rfl⟩ := List.mem_map.1 hz
  exact decide_eq_true (u64_bounds (h4 u hu).2.2.2)
 ·rw [List.length_map]; omega
 intro x hx
 obtain ⟨y, hy, rfl⟩ := List.mem_map.1 hx
 obtain ⟨_, _, _, h3, h4⟩ := gr y hy
 exact ⟨by show y.f3.size ≤ _; omega, by show y.f4.size ≤ _; omega⟩
end
end Q
end
section
namespace Q
open Go.RowKit PA PB PC
attribute [local go_sem] qBd min2_int qBn min_two max_three min_three max_four min_four
theorem eqA69 (d : Nat) (w : World) (x0 y0 : Int) (x1 y1 : Int) :
  (Op.equalIn (d + 2) 69 (.agg #[.int .i64 x0, .int .u64 x1]) (.agg #[.int .i64 y0, .int .u64 y1])).run Try.prog w = .ok (x0 == y0 && (x1 == y1)) w := by
 refine eqA_of Try.underlying69 (by kernel_rfl) ?_
 refine qCs (by rfl) (by go_simp; rfl) (by go_simp; rfl) (by go_simp) ?_
 exact qEo (by rfl) (by go_simp; rfl) (by go_simp; rfl) (by go_simp)
theorem eqA71 (d : Nat) (w : World) (x0 y0 : ByteArray) (x1 y1 : Int) (x2 y2 : Int) :
  (Op.equalIn (d + 3) 71 (.agg #[.string x0, .int .i64 x1, .int .u64 x2]) (.agg #[.string y0, .int .i64 y1, .int .u64 y2])).run Try.prog w = .ok (x0.toList == y0.toList && ((x1 == y1 && (x2 == y2)))) w := by
 refine eqA_of Try.underlying71 (by kernel_rfl) ?_
 refine qCs (by rfl) (by go_simp; rfl) (by go_simp; rfl) (by go_simp) ?_
 exact qEo (by rfl) (by go_simp) (by go_simp) (eqA69 (d + 0) w _ _ _ _)
attribute [local go_sem high] eqA71
def qBs.l0 : Nat → List (S71) → List (S71) → Int → Int → Option (Bool)
 | 0, _, _, _, _ => none
 | k + 1, x0, x1, aY, aE => if aE < aY then (if 0 ≤ aE then (if aE < (x0.length : Int) then (if aE < (x1.length : Int) then (if (!((((qAC x0 aE).f0).toList) == (((qAC x1 aE).f0).toList)) || (!(((qAC x0 aE).f1.f0) == ((qAC x1 aE).f1.f0)) || (!(((qAC x0 aE).f1.f1) == ((qAC x1 aE).f1.f1))))) = true then (some false) else (qBs.l0 k x0 x1 aY (wrap64 (aE + 1)))) else (none)) else (none)) else (none)) else (some true)
def qBs.f (k : Nat) (l0 : List (S71)) (l1 : List (S71)) : Option (Bool) := if (l0.length : Int) = (l1.length : Int) then (qBs.l0 k l0 l1 (l0.length : Int) 0) else (some false)
theorem qBs.calls (k : Nat) (A0 : Option Addr) (c0 : Nat) (l0 : List (S71)) (A1 : Option Addr) (c1 : Nat) (l1 : List (S71)) (r : Bool) (w : World) (hr0 : Kd.C k71 w A0 l0.length l0) (hc0 : l0.length ≤ c0) (hr1 : Kd.C k71 w A1 l1.length l1) (hc1 : l1.length ≤ c1) (h : qBs.f k l0 l1 = some r) :
  Calls Try.prog 43 #[.slice A0 l0.length c0, .slice A1 l1.length c1] w fun e w' => e = .returned (.bool r) ∧ qAD w w' := by
 have aW := am hr0
 clear hr0 hc0
 have aX := am hr1
 clear hr1 hc1
 have H : (if (l0.length : Int) = (l1.length : Int) then (qBs.l0 k l0 l1 (l0.length : Int) 0) else (some false)) = some r := h
 clear h
 by_cases c3 : (l0.length : Int) = (l1.length : Int)
 ·rw [if_pos c3] at H
  have aR : ((l0.length : Int) == (l1.length : Int)) = true := beq_iff_eq.mpr c3
  have aQ : ((l0.length : Int) != (l1.length : Int)) = false := bn c3
  have aS : (l0.length == l1.length) = true := by (simp at c3 ⊢; omega)
  clear c3
  have H' := am H
  clear H
  go_enter Try.func43, Try.ntmps43
  go_wp2
  repeat (go_quiet (fail))
  go_loopg [13] k (fun kq a5 w' => ∃ (aA : Int), a5 = .int .i64 aA ∧ qAa (qBs.l0 kq l0 l1 (l0.length : Int) aA = some r) ∧ qAa (kq ≤ k) ∧ qAD w w')
  case atStart => exact ⟨(0), (by rfl), H', ⟨Nat.le_refl _⟩, by exact qAD.refl _⟩
  case round =>
   clear H'
   obtain ⟨aA, rfl, HA, aV, ⟨m1, rfl⟩⟩ := hrel
   cases gk with
   | zero => exact absurd HA.o (by simp [qBs.l0])
   | succ k1 =>
    have H := HA.o
    clear HA
    simp only [qBs.l0] at H
    by_cases c4 : aA < (l0.length : Int)
    rotate_left
    ·rw [if_neg c4] at H
     replace c4 := d0 c4
     obtain rfl := Option.some.inj H
     go_wp2
     repeat (go_quiet (fail))
     go_ret
     exact ⟨by rfl, by repeat (first | exact qAD.refl _ | apply qAD.step)⟩
    rw [if_pos c4] at H
    replace c4 := d1 c4
    obtain ⟨c5, H⟩ := gd H
    replace c5 := d1 c5
    obtain ⟨c6, H⟩ := gd H
    replace c6 := d1 c6
    obtain ⟨c7, H⟩ := gd H
    replace c7 := d1 c7
    by_cases c8 : (!((((qAC l0 aA).f0).toList) == (((qAC l1 aA).f0).toList)) || (!(((qAC l0 aA).f1.f0) == ((qAC l1 aA).f1.f0)) || (!(((qAC l0 aA).f1.f1) == ((qAC l1 aA).f1.f1))))) = true
    ·rw [if_pos c8] at H
     have aU : (!((((qAC l0 aA).f0).toList) == (((qAC l1 aA).f0).toList)) || (!(((qAC l0 aA).f1.f0) == ((qAC l1 aA).f1.f0)) || (!(((qAC l0 aA).f1.f1) == ((qAC l1 aA).f1.f1))))) = true := c8
     clear c8
     obtain rfl := Option.some.inj H
     have aB : 0 ≤ aA := od (by assumption)
     have aC : aA < (l0.length : Int) := od (by assumption)
     obtain ⟨aO, aL, aF, aG, aH⟩ := qDx aW.o aA aB aC
     cases aL
     replace aB := eq_true aB
     replace aC := eq_true aC
     have aN : 0 ≤ aA := od (by assumption)
     have aD : aA < (l1.length : Int) := od (by assumption)
     obtain ⟨aP, aM, aI, aJ, aK⟩ := qDx aX.o aA aN aD
     cases aM
     replace aD := eq_true aD
     go_wp2
     repeat (go_quiet (fail); try go_wp2)
     go_ret
     exact ⟨by rfl, by repeat (first | exact qAD.refl _ | apply qAD.step)⟩
    rw [if_neg c8] at H
    have aU : (!((((qAC l0 aA).f0).toList) == (((qAC l1 aA).f0).toList)) || (!(((qAC l0 aA).f1.f0) == ((qAC l1 aA).f1.f0)) || (!(((qAC l0 aA).f1.f1) == ((qAC l1 aA).f1.f1))))) = false := by simpa using c8
    clear c8
    have H' := am H
    clear H
    have aB : 0 ≤ aA := od (by assumption)
    have aC : aA < (l0.length : Int) := od (by assumption)
    obtain ⟨aO, aL, aF, aG, aH⟩ := qDx aW.o aA aB aC
    cases aL
    replace aB := eq_true aB
    replace aC := eq_true aC
    have aN : 0 ≤ aA := od (by assumption)
    have aD : aA < (l1.length : Int) := od (by assumption)
    obtain ⟨aP, aM, aI, aJ, aK⟩ := qDx aX.o aA aN aD
    cases aM
    replace aD := eq_true aD
    go_wp2
    repeat (go_quiet (fail); try go_wp2)
    go_roundg k1
    case measure => have := aV.o; omega
    case rel => exact ⟨(wrap64 (aA + 1)), (by rfl), H', ⟨by have := aV.o; omega⟩, by repeat (first | exact qAD.refl _ | apply qAD.step)⟩
 ·rw [if_neg c3] at H
  have aQ : ((l0.length : Int) != (l1.length : Int)) = true := bne_iff_ne.mpr c3
  obtain rfl := Option.some.inj H
  go_enter Try.func43, Try.ntmps43
  go_wp2
  repeat (go_quiet (fail))
  go_ret
  exact ⟨by rfl, by exact qAD.refl _⟩
theorem eqA82 (d : Nat) (w : World) (x0 y0 : Int) (x1 y1 : Int) (x2 y2 : Int) (x3 y3 : ByteArray) (x4 y4 : ByteArray) :
  (Op.equalIn (d + 2) 82 (.agg #[.int .i64 x0, .int .i64 x1, .int .i64 x2, .string x3, .string x4]) (.agg #[.int .i64 y0, .int .i64 y1, .int .i64 y2, .string y3, .string y4])).run Try.prog w = .ok (x0 == y0 && (x1 == y1 && (x2 == y2 && (x3.toList == y3.toList && (x4.toList == y4.toList))))) w := by
 refine eqA_of Try.underlying82 (by kernel_rfl) ?_
 refine qCs (by rfl) (by go_simp; rfl) (by go_simp; rfl) (by go_simp) ?_
 refine qCs (by rfl) (by go_simp; rfl) (by go_simp; rfl) (by go_simp) ?_
 refine qCs (by rfl) (by go_simp; rfl) (by go_simp; rfl) (by go_simp) ?_
 refine qCs (by rfl) (by go_simp; rfl) (by go_simp; rfl) (by go_simp) ?_
 exact qEo (by rfl) (by go_simp; rfl) (by go_simp; rfl) (by go_simp)
attribute [local go_sem high] eqA82
def qAS.l0 : Nat → List (S82) → List (S82) → Int → Int → Option (Bool)
 | 0, _, _, _, _ => none
 | k + 1, x0, x1, a5, aE => if aE < a5 then (if 0 ≤ aE then (if aE < (x0.length : Int) then (if aE < (x1.length : Int) then (if (!(((qAT x0 aE).f0) == ((qAT x1 aE).f0)) || (!(((qAT x0 aE).f1) == ((qAT x1 aE).f1)) || (!(((qAT x0 aE).f2) == ((qAT x1 aE).f2)) || (!((((qAT x0 aE).f3).toList) == (((qAT x1 aE).f3).toList)) || (!((((qAT x0 aE).f4).toList) == (((qAT x1 aE).f4).toList))))))) = true then (some false) else (qAS.l0 k x0 x1 a5 (wrap64 (aE + 1)))) else (none)) else (none)) else (none)) else (some true)
def qAS.f (k : Nat) (l0 : List (S82)) (l1 : List (S82)) : Option (Bool) := if (l0.length : Int) = (l1.length : Int) then (qAS.l0 k l0 l1 (l0.length : Int) 0) else (some false)
theorem qAS.calls (k : Nat) (A0 : Option Addr) (c0 : Nat) (l0 : List (S82)) (A1 : Option Addr) (c1 : Nat) (l1 : List (S82)) (r : Bool) (w : World) (hr0 : Kd.C k82 w A0 l0.length l0) (hc0 : l0.length ≤ c0) (hr1 : Kd.C k82 w A1 l1.length l1) (hc1 : l1.length ≤ c1) (h : qAS.f k l0 l1 = some r) :
  Calls Try.prog 44 #[.slice A0 l0.length c0, .slice A1 l1.length c1] w fun e w' => e = .returned (.bool r) ∧ qAD w w' := by
 have a3 := am hr0
 clear hr0 hc0
 have a4 := am hr1
 clear hr1 hc1
 have H : (if (l0.length : Int) = (l1.length : Int) then (qAS.l0 k l0 l1 (l0.length : Int) 0) else (some false)) = some r := h
 clear h
 by_cases c3 : (l0.length : Int) = (l1.length : Int)
 ·rw [if_pos c3] at H
  have aV : ((l0.length : Int) == (l1.length : Int)) = true := beq_iff_eq.mpr c3
  have aU : ((l0.length : Int) != (l1.length : Int)) = false := bn c3
  have aW : (l0.length == l1.length) = true := by (simp at c3 ⊢; omega)
  clear c3
  have H' := am H
  clear H
  go_enter Try.func44, Try.ntmps44
  go_wp2
  repeat (go_quiet (fail))
  go_loopg [13] k (fun kq a9 w' => ∃ (aA : Int), a9 = .int .i64 aA ∧ qAa (qAS.l0 kq l0 l1 (l0.length : Int) aA = some r) ∧ qAa (kq ≤ k) ∧ qAD w w')
  case atStart => exact ⟨(0), (by rfl), H', ⟨Nat.le_refl _⟩, by exact qAD.refl _⟩
  case round =>
   clear H'
   obtain ⟨aA, rfl, HA, aZ, ⟨m1, rfl⟩⟩ := hrel
   cases gk with
   | zero => exact absurd HA.o (by simp [qAS.l0])
   | succ k1 =>
    have H := HA.o
    clear HA
    simp only [qAS.l0] at H
    by_cases c4 : aA < (l0.length : Int)
    rotate_left
    ·rw [if_neg c4] at H
     replace c4 := d0 c4
     obtain rfl := Option.some.inj H
     go_wp2
     repeat (go_quiet (fail))
     go_ret
     exact ⟨by rfl, by repeat (first | exact qAD.refl _ | apply qAD.step)⟩
    rw [if_pos c4] at H
    replace c4 := d1 c4
    obtain ⟨c5, H⟩ := gd H
    replace c5 := d1 c5
    obtain ⟨c6, H⟩ := gd H
    replace c6 := d1 c6
    obtain ⟨c7, H⟩ := gd H
    replace c7 := d1 c7
    by_cases c8 : (!(((qAT l0 aA).f0) == ((qAT l1 aA).f0)) || (!(((qAT l0 aA).f1) == ((qAT l1 aA).f1)) || (!(((qAT l0 aA).f2) == ((qAT l1 aA).f2)) || (!((((qAT l0 aA).f3).toList) == (((qAT l1 aA).f3).toList)) || (!((((qAT l0 aA).f4).toList) == (((qAT l1 aA).f4).toList))))))) = true
    ·rw [if_pos c8] at H
     have aY : (!(((qAT l0 aA).f0) == ((qAT l1 aA).f0)) || (!(((qAT l0 aA).f1) == ((qAT l1 aA).f1)) || (!(((qAT l0 aA).f2) == ((qAT l1 aA).f2)) || (!((((qAT l0 aA).f3).toList) == (((qAT l1 aA).f3).toList)) || (!((((qAT l0 aA).f4).toList) == (((qAT l1 aA).f4).toList))))))) = true := c8
     clear c8
     obtain rfl := Option.some.inj H
     have aB : 0 ≤ aA := od (by assumption)
     have aC : aA < (l0.length : Int) := od (by assumption)
     obtain ⟨aS, aP, aF, aG, aH, aI, aJ⟩ := qDi a3.o aA aB aC
     cases aP
     replace aB := eq_true aB
     replace aC := eq_true aC
     have aR : 0 ≤ aA := od (by assumption)
     have aD : aA < (l1.length : Int) := od (by assumption)
     obtain ⟨aT, aQ, aK, aL, aM, aN, aO⟩ := qDi a4.o aA aR aD
     cases aQ
     replace aD := eq_true aD
     go_wp2
     repeat (go_quiet (fail); try go_wp2)
     go_ret
     exact ⟨by rfl, by repeat (first | exact qAD.refl _ | apply qAD.step)⟩
    rw [if_neg c8] at H
    have aY : (!(((qAT l0 aA).f0) == ((qAT l1 aA).f0)) || (!(((qAT l0 aA).f1) == ((qAT l1 aA).f1)) || (!(((qAT l0 aA).f2) == ((qAT l1 aA).f2)) || (!((((qAT l0 aA).f3).toList) == (((qAT l1 aA).f3).toList)) || (!((((qAT l0 aA).f4).toList) == (((qAT l1 aA).f4).toList))))))) = false := by simpa using c8
    clear c8
    have H' := am H
    clear H
    have aB : 0 ≤ aA := od (by assumption)
    have aC : aA < (l0.length : Int) := od (by assumption)
    obtain ⟨aS, aP, aF, aG, aH, aI, aJ⟩ := qDi a3.o aA aB aC
    cases aP
    replace aB := eq_true aB
    replace aC := eq_true aC
    have aR : 0 ≤ aA := od (by assumption)
    have aD : aA < (l1.length : Int) := od (by assumption)
    obtain ⟨aT, aQ, aK, aL, aM, aN, aO⟩ := qDi a4.o aA aR aD
    cases aQ
    replace aD := eq_true aD
    go_wp2
    repeat (go_quiet (fail); try go_wp2)
    go_roundg k1
    case measure => have := aZ.o; omega
    case rel => exact ⟨(wrap64 (aA + 1)), (by rfl), H', ⟨by have := aZ.o; omega⟩, by repeat (first | exact qAD.refl _ | apply qAD.step)⟩
 ·rw [if_neg c3] at H
  have aU : ((l0.length : Int) != (l1.length : Int)) = true := bne_iff_ne.mpr c3
  obtain rfl := Option.some.inj H
  go_enter Try.func44, Try.ntmps44
  go_wp2
  repeat (go_quiet (fail))
  go_ret
  exact ⟨by rfl, by exact qAD.refl _⟩
def qAz.l0 : Nat → List Int → List Int → Int → Int → Option (Bool)
 | 0, _, _, _, _ => none
 | k + 1, x0, x1, aU, aJ => if aJ < aU then (if 0 ≤ aJ then (if aJ < (x0.length : Int) then (if aJ < (x1.length : Int) then (if (rd x0 aJ) = (rd x1 aJ) then (qAz.l0 k x0 x1 aU (wrap64 (aJ + 1))) else (some false)) else (none)) else (none)) else (none)) else (some true)
def qAz.f (k : Nat) (l0 : List Int) (l1 : List Int) : Option (Bool) := if (l0.length : Int) = (l1.length : Int) then (qAz.l0 k l0 l1 (l0.length : Int) 0) else (some false)
theorem qAz.calls (k : Nat) (A0 : Option Addr) (c0 : Nat) (l0 : List Int) (A1 : Option Addr) (c1 : Nat) (l1 : List Int) (r : Bool) (w : World) (hr0 : Kd.C (Kd.int .i64) w A0 l0.length l0) (hc0 : l0.length ≤ c0) (hr1 : Kd.C (Kd.int .i64) w A1 l1.length l1) (hc1 : l1.length ≤ c1) (h : qAz.f k l0 l1 = some r) :
  Calls Try.prog 47 #[.slice A0 l0.length c0, .slice A1 l1.length c1] w fun e w' => e = .returned (.bool r) ∧ qAD w w' := by
 have aS := am hr0
 clear hr0 hc0
 have aT := am hr1
 clear hr1 hc1
 have H : (if (l0.length : Int) = (l1.length : Int) then (qAz.l0 k l0 l1 (l0.length : Int) 0) else (some false)) = some r := h
 clear h
 by_cases c3 : (l0.length : Int) = (l1.length : Int)
 ·rw [if_pos c3] at H
  have aN : ((l0.length : Int) == (l1.length : Int)) = true := beq_iff_eq.mpr c3
  have aM : ((l0.length : Int) != (l1.length : Int)) = false := bn c3
  have aO : (l0.length == l1.length) = true := by (simp at c3 ⊢; omega)
  clear c3
  have H' := am H
  clear H
  go_enter Try.func47, Try.ntmps47
  go_wp2
  repeat (go_quiet (fail))
  go_loopg [13] k (fun kq aY w' => ∃ (aA : Int), aY = .int .i64 aA ∧ qAa (qAz.l0 kq l0 l1 (l0.length : Int) aA = some r) ∧ qAa (kq ≤ k) ∧ qAD w w')
  case atStart => exact ⟨(0), (by rfl), H', ⟨Nat.le_refl _⟩, by exact qAD.refl _⟩
  case round =>
   clear H'
   obtain ⟨aA, rfl, HA, aR, ⟨m1, rfl⟩⟩ := hrel
   cases gk with
   | zero => exact absurd HA.o (by simp [qAz.l0])
   | succ k1 =>
    have H := HA.o
    clear HA
    simp only [qAz.l0] at H
    by_cases c4 : aA < (l0.length : Int)
    rotate_left
    ·rw [if_neg c4] at H
     replace c4 := d0 c4
     obtain rfl := Option.some.inj H
     go_wp2
     repeat (go_quiet (fail))
     go_ret
     exact ⟨by rfl, by repeat (first | exact qAD.refl _ | apply qAD.step)⟩
    rw [if_pos c4] at H
    replace c4 := d1 c4
    obtain ⟨c5, H⟩ := gd H
    replace c5 := d1 c5
    obtain ⟨c6, H⟩ := gd H
    replace c6 := d1 c6
    obtain ⟨c7, H⟩ := gd H
    replace c7 := d1 c7
    by_cases c8 : (rd l0 aA) = (rd l1 aA)
    rotate_left
    ·rw [if_neg c8] at H
     have aQ : ((rd l0 aA) != (rd l1 aA)) = true := bne_iff_ne.mpr c8
     obtain rfl := Option.some.inj H
     have aB : 0 ≤ aA := od (by assumption)
     have aC : aA < (l0.length : Int) := od (by assumption)
     obtain ⟨aK, aG, aE⟩ := Kd.at_int aS.o aA aB aC
     cases aG
     replace aB := eq_true aB
     replace aC := eq_true aC
     have aI : 0 ≤ aA := od (by assumption)
     have aD : aA < (l1.length : Int) := od (by assumption)
     obtain ⟨aL, aH, aF⟩ := Kd.at_int aT.o aA aI aD
     cases aH
     replace aD := eq_true aD
     go_wp2
     repeat (go_quiet (fail); try go_wp2)
     go_ret
     exact ⟨by rfl, by repeat (first | exact qAD.refl _ | apply qAD.step)⟩
    rw [if_pos c8] at H
    have aQ : ((rd l0 aA) != (rd l1 aA)) = false := bn c8
    clear c8
    have H' := am H
    clear H
    have aB : 0 ≤ aA := od (by assumption)
    have aC : aA < (l0.length : Int) := od (by assumption)
    obtain ⟨aK, aG, aE⟩ := Kd.at_int aS.o aA aB aC
    cases aG
    replace aB := eq_true aB
    replace aC := eq_true aC
    have aI : 0 ≤ aA := od (by assumption)
    have aD : aA < (l1.length : Int) := od (by assumption)
    obtain ⟨aL, aH, aF⟩ := Kd.at_int aT.o aA aI aD
    cases aH
    replace aD := eq_true aD
    go_wp2
    repeat (go_quiet (fail); try go_wp2)
    go_roundg k1
    case measure => have := aR.o; omega
    case rel => exact ⟨(wrap64 (aA + 1)), (by rfl), H', ⟨by have := aR.o; omega⟩, by repeat (first | exact qAD.refl _ | apply qAD.step)⟩
 ·rw [if_neg c3] at H
  have aM : ((l0.length : Int) != (l1.length : Int)) = true := bne_iff_ne.mpr c3
  obtain rfl := Option.some.inj H
  go_enter Try.func47, Try.ntmps47
  go_wp2
  repeat (go_quiet (fail))
  go_ret
  exact ⟨by rfl, by exact qAD.refl _⟩
theorem eqA115 (d : Nat) (w : World) (x0 y0 : Int) (x1 y1 : Int) (x2 y2 : Int) (x3 y3 : Int) :
  (Op.equalIn (d + 3) 115 (.agg #[.int .i64 x0, .int .i64 x1, .int .i64 x2, .int .u64 x3]) (.agg #[.int .i64 y0, .int .i64 y1, .int .i64 y2, .int .u64 y3])).run Try.prog w = .ok (x0 == y0 && (x1 == y1 && ((x2 == y2 && (x3 == y3))))) w := by
 refine eqA_of Try.underlying115 (by kernel_rfl) ?_
 refine qCs (by rfl) (by go_simp; rfl) (by go_simp; rfl) (by go_simp) ?_
 refine qCs (by rfl) (by go_simp; rfl) (by go_simp; rfl) (by go_simp) ?_
 exact qEo (by rfl) (by go_simp) (by go_simp) (eqA69 (d + 0) w _ _ _ _)
attribute [local go_sem high] eqA115
def qAW.l0 : Nat → List (S115) → List (S115) → Int → Int → Option (Bool)
 | 0, _, _, _, _ => none
 | k + 1, x0, x1, a3, aE => if aE < a3 then (if 0 ≤ aE then (if aE < (x0.length : Int) then (if aE < (x1.length : Int) then (if (!(((qAy x0 aE).f0) == ((qAy x1 aE).f0)) || (!(((qAy x0 aE).f1) == ((qAy x1 aE).f1)) || (!(((qAy x0 aE).f2.f0) == ((qAy x1 aE).f2.f0)) || (!(((qAy x0 aE).f2.f1) == ((qAy x1 aE).f2.f1)))))) = true then (some false) else (qAW.l0 k x0 x1 a3 (wrap64 (aE + 1)))) else (none)) else (none)) else (none)) else (some true)
def qAW.f (k : Nat) (l0 : List (S115)) (l1 : List (S115)) : Option (Bool) := if (l0.length : Int) = (l1.length : Int) then (qAW.l0 k l0 l1 (l0.length : Int) 0) else (some false)
theorem qAW.calls (k : Nat) (A0 : Option Addr) (c0 : Nat) (l0 : List (S115)) (A1 : Option Addr) (c1 : Nat) (l1 : List (S115)) (r : Bool) (w : World) (hr0 : Kd.C k115 w A0 l0.length l0) (hc0 : l0.length ≤ c0) (hr1 : Kd.C k115 w A1 l1.length l1) (hc1 : l1.length ≤ c1) (h : qAW.f k l0 l1 = some r) :
  Calls Try.prog 48 #[.slice A0 l0.length c0, .slice A1 l1.length c1] w fun e w' => e = .returned (.bool r) ∧ qAD w w' := by
 have aY := am hr0
 clear hr0 hc0
 have aZ := am hr1
 clear hr1 hc1
 have H : (if (l0.length : Int) = (l1.length : Int) then (qAW.l0 k l0 l1 (l0.length : Int) 0) else (some false)) = some r := h
 clear h
 by_cases c3 : (l0.length : Int) = (l1.length : Int)
 ·rw [if_pos c3] at H
  have aT : ((l0.length : Int) == (l1.length : Int)) = true := beq_iff_eq.mpr c3
  have aS : ((l0.length : Int) != (l1.length : Int)) = false := bn c3
  have aU : (l0.length == l1.length) = true := by (simp at c3 ⊢; omega)
  clear c3
  have H' := am H
  clear H
  go_enter Try.func48, Try.ntmps48
  go_wp2
  repeat (go_quiet (fail))
  go_loopg [13] k (fun kq a7 w' => ∃ (aA : Int), a7 = .int .i64 aA ∧ qAa (qAW.l0 kq l0 l1 (l0.length : Int) aA = some r) ∧ qAa (kq ≤ k) ∧ qAD w w')
  case atStart => exact ⟨(0), (by rfl), H', ⟨Nat.le_refl _⟩, by exact qAD.refl _⟩
  case round =>
   clear H'
   obtain ⟨aA, rfl, HA, aX, ⟨m1, rfl⟩⟩ := hrel
   cases gk with
   | zero => exact absurd HA.o (by simp [qAW.l0])
   | succ k1 =>
    have H := HA.o
    clear HA
    simp only [qAW.l0] at H
    by_cases c4 : aA < (l0.length : Int)
    rotate_left
    ·rw [if_neg c4] at H
     replace c4 := d0 c4
     obtain rfl := Option.some.inj H
     go_wp2
     repeat (go_quiet (fail))
     go_ret
     exact ⟨by rfl, by repeat (first | exact qAD.refl _ | apply qAD.step)⟩
    rw [if_pos c4] at H
    replace c4 := d1 c4
    obtain ⟨c5, H⟩ := gd H
    replace c5 := d1 c5
    obtain ⟨c6, H⟩ := gd H
    replace c6 := d1 c6
    obtain ⟨c7, H⟩ := gd H
    replace c7 := d1 c7
    by_cases c8 : (!(((qAy l0 aA).f0) == ((qAy l1 aA).f0)) || (!(((qAy l0 aA).f1) == ((qAy l1 aA).f1)) || (!(((qAy l0 aA).f2.f0) == ((qAy l1 aA).f2.f0)) || (!(((qAy l0 aA).f2.f1) == ((qAy l1 aA).f2.f1)))))) = true
    ·rw [if_pos c8] at H
     have aW : (!(((qAy l0 aA).f0) == ((qAy l1 aA).f0)) || (!(((qAy l0 aA).f1) == ((qAy l1 aA).f1)) || (!(((qAy l0 aA).f2.f0) == ((qAy l1 aA).f2.f0)) || (!(((qAy l0 aA).f2.f1) == ((qAy l1 aA).f2.f1)))))) = true := c8
     clear c8
     obtain rfl := Option.some.inj H
     have aB : 0 ≤ aA := od (by assumption)
     have aC : aA < (l0.length : Int) := od (by assumption)
     obtain ⟨aQ, aN, aF, aG, aH, aI⟩ := qDo aY.o aA aB aC
     cases aN
     replace aB := eq_true aB
     replace aC := eq_true aC
     have aP : 0 ≤ aA := od (by assumption)
     have aD : aA < (l1.length : Int) := od (by assumption)
     obtain ⟨aR, aO, aJ, aK, aL, aM⟩ := qDo aZ.o aA aP aD
     cases aO
     replace aD := eq_true aD
     go_wp2
     repeat (go_quiet (fail); try go_wp2)
     go_ret
     exact ⟨by rfl, by repeat (first | exact qAD.refl _ | apply qAD.step)⟩
    rw [if_neg c8] at H
    have aW : (!(((qAy l0 aA).f0) == ((qAy l1 aA).f0)) || (!(((qAy l0 aA).f1) == ((qAy l1 aA).f1)) || (!(((qAy l0 aA).f2.f0) == ((qAy l1 aA).f2.f0)) || (!(((qAy l0 aA).f2.f1) == ((qAy l1 aA).f2.f1)))))) = false := by simpa using c8
    clear c8
    have H' := am H
    clear H
    have aB : 0 ≤ aA := od (by assumption)
    have aC : aA < (l0.length : Int) := od (by assumption)
    obtain ⟨aQ, aN, aF, aG, aH, aI⟩ := qDo aY.o aA aB aC
    cases aN
    replace aB := eq_true aB
    replace aC := eq_true aC
    have aP : 0 ≤ aA := od (by assumption)
    have aD : aA < (l1.length : Int) := od (by assumption)
    obtain ⟨aR, aO, aJ, aK, aL, aM⟩ := qDo aZ.o aA aP aD
    cases aO
    replace aD := eq_true aD
    go_wp2
    repeat (go_quiet (fail); try go_wp2)
    go_roundg k1
    case measure => have := aX.o; omega
    case rel => exact ⟨(wrap64 (aA + 1)), (by rfl), H', ⟨by have := aX.o; omega⟩, by repeat (first | exact qAD.refl _ | apply qAD.step)⟩
 ·rw [if_neg c3] at H
  have aS : ((l0.length : Int) != (l1.length : Int)) = true := bne_iff_ne.mpr c3
  obtain rfl := Option.some.inj H
  go_enter Try.func48, Try.ntmps48
  go_wp2
  repeat (go_quiet (fail))
  go_ret
  exact ⟨by rfl, by exact qAD.refl _⟩
def qBM.f (k : Nat) (a0_0 : ByteArray) (l0_1 : List Int) (a0_2 : Int) (l0_3 : List Int) (l0_4 : List (S115)) (a1_0 : ByteArray) (l1_1 : List Int) (a1_2 : Int) (l1_3 : List Int) (l1_4 : List (S115)) : Option (Bool) := if a0_0.toList = a1_0.toList then (if a0_2 = a1_2 then ((qAz.f k l0_1 l1_1).bind fun aS => (if aS = true then ((qAz.f k l0_3 l1_3).bind fun aK => (if aK = true then ((qAW.f k l0_4 l1_4).bind fun aD => (some aD)) else (some false))) else (some false))) else (some false)) else (some false)
theorem qBM.calls (k : Nat) (a0_0 : ByteArray) (aE : Option Addr) (aH : Nat) (l0_1 : List Int) (a0_2 : Int) (aF : Option Addr) (aI : Nat) (l0_3 : List Int) (aG : Option Addr) (aJ : Nat) (l0_4 : List (S115)) (a1_0 : ByteArray) (aL : Option Addr) (aO : Nat) (l1_1 : List Int) (a1_2 : Int) (aM : Option Addr) (aP : Nat) (l1_3 : List Int) (aN : Option Addr) (aQ : Nat) (l1_4 : List (S115)) (r : Bool) (w : World) (hr0_1 : Kd.C (Kd.int .i64) w aE l0_1.length l0_1) (hc0_1 : l0_1.length ≤ aH) (hr0_3 : Kd.C (Kd.int .i64) w aF l0_3.length l0_3) (hc0_3 : l0_3.length ≤ aI) (hr0_4 : Kd.C k115 w aG l0_4.length l0_4) (hc0_4 : l0_4.length ≤ aJ) (hr1_1 : Kd.C (Kd.int .i64) w aL l1_1.length l1_1) (hc1_1 : l1_1.length ≤ aO) (hr1_3 : Kd.C (Kd.int .i64) w aM l1_3.length l1_3) (hc1_3 : l1_3.length ≤ aP) (hr1_4 : Kd.C k115 w aN l1_4.length l1_4) (hc1_4 : l1_4.length ≤ aQ) (h : qBM.f k a0_0 l0_1 a0_2 l0_3 l0_4 a1_0 l1_1 a1_2 l1_3 l1_4 = some r) :
  Calls Try.prog 46 #[.agg #[.string a0_0, .slice aE l0_1.length aH, .int .i64 a0_2, .slice aF l0_3.length aI, .slice aG l0_4.length aJ], .agg #[.string a1_0, .slice aL l1_1.length aO, .int .i64 a1_2, .slice aM l1_3.length aP, .slice aN l1_4.length aQ]] w fun e w' => e = .returned (.bool r) ∧ Below w.heap.size w w' := by
 have aV := am hr0_1
 have aT := am hc0_1
 clear hr0_1 hc0_1
 have aZ := am hr0_3
 have aX := am hc0_3
 clear hr0_3 hc0_3
 have ad := am hr0_4
 have ab := am hc0_4
 clear hr0_4 hc0_4
 have aW := am hr1_1
 have aU := am hc1_1
 clear hr1_1 hc1_1
 have aa := am hr1_3
 have aY := am hc1_3
 clear hr1_3 hc1_3
 have ae := am hr1_4
 have ac := am hc1_4
 clear hr1_4 hc1_4
 have HB := am (Below.refl w.heap.size w)
 have H : (if a0_0.toList = a1_0.toList then (if a0_2 = a1_2 then ((qAz.f k l0_1 l1_1).bind fun aS => (if aS = true then ((qAz.f k l0_3 l1_3).bind fun aK => (if aK = true then ((qAW.f k l0_4 l1_4).bind fun aD => (some aD)) else (some false))) else (some false))) else (some false)) else (some false)) = some r := h
 clear h
 by_cases c3 : a0_0.toList = a1_0.toList
 ·rw [if_pos c3] at H
  have bR : (a0_0.toList == a1_0.toList) = true := beq_iff_eq.mpr c3
  have b1 : (a0_0.toList != a1_0.toList) = false := bn c3
  clear c3
  by_cases c4 : a0_2 = a1_2
  ·rw [if_pos c4] at H
   have bS : (a0_2 == a1_2) = true := beq_iff_eq.mpr c4
   clear c4
   replace H := bm H
   obtain ⟨aS, bT, H⟩ := H
   replace H : (if aS = true then ((qAz.f k l0_3 l1_3).bind fun aK => (if aK = true then ((qAW.f k l0_4 l1_4).bind fun aD => (some aD)) else (some false))) else (some false)) = some r := H
   have A5 := am bT
   clear bT
   by_cases c6 : aS = true
   ·subst c6
    replace H : ((qAz.f k l0_3 l1_3).bind fun aK => (if aK = true then ((qAW.f k l0_4 l1_4).bind fun aD => (some aD)) else (some false))) = some r := by rw [if_pos rfl] at H; exact H
    replace H := bm H
    obtain ⟨aK, bU, H⟩ := H
    replace H : (if aK = true then ((qAW.f k l0_4 l1_4).bind fun aD => (some aD)) else (some false)) = some r := H
    have A7 := am bU
    clear bU
    by_cases c8 : aK = true
    ·subst c8
     replace H : ((qAW.f k l0_4 l1_4).bind fun aD => (some aD)) = some r := by rw [if_pos rfl] at H; exact H
     replace H := bm H
     obtain ⟨aD, bV, H⟩ := H
     replace H : (some aD) = some r := H
     have A9 := am bV
     clear bV
     obtain rfl := Option.some.inj H
     go_enter Try.func46, Try.ntmps46
     go_wp2_with (first | ((with_reducible refine qAJ (N := 2) rfl ?_); refine bx 2 #[.string a0_0, .slice aE l0_1.length aH, .int .i64 a0_2, .slice aF l0_3.length aI, .slice aG l0_4.length aJ] 80 ?_; intro aC hg b2 hbox hb; have n_ := a2 (qAj HB.o hb) (am (hbox)); clear HB; obtain ⟨HB, aA⟩ := n_; clear hb hbox hg) | ((with_reducible refine qAJ (N := 3) rfl ?_); refine bx 3 #[.string a1_0, .slice aL l1_1.length aO, .int .i64 a1_2, .slice aM l1_3.length aP, .slice aN l1_4.length aQ] 80 ?_; intro aR hg bW hbox hb; have n_ := a2 (qAd (g := aC) (o := .cells #[.string a0_0, .slice aE l0_1.length aH, .int .i64 a0_2, .slice aF l0_3.length aI, .slice aG l0_4.length aJ] 80 (0, 0)) aA.o hb) (a2 (qAj HB.o hb) (am (hbox))); clear aA HB; obtain ⟨aA, HB, aB⟩ := n_; clear hb hbox hg; obtain ⟨af, ag, ah, ai, aj⟩ := c5_ bW aA.o; obtain ⟨ak, al, an, ao, ap⟩ := c5_ bW aB.o; have bM := qAr aB.o 4) | (go_at_call 47; (with_reducible refine (qAz.calls k _ _ l0_1 _ _ l1_1 true _ ?side1 ?side2 ?side3 ?side4 A5.o).mono ?_); (case side1 => exact (Kd.C_below aV.o HB.o)); (case side2 => exact aT.o); (case side3 => exact (Kd.C_below aW.o HB.o)); (case side4 => exact aU.o); rintro e w' ⟨rfl, ⟨nd, rfl⟩⟩) | (go_at_call 47; (with_reducible refine (qAz.calls k _ _ l0_3 _ _ l1_3 true _ ?side1 ?side2 ?side3 ?side4 A7.o).mono ?_); (case side1 => repeat (exact (Kd.C_below aZ.o (by repeat (with_reducible first | exact HB.o | apply qA4))))); (case side2 => exact aX.o); (case side3 => repeat (exact (Kd.C_below aa.o (by repeat (with_reducible first | exact HB.o | apply qA4))))); (case side4 => exact aY.o); rintro e w' ⟨rfl, ⟨nd, rfl⟩⟩) | (go_at_call 48; (with_reducible refine (qAW.calls k _ _ l0_4 _ _ l1_4 aD _ ?side1 ?side2 ?side3 ?side4 A9.o).mono ?_); (case side1 => repeat (exact (Kd.C_below ad.o (by repeat (with_reducible first | exact HB.o | apply qA4))))); (case side2 => exact ab.o); (case side3 => repeat (exact (Kd.C_below ae.o (by repeat (with_reducible first | exact HB.o | apply qA4))))); (case side4 => exact ac.o); rintro e w' ⟨rfl, ⟨nd, rfl⟩⟩))
     go_ret
     exact ⟨by rfl, by repeat (with_reducible first | exact HB.o | apply qA4)⟩
    ·replace c8 := Bool.eq_false_iff.mpr c8
     subst c8
     replace H : (some false) = some r := by rw [if_neg (show ¬ (false = true) by decide)] at H; exact H
     obtain rfl := Option.some.inj H
     go_enter Try.func46, Try.ntmps46
     go_wp2_with (first | ((with_reducible refine qAJ (N := 2) rfl ?_); refine bx 2 #[.string a0_0, .slice aE l0_1.length aH, .int .i64 a0_2, .slice aF l0_3.length aI, .slice aG l0_4.length aJ] 80 ?_; intro aC hg b3 hbox hb; have n_ := a2 (qAj HB.o hb) (am (hbox)); clear HB; obtain ⟨HB, aA⟩ := n_; clear hb hbox hg) | ((with_reducible refine qAJ (N := 3) rfl ?_); refine bx 3 #[.string a1_0, .slice aL l1_1.length aO, .int .i64 a1_2, .slice aM l1_3.length aP, .slice aN l1_4.length aQ] 80 ?_; intro aR hg bX hbox hb; have n_ := a2 (qAd (g := aC) (o := .cells #[.string a0_0, .slice aE l0_1.length aH, .int .i64 a0_2, .slice aF l0_3.length aI, .slice aG l0_4.length aJ] 80 (0, 0)) aA.o hb) (a2 (qAj HB.o hb) (am (hbox))); clear aA HB; obtain ⟨aA, HB, aB⟩ := n_; clear hb hbox hg; obtain ⟨aq, ar, au, av⟩ := c4_ bX aA.o; obtain ⟨aw, ax, ay, az⟩ := c4_ bX aB.o; have bN := qAr aB.o 4) | (go_at_call 47; (with_reducible refine (qAz.calls k _ _ l0_1 _ _ l1_1 true _ ?side1 ?side2 ?side3 ?side4 A5.o).mono ?_); (case side1 => exact (Kd.C_below aV.o HB.o)); (case side2 => exact aT.o); (case side3 => exact (Kd.C_below aW.o HB.o)); (case side4 => exact aU.o); rintro e w' ⟨rfl, ⟨nd, rfl⟩⟩) | (go_at_call 47; (with_reducible refine (qAz.calls k _ _ l0_3 _ _ l1_3 false _ ?side1 ?side2 ?side3 ?side4 A7.o).mono ?_); (case side1 => repeat (exact (Kd.C_below aZ.o (by repeat (with_reducible first | exact HB.o | apply qA4))))); (case side2 => exact aX.o); (case side3 => repeat (exact (Kd.C_below aa.o (by repeat (with_reducible first | exact HB.o | apply qA4))))); (case side4 => exact aY.o); rintro e w' ⟨rfl, ⟨nd, rfl⟩⟩))
     go_ret
     exact ⟨by rfl, by repeat (with_reducible first | exact HB.o | apply qA4)⟩
   ·replace c6 := Bool.eq_false_iff.mpr c6
    subst c6
    replace H : (some false) = some r := by rw [if_neg (show ¬ (false = true) by decide)] at H; exact H
    obtain rfl := Option.some.inj H
    go_enter Try.func46, Try.ntmps46
    go_wp2_with (first | ((with_reducible refine qAJ (N := 2) rfl ?_); refine bx 2 #[.string a0_0, .slice aE l0_1.length aH, .int .i64 a0_2, .slice aF l0_3.length aI, .slice aG l0_4.length aJ] 80 ?_; intro aC hg b4 hbox hb; have n_ := a2 (qAj HB.o hb) (am (hbox)); clear HB; obtain ⟨HB, aA⟩ := n_; clear hb hbox hg) | ((with_reducible refine qAJ (N := 3) rfl ?_); refine bx 3 #[.string a1_0, .slice aL l1_1.length aO, .int .i64 a1_2, .slice aM l1_3.length aP, .slice aN l1_4.length aQ] 80 ?_; intro aR hg bY hbox hb; have n_ := a2 (qAd (g := aC) (o := .cells #[.string a0_0, .slice aE l0_1.length aH, .int .i64 a0_2, .slice aF l0_3.length aI, .slice aG l0_4.length aJ] 80 (0, 0)) aA.o hb) (a2 (qAj HB.o hb) (am (hbox))); clear aA HB; obtain ⟨aA, HB, aB⟩ := n_; clear hb hbox hg; obtain ⟨bA, bB, bC⟩ := c3_ bY aA.o; obtain ⟨bD, bE, bF⟩ := c3_ bY aB.o; have bO := qAr aB.o 4) | (go_at_call 47; (with_reducible refine (qAz.calls k _ _ l0_1 _ _ l1_1 false _ ?side1 ?side2 ?side3 ?side4 A5.o).mono ?_); (case side1 => exact (Kd.C_below aV.o HB.o)); (case side2 => exact aT.o); (case side3 => exact (Kd.C_below aW.o HB.o)); (case side4 => exact aU.o); rintro e w' ⟨rfl, ⟨nd, rfl⟩⟩))
    go_ret
    exact ⟨by rfl, by repeat (with_reducible first | exact HB.o | apply qA4)⟩
  ·rw [if_neg c4] at H
   have bS : (a0_2 == a1_2) = false := bf c4
   obtain rfl := Option.some.inj H
   go_enter Try.func46, Try.ntmps46
   go_wp2_with (first | ((with_reducible refine qAJ (N := 2) rfl ?_); refine bx 2 #[.string a0_0, .slice aE l0_1.length aH, .int .i64 a0_2, .slice aF l0_3.length aI, .slice aG l0_4.length aJ] 80 ?_; intro aC hg b5 hbox hb; have n_ := a2 (qAj HB.o hb) (am (hbox)); clear HB; obtain ⟨HB, aA⟩ := n_; clear hb hbox hg) | ((with_reducible refine qAJ (N := 3) rfl ?_); refine bx 3 #[.string a1_0, .slice aL l1_1.length aO, .int .i64 a1_2, .slice aM l1_3.length aP, .slice aN l1_4.length aQ] 80 ?_; intro aR hg bZ hbox hb; have n_ := a2 (qAd (g := aC) (o := .cells #[.string a0_0, .slice aE l0_1.length aH, .int .i64 a0_2, .slice aF l0_3.length aI, .slice aG l0_4.length aJ] 80 (0, 0)) aA.o hb) (a2 (qAj HB.o hb) (am (hbox))); clear aA HB; obtain ⟨aA, HB, aB⟩ := n_; clear hb hbox hg; obtain ⟨bG, -, bH⟩ := c3_ bZ aA.o; obtain ⟨bI, -, bJ⟩ := c3_ bZ aB.o; have bP := qAr aB.o 4))
   go_ret
   exact ⟨by rfl, by exact HB.o⟩
 ·rw [if_neg c3] at H
  have bR : (a0_0.toList == a1_0.toList) = false := bf c3
  obtain rfl := Option.some.inj H
  go_enter Try.func46, Try.ntmps46
  go_wp2_with (first | ((with_reducible refine qAJ (N := 2) rfl ?_); refine bx 2 #[.string a0_0, .slice aE l0_1.length aH, .int .i64 a0_2, .slice aF l0_3.length aI, .slice aG l0_4.length aJ] 80 ?_; intro aC hg b6 hbox hb; have n_ := a2 (qAj HB.o hb) (am (hbox)); clear HB; obtain ⟨HB, aA⟩ := n_; clear hb hbox hg) | ((with_reducible refine qAJ (N := 3) rfl ?_); refine bx 3 #[.string a1_0, .slice aL l1_1.length aO, .int .i64 a1_2, .slice aM l1_3.length aP, .slice aN l1_4.length aQ] 80 ?_; intro aR hg b0 hbox hb; have n_ := a2 (qAd (g := aC) (o := .cells #[.string a0_0, .slice aE l0_1.length aH, .int .i64 a0_2, .slice aF l0_3.length aI, .slice aG l0_4.length aJ] 80 (0, 0)) aA.o hb) (a2 (qAj HB.o hb) (am (hbox))); clear aA HB; obtain ⟨aA, HB, aB⟩ := n_; clear hb hbox hg; have bK := c1_ b0 aA.o; have bL := c1_ b0 aB.o; have bQ := qAr aB.o 4))
  go_ret
  exact ⟨by rfl, by exact HB.o⟩
end Q
end
section
namespace Q
open Go.RowKit PA PB PC
open Val Ins
noncomputable def eqB {α : Type} (a b : α) : Bool := @decide (a = b) (Classical.propDecidable _)
theorem qB2 {α : Type} {a b : α} : eqB a b = true ↔ a = b := by
 unfold eqB
 exact @decide_eq_true_iff (a = b) (Classical.propDecidable _)
theorem qCE {α : Type} {a b : α} {r : Bool} (h : r = true ↔ a = b) : eqB a b = r := by
 cases r with
 | true => exact qB2.2 (h.1 rfl)
 | false =>
  cases e : eqB a b with
  | false => rfl
  | true => exact (h.2 (qB2.1 e)).symm
theorem eq_list {α : Type} (d : α) (ne : α → α → Bool) (hne : ∀ x y, ne x y = true ↔ x ≠ y) (G : Nat → Option Bool) (F : Nat → Int → Option Bool) (a b : List α) (hl : a.length ≤ 4611686018427387904)
  (hG : ∀ k, G k = if (a.length : Int) = (b.length : Int) then F k 0 else some false)
  (hF : ∀ k i, F (k + 1) i = if i < (a.length : Int) then (if 0 ≤ i then (if i < (a.length : Int) then (if i < (b.length : Int) then (if ne (a.getD i.toNat d) (b.getD i.toNat d) = true then some false else F k (wrap64 (i + 1))) else none) else none) else none) else some true) : Ev G (eqB a b) := by
 by_cases hab : a.length = b.length
 ·have loop : ∀ (n j : Nat), j + n = a.length → ∃ r, Ev (fun k => F k (j : Int)) r ∧ (r = true ↔ a.drop j = b.drop j) := by
   intro n
   induction n with
   | zero =>
    intro j hj
    refine ⟨true, Ev.step (f := fun _ => some true) (fun k => ?_) (Ev.now _), ?_⟩
    ·rw [hF, if_neg (by omega)]
    rw [List.drop_eq_nil_of_le (by omega), List.drop_eq_nil_of_le (by omega)]; simp
   | succ n ih =>
    intro j hj
    have hc := qBe a d (j : Int) (by omega) (by omega)
    have hd := qBe b d (j : Int) (by omega) (by omega)
    rw [Int.toNat_natCast, show ((j : Int) + 1).toNat = j + 1 from by omega] at hc hd
    cases hx : ne (a.getD j d) (b.getD j d) with
    | true =>
     refine ⟨false, Ev.step (f := fun _ => some false) (fun k => ?_) (Ev.now _), ?_⟩
     ·rw [hF, if_pos (by omega), if_pos (by omega), if_pos (by omega), if_pos (by omega), Int.toNat_natCast, if_pos hx]
     have h1 := (hne _ _).1 hx
     rw [hc, hd]
     constructor
     ·intro h; cases h
     intro h; injection h with h _; exact absurd h h1
    | false =>
     obtain ⟨r, hr, hq⟩ := ih (j + 1) (by omega)
     have he : a.getD j d = b.getD j d := by
      rcases Classical.em (a.getD j d = b.getD j d) with h | h
      ·exact h
      rw [(hne _ _).2 h] at hx; cases hx
     refine ⟨r, Ev.step (fun k => ?_) hr, ?_⟩
     ·rw [hF, if_pos (by omega), if_pos (by omega), if_pos (by omega), if_pos (by omega), Int.toNat_natCast, if_neg (by rw [hx]; decide), show wrap64 ((j : Int) + 1) = ((j + 1 : Nat) : Int) from by unfold wrap64; omega]
     rw [hq, hc, hd, he]
     constructor
     ·intro h; rw [h]
     intro h; injection h
  obtain ⟨r, hr, hq⟩ := loop a.length 0 (by omega)
  rw [List.drop_zero, List.drop_zero] at hq
  rw [qCE hq]
  refine Ev.congr (fun k => ?_) hr
  rw [hG, if_pos (by omega)]; rfl
 ·rw [qCE (r := false) ⟨nofun, fun h => absurd (by rw [h]) hab⟩]
  refine Ev.congr (f := fun _ => some false) (fun k => ?_) (Ev.now _)
  rw [hG, if_neg (by omega)]
theorem qCg {s t : ByteArray} : s.toList = t.toList ↔ s = t := by
 rw [Lib.toList_data, Lib.toList_data]
 constructor
 ·intro h
  cases s; cases t
  congr 1
  exact Array.ext' h
 intro h; rw [h]
theorem eqvars_ev (a b : List S71) (hl : a.length ≤ 4611686018427387904) : Ev (fun k => qBs.f k a b) (eqB a b) := by
 refine eq_list z71 (fun x y => (!(x.f0.toList == y.f0.toList) || (!(x.f1.f0 == y.f1.f0) || !(x.f1.f1 == y.f1.f1)))) (fun x y => ?_) _ (fun k i => qBs.l0 k a b (a.length : Int) i) a b hl (fun k => rfl) (fun k i => rfl)
 by_cases e : x = y
 ·subst e; simp
 refine ⟨fun _ => e, fun _ => ?_⟩
 rcases Bool.eq_false_or_eq_true (!(x.f0.toList == y.f0.toList) || (!(x.f1.f0 == y.f1.f0) || !(x.f1.f1 == y.f1.f1))) with h | h
 ·exact h
 refine absurd ?_ e
 simp only [Bool.or_eq_false_iff, Bool.not_eq_false', beq_iff_eq, qCg] at h
 obtain ⟨x0, x1, x2⟩ := x
 obtain ⟨y0, y1, y2⟩ := y
 obtain ⟨h0, h1, h2⟩ := h
 simp only at h0 h1 h2
 subst h0; subst h1; subst h2; rfl
theorem eqrels_ev (a b : List S82) (hl : a.length ≤ 4611686018427387904) : Ev (fun k => qAS.f k a b) (eqB a b) := by
 refine eq_list z82 (fun x y => (!(x.f0 == y.f0) || (!(x.f1 == y.f1) || (!(x.f2 == y.f2) || (!(x.f3.toList == y.f3.toList) || !(x.f4.toList == y.f4.toList)))))) (fun x y => ?_) _ (fun k i => qAS.l0 k a b (a.length : Int) i) a b hl (fun k => rfl) (fun k i => rfl)
 by_cases e : x = y
 ·subst e; simp
 refine ⟨fun _ => e, fun _ => ?_⟩
 rcases Bool.eq_false_or_eq_true (!(x.f0 == y.f0) || (!(x.f1 == y.f1) || (!(x.f2 == y.f2) || (!(x.f3.toList == y.f3.toList) || !(x.f4.toList == y.f4.toList))))) with h | h
 ·exact h
 refine absurd ?_ e
 simp only [Bool.or_eq_false_iff, Bool.not_eq_false', beq_iff_eq, qCg] at h
 obtain ⟨x0, x1, x2, x3, x4⟩ := x
 obtain ⟨y0, y1, y2, y3, y4⟩ := y
 obtain ⟨h0, h1, h2, h3, h4⟩ := h
 simp only at h0 h1 h2 h3 h4
 subst h0; subst h1; subst h2; subst h3; subst h4; rfl
theorem eqins_ev (a b : List S115) (hl : a.length ≤ 4611686018427387904) : Ev (fun k => qAW.f k a b) (eqB a b) := by
 refine eq_list z115 (fun x y => (!(x.f0 == y.f0) || (!(x.f1 == y.f1) || (!(x.f2.f0 == y.f2.f0) || !(x.f2.f1 == y.f2.f1))))) (fun x y => ?_) _ (fun k i => qAW.l0 k a b (a.length : Int) i) a b hl (fun k => rfl) (fun k i => rfl)
 by_cases e : x = y
 ·subst e; simp
 refine ⟨fun _ => e, fun _ => ?_⟩
 rcases Bool.eq_false_or_eq_true (!(x.f0 == y.f0) || (!(x.f1 == y.f1) || (!(x.f2.f0 == y.f2.f0) || !(x.f2.f1 == y.f2.f1)))) with h | h
 ·exact h
 refine absurd ?_ e
 simp only [Bool.or_eq_false_iff, Bool.not_eq_false', beq_iff_eq] at h
 obtain ⟨x0, x1, x2, x3⟩ := x
 obtain ⟨y0, y1, y2, y3⟩ := y
 obtain ⟨h0, h1, h2, h3⟩ := h
 simp only at h0 h1 h2 h3
 subst h0; subst h1; subst h2; subst h3; rfl
theorem eqints_ev (a b : List Int) (hl : a.length ≤ 4611686018427387904) : Ev (fun k => qAz.f k a b) (eqB a b) := by
 refine eq_list 0 (fun x y => !(x == y)) (fun x y => by simp) _ (fun k i => qAz.l0 k a b (a.length : Int) i) a b hl (fun k => rfl) (fun k i => ?_)
 have hc : ∀ X : Option Bool, (if rd a i = rd b i then X else some false) = (if (!(rd a i == rd b i)) = true then some false else X) := fun X => by
  by_cases e : rd a i = rd b i <;> simp [e]
 simp only [qAz.l0, hc]
 rfl
def fnSmall (x : S80) : Prop := x.f1.f0.f0.length ≤ 4611686018427387904 ∧ x.f1.f1.length ≤ 4611686018427387904 ∧ x.f1.f2.length ≤ 4611686018427387904
theorem eqfn_ev (x y : S80) (h : fnSmall x) : Ev (fun k => qBM.f k x.f0 x.f1.f0.f0 x.f1.f0.f1 x.f1.f1 x.f1.f2 y.f0 y.f1.f0.f0 y.f1.f0.f1 y.f1.f1 y.f1.f2) (eqB x y) := by
 obtain ⟨h0, h1, h2⟩ := h
 have no : ∀ {p : Prop}, (x = y → p) → ¬ p → eqB x y = false := fun hp hn => qCE ⟨nofun, fun h => absurd (hp h) hn⟩
 unfold qBM.f
 by_cases e0 : x.f0 = y.f0
 rotate_left
 ·rw [no (fun h => by rw [h]) e0]
  have e0' : ¬ x.f0.toList = y.f0.toList := fun h => e0 (qCg.1 h)
  simp only [e0', if_false]
  exact Ev.now _
 have e0' := qCg.2 e0
 simp only [e0', if_true]
 by_cases e1 : x.f1.f0.f1 = y.f1.f0.f1
 rotate_left
 ·rw [no (fun h => by rw [h]) e1]
  simp only [e1, if_false]
  exact Ev.now _
 simp only [e1, if_true]
 refine Ev.bind (eqints_ev _ _ h0) ?_
 by_cases e2 : x.f1.f0.f0 = y.f1.f0.f0
 rotate_left
 ·rw [no (fun h => by rw [h]) e2]
  simp only [show eqB x.f1.f0.f0 y.f1.f0.f0 = false from qCE ⟨nofun, fun h => absurd h e2⟩]
  exact Ev.now _
 simp only [qB2.2 e2, if_true]
 refine Ev.bind (eqints_ev _ _ h1) ?_
 by_cases e3 : x.f1.f1 = y.f1.f1
 rotate_left
 ·rw [no (fun h => by rw [h]) e3]
  simp only [show eqB x.f1.f1 y.f1.f1 = false from qCE ⟨nofun, fun h => absurd h e3⟩]
  exact Ev.now _
 simp only [qB2.2 e3, if_true]
 have e4 : eqB x y = eqB x.f1.f2 y.f1.f2 := qCE ⟨fun h => by
   have h4 := qB2.1 h
   obtain ⟨x0, ⟨⟨x1, x2⟩, x3, x4⟩⟩ := x
   obtain ⟨y0, ⟨⟨y1, y2⟩, y3, y4⟩⟩ := y
   simp only at e0 e1 e2 e3 h4
   subst e0; subst e1; subst e2; subst e3; subst h4; rfl, fun h => qB2.2 (by rw [h])⟩
 rw [e4]
 exact Ev.bind (eqins_ev _ _ h2) (Ev.now _)
theorem eq_take {α : Type} (a b : List α) (hl : a.length = b.length) (h : ∀ (j : Nat) x y, a[j]? = some x → b[j]? = some y → x = y) : a = b := by
 refine List.ext_getElem hl fun j h1 h2 => ?_
 exact h j _ _ (List.getElem?_eq_getElem h1) (List.getElem?_eq_getElem h2)
theorem eqfns_any (A1 A2 : Option Addr) (c1 c2 : Nat) (l1 l2 : List S80) (w : World) (hr1 : Kd.C k80 w A1 l1.length l1) (hr2 : Kd.C k80 w A2 l2.length l2) (hl : l1.length ≤ 4611686018427387904) (hs : ∀ x ∈ l1, fnSmall x) :
  Calls Try.prog 45 #[.slice A1 l1.length c1, .slice A2 l2.length c2, .func (.func 46) #[] #[]] w fun e w' => e = .returned (.bool (eqB l1 l2)) ∧ Below w.heap.size w w' := by
 obtain ⟨n1, hn1⟩ : ∃ n, n = l1.length := ⟨_, rfl⟩
 obtain ⟨n2, hn2⟩ : ∃ n, n = l2.length := ⟨_, rfl⟩
 rw [← hn1] at hr1 hl ⊢
 rw [← hn2] at hr2 ⊢
 have HR1 := am hr1
 have HR2 := am hr2
 have HN1 := am hn1
 have HN2 := am hn2
 have HS := am hs
 clear hr1 hr2 hn1 hn2 hs
 by_cases hne : n1 = n2
 case neg =>
  have hq : ((n1 : Int) != (n2 : Int)) = true := bne_iff_ne.mpr (by omega)
  have hq2 : (n1 == n2) = false := beq_eq_false_iff_ne.mpr hne
  have HF : qAa (eqB l1 l2 = false) := ⟨qCE ⟨nofun, fun h => absurd (by rw [HN1.out, HN2.out, h]) hne⟩⟩
  go_enter Try.func45, Try.ntmps45
  go_wp2
  go_ret
  exact ⟨by rw [HF.out]; rfl, Below.refl _ _⟩
 subst hne
 have hq : ((n1 : Int) != (n1 : Int)) = false := bne_eq_false_iff_eq.mpr rfl
 go_enter Try.func45, Try.ntmps45
 go_wp2
 go_loopg [7, 8, 9, 17] n1 (fun gg _ _ _ s17 wr => ∃ kk : Nat, kk ≤ n1 ∧ n1 - kk ≤ gg ∧ s17 = .int .i64 kk ∧ qAa (∀ (j : Nat) x y, j < kk → l1[j]? = some x → l2[j]? = some y → x = y) ∧ qAa (Below w.heap.size w wr))
 case atStart => exact ⟨0, Nat.zero_le _, by omega, rfl, ⟨fun j x y hj => absurd hj (Nat.not_lt_zero _)⟩, ⟨Below.refl _ _⟩⟩
 case round =>
  obtain ⟨kk, hkk, hg, rfl, HA, HB⟩ := hrel
  by_cases hlt : kk < n1
  rotate_left
  ·have hltz : ¬ (kk : Int) < (n1 : Int) := by omega
   have : kk = n1 := by omega
   subst this
   go_wp2
   go_ret
   refine ⟨?_, HB.out⟩
   rw [qB2.2 (eq_take l1 l2 (by rw [← HN1.out, ← HN2.out]) fun j x y hx hy => HA.out j x y (by rw [HN1.out]; exact (List.getElem?_eq_some_iff.1 hx).1) hx hy)]
   rfl
  have hltz : (kk : Int) < (n1 : Int) := by omega
  have h0 : (0 : Int) ≤ (kk : Int) := by omega
  obtain ⟨ad, D1, d1, D3, d3, D4, d4, ea, hx0, hx1, hx2, hx3, hx4, xl1, xC1, xl3, xC3, xl4, xC4⟩ := qDW HR1.out (kk : Int) h0 hltz
  subst ea
  obtain ⟨bd, E1, e1, E3, e3, E4, e4, eb, hy0, hy1, hy2, hy3, hy4, yl1, yC1, yl3, yC3, yl4, yC4⟩ := qDW HR2.out (kk : Int) h0 hltz
  subst eb
  rw [Int.toNat_natCast] at hx0 hx1 hx2 hx3 hx4 hy0 hy1 hy2 hy3 hy4
  replace hx0 := cb HB hx0
  replace hx1 := cb HB hx1
  replace hx2 := cb HB hx2
  replace hx3 := cb HB hx3
  replace hx4 := cb HB hx4
  replace hy0 := cb HB hy0
  replace hy1 := cb HB hy1
  replace hy2 := cb HB hy2
  replace hy3 := cb HB hy3
  replace hy4 := cb HB hy4
  obtain ⟨x, hx⟩ : ∃ x, x = qAl l1 (kk : Int) := ⟨_, rfl⟩
  obtain ⟨y, hy⟩ : ∃ x, x = qAl l2 (kk : Int) := ⟨_, rfl⟩
  rw [← hx] at hx0 hx1 hx2 hx3 hx4 xl1 xC1 xl3 xC3 xl4 xC4
  rw [← hy] at hy0 hy1 hy2 hy3 hy4 yl1 yC1 yl3 yC3 yl4 yC4
  have hgx : l1[kk]? = some x := by rw [hx]; exact qCu l1 z80 kk (by have := HN1.out; omega)
  have HX := am hgx
  have HY : qAa (l2[kk]? = some y) := ⟨by rw [hy]; exact qCu l2 z80 kk (by have := HN2.out; omega)⟩
  obtain ⟨kf, hkf⟩ := (eqfn_ev x y (HS.out x (List.mem_of_getElem? hgx))).rounds
  have HC : qAa (∀ W, Below w.heap.size w W → Calls Try.prog 46 #[.agg #[.string x.f0, .slice D1 x.f1.f0.f0.length d1, .int .i64 x.f1.f0.f1, .slice D3 x.f1.f1.length d3, .slice D4 x.f1.f2.length d4], .agg #[.string y.f0, .slice E1 y.f1.f0.f0.length e1, .int .i64 y.f1.f0.f1, .slice E3 y.f1.f1.length e3, .slice E4 y.f1.f2.length e4]] W fun e w' => e = .returned (.bool (eqB x y)) ∧ Below W.heap.size W w') :=
   ⟨fun W hW => qBM.calls kf x.f0 D1 d1 x.f1.f0.f0 x.f1.f0.f1 D3 d3 x.f1.f1 D4 d4 x.f1.f2 y.f0 E1 e1 y.f1.f0.f0 y.f1.f0.f1 E3 e3 y.f1.f1 E4 e4 y.f1.f2 _ W (Kd.C_below xC1 hW) xl1 (Kd.C_below xC3 hW) xl3 (Kd.C_below xC4 hW) xl4 (Kd.C_below yC1 hW) yl1 (Kd.C_below yC3 hW) yl3 (Kd.C_below yC4 hW) yl4 hkf⟩
  clear hx hy xl1 xC1 xl3 xC3 xl4 xC4 yl1 yC1 yl3 yC3 yl4 yC4 hkf hgx
  have hbl : (bd.add (kk * 5)).block < wr.heap.size := World.block_lt_of_cell? wr _ hy0
  obtain ⟨xa, hxa⟩ : ∃ q, q = x.f1.f0.f0.length := ⟨_, rfl⟩
  obtain ⟨xb, hxb⟩ : ∃ q, q = x.f1.f1.length := ⟨_, rfl⟩
  obtain ⟨xc, hxc⟩ : ∃ q, q = x.f1.f2.length := ⟨_, rfl⟩
  obtain ⟨ya, hya⟩ : ∃ q, q = y.f1.f0.f0.length := ⟨_, rfl⟩
  obtain ⟨yb, hyb⟩ : ∃ q, q = y.f1.f1.length := ⟨_, rfl⟩
  obtain ⟨yc, hyc⟩ : ∃ q, q = y.f1.f2.length := ⟨_, rfl⟩
  rw [← hxa, ← hxb, ← hxc, ← hya, ← hyb, ← hyc] at HC
  rw [← hxa] at hx1
  rw [← hxb] at hx3
  rw [← hxc] at hx4
  rw [← hya] at hy1
  rw [← hyb] at hy3
  rw [← hyc] at hy4
  obtain ⟨xs, hxs⟩ : ∃ q, q = x.f0 := ⟨_, rfl⟩
  obtain ⟨ys, hys⟩ : ∃ q, q = y.f0 := ⟨_, rfl⟩
  obtain ⟨xr, hxr⟩ : ∃ q, q = x.f1.f0.f1 := ⟨_, rfl⟩
  obtain ⟨yr, hyr⟩ : ∃ q, q = y.f1.f0.f1 := ⟨_, rfl⟩
  rw [← hxs, ← hxr, ← hys, ← hyr] at HC
  rw [← hxs] at hx0
  rw [← hxr] at hx2
  rw [← hys] at hy0
  rw [← hyr] at hy2
  clear hxa hxb hxc hya hyb hyc hxs hys hxr hyr
  obtain ⟨b, hb⟩ : ∃ b, b = eqB x y := ⟨_, rfl⟩
  rw [← hb] at HC
  have HQ := am hb
  clear hb
  cases b with
  | false =>
   go_wp2_with (go_at_call 46; refine (HC.out _ (qA3 HB.out HB.out.size (((Below.refl wr.heap.size wr).alloc (Nat.le_refl _) _).alloc (by simp) _))).mono ?_; rintro e w1 ⟨rfl, hw⟩; have HB2 := am (qA3 HB.out HB.out.size ((((Below.refl wr.heap.size wr).alloc (Nat.le_refl _) _).alloc (by simp) _).trans (hw.mono (by simp; omega)))); clear hw)
   go_ret
   refine ⟨?_, HB2.out⟩
   rw [qCE (r := false) ⟨nofun, fun h => by
     have h1 := HX.out
     rw [h, HY.out] at h1
     have h2 := qB2.2 (Option.some.inj h1).symm
     rw [← HQ.out] at h2; cases h2⟩]; rfl
  | true =>
   go_wp2_with (go_at_call 46; refine (HC.out _ (qA3 HB.out HB.out.size (((Below.refl wr.heap.size wr).alloc (Nat.le_refl _) _).alloc (by simp) _))).mono ?_; rintro e w1 ⟨rfl, hw⟩; have HB2 := am (qA3 HB.out HB.out.size ((((Below.refl wr.heap.size wr).alloc (Nat.le_refl _) _).alloc (by simp) _).trans (hw.mono (by simp; omega)))); clear hw)
   go_roundg (n1 - (kk + 1))
   case measure => omega
   case rel =>
    refine ⟨kk + 1, by omega, by omega, by go_num, ⟨fun j u v hj hu hv => ?_⟩, HB2⟩
    by_cases e : j = kk
    rotate_left
    ·exact HA.out j u v (by omega) hu hv
    subst e
    rw [HX.out] at hu; rw [HY.out] at hv
    injection hu with hu; injection hv with hv; subst hu; subst hv
    exact qB2.1 HQ.out.symm
noncomputable def sameO (m : ByteArray) (vs : List S71) (fs : List S80) (rs : List S82) (m' : ByteArray) (vs' : List S71) (fs' : List S80) (rs' : List S82) : Bool := eqB (m, vs, fs, rs) (m', vs', fs', rs')
def smallO (vs : List S71) (fs : List S80) (rs : List S82) : Prop := vs.length ≤ 4611686018427387904 ∧ fs.length ≤ 4611686018427387904 ∧ rs.length ≤ 4611686018427387904 ∧ ∀ x ∈ fs, fnSmall x
open Classical in
noncomputable def qAK.f (a0_0 : ByteArray) (l0_1 : List (S71)) (l0_2 : List (S80)) (l0_3 : List (S82)) (a1_0 : ByteArray) (l1_1 : List (S71)) (l1_2 : List (S80)) (l1_3 : List (S82)) : Option (Bool) :=
 if smallO l0_1 l0_2 l0_3 then some (sameO a0_0 l0_1 l0_2 l0_3 a1_0 l1_1 l1_2 l1_3) else none
theorem qAK.calls (a0_0 : ByteArray) (A0_1 : Option Addr) (c0_1 : Nat) (l0_1 : List (S71)) (A0_2 : Option Addr) (c0_2 : Nat) (l0_2 : List (S80)) (A0_3 : Option Addr) (c0_3 : Nat) (l0_3 : List (S82)) (a1_0 : ByteArray) (A1_1 : Option Addr) (c1_1 : Nat) (l1_1 : List (S71)) (A1_2 : Option Addr) (c1_2 : Nat) (l1_2 : List (S80)) (A1_3 : Option Addr) (c1_3 : Nat) (l1_3 : List (S82)) (r : Bool) (w : World) (hr0_1 : Kd.C k71 w A0_1 l0_1.length l0_1) (hc0_1 : l0_1.length ≤ c0_1) (hr0_2 : Kd.C k80 w A0_2 l0_2.length l0_2) (hc0_2 : l0_2.length ≤ c0_2) (hr0_3 : Kd.C k82 w A0_3 l0_3.length l0_3) (hc0_3 : l0_3.length ≤ c0_3) (hr1_1 : Kd.C k71 w A1_1 l1_1.length l1_1) (hc1_1 : l1_1.length ≤ c1_1) (hr1_2 : Kd.C k80 w A1_2 l1_2.length l1_2) (hc1_2 : l1_2.length ≤ c1_2) (hr1_3 : Kd.C k82 w A1_3 l1_3.length l1_3) (hc1_3 : l1_3.length ≤ c1_3) (h : qAK.f a0_0 l0_1 l0_2 l0_3 a1_0 l1_1 l1_2 l1_3 = some r) :
  Calls Try.prog 12 #[.agg #[.string a0_0, .slice A0_1 l0_1.length c0_1, .slice A0_2 l0_2.length c0_2, .slice A0_3 l0_3.length c0_3], .agg #[.string a1_0, .slice A1_1 l1_1.length c1_1, .slice A1_2 l1_2.length c1_2, .slice A1_3 l1_3.length c1_3]] w fun e w' => e = .returned (.bool r) ∧ Below w.heap.size w w' := by
 unfold qAK.f at h
 split at h
 case isFalse => cases h
 rename_i hs
 obtain ⟨s1, s2, s3, s4⟩ := hs
 replace h := Option.some.inj h
 have hmf : ∀ (fn : Fn) (first cap : Array Value) (w : World), (Instr.makeFunc fn first cap).run Try.prog w = .ok (.func fn first cap) w := fun _ _ _ _ => rfl
 obtain ⟨kv, hkv⟩ := (eqvars_ev l0_1 l1_1 s1).rounds
 obtain ⟨kr, hkr⟩ := (eqrels_ev l0_3 l1_3 s3).rounds
 obtain ⟨WB, hWB⟩ : ∃ WB, WB = (w.alloc (.cells #[.string a0_0, .slice A0_1 l0_1.length c0_1, .slice A0_2 l0_2.length c0_2, .slice A0_3 l0_3.length c0_3] 27)).alloc (.cells #[.string a1_0, .slice A1_1 l1_1.length c1_1, .slice A1_2 l1_2.length c1_2, .slice A1_3 l1_3.length c1_3] 27) := ⟨_, rfl⟩
 have hBB : Below w.heap.size w WB := hWB ▸ ((Below.refl _ _).alloc (Nat.le_refl _) _).alloc (by simp) _
 have HV : qAa (∀ W, Below w.heap.size w W → Calls Try.prog 43 #[.slice A0_1 l0_1.length c0_1, .slice A1_1 l1_1.length c1_1] W fun e w' => e = .returned (.bool (eqB l0_1 l1_1)) ∧ Below W.heap.size W w') :=
  ⟨fun W hW => (qBs.calls kv A0_1 c0_1 l0_1 A1_1 c1_1 l1_1 _ W (Kd.C_below hr0_1 hW) hc0_1 (Kd.C_below hr1_1 hW) hc1_1 hkv).mono fun e w' ⟨h1, h2⟩ => ⟨h1, h2.below⟩⟩
 have HR : qAa (∀ W, Below w.heap.size w W → Calls Try.prog 44 #[.slice A0_3 l0_3.length c0_3, .slice A1_3 l1_3.length c1_3] W fun e w' => e = .returned (.bool (eqB l0_3 l1_3)) ∧ Below W.heap.size W w') :=
  ⟨fun W hW => (qAS.calls kr A0_3 c0_3 l0_3 A1_3 c1_3 l1_3 _ W (Kd.C_below hr0_3 hW) hc0_3 (Kd.C_below hr1_3 hW) hc1_3 hkr).mono fun e w' ⟨h1, h2⟩ => ⟨h1, h2.below⟩⟩
 have HF : qAa (∀ W, Below w.heap.size w W → Calls Try.prog 45 #[.slice A0_2 l0_2.length c0_2, .slice A1_2 l1_2.length c1_2, .func (.func 46) #[] #[]] W fun e w' => e = .returned (.bool (eqB l0_2 l1_2)) ∧ Below W.heap.size W w') :=
  ⟨fun W hW => eqfns_any A0_2 A1_2 c0_2 c1_2 l0_2 l1_2 W (Kd.C_below hr0_2 hW) (Kd.C_below hr1_2 hW) s2 s4⟩
 have hno : ∀ {p : Prop}, ((a0_0, l0_1, l0_2, l0_3) = (a1_0, l1_1, l1_2, l1_3) → p) → ¬ p → sameO a0_0 l0_1 l0_2 l0_3 a1_0 l1_1 l1_2 l1_3 = false := fun hp hn => qCE ⟨nofun, fun h => absurd (hp h) hn⟩
 obtain ⟨b0, hb0⟩ : ∃ b, b = (a0_0.toList == a1_0.toList) := ⟨_, rfl⟩
 obtain ⟨b1, hb1⟩ : ∃ b, b = eqB l0_1 l1_1 := ⟨_, rfl⟩
 obtain ⟨b2, hb2⟩ : ∃ b, b = eqB l0_3 l1_3 := ⟨_, rfl⟩
 obtain ⟨b3, hb3⟩ : ∃ b, b = eqB l0_2 l1_2 := ⟨_, rfl⟩
 have hall : r = (b0 && (b1 && (b2 && b3))) := by
  rw [← h]
  refine qCE ?_
  rw [hb0, hb1, hb2, hb3, Bool.and_eq_true, Bool.and_eq_true, Bool.and_eq_true, beq_iff_eq, qCg, qB2, qB2, qB2]
  constructor
  ·rintro ⟨e0, e1, e2, e3⟩; rw [e0, e1, e2, e3]
  intro e; injection e with e0 e; injection e with e1 e; injection e with e2 e3; exact ⟨e0, e1, e3, e2⟩
 rw [← hb1] at HV
 rw [← hb2] at HR
 rw [← hb3] at HF
 have q0 := hb0.symm
 have HALL := am hall
 have HBB := am hBB
 have HWB := am hWB
 obtain ⟨n1, hn1⟩ : ∃ n, n = l0_1.length := ⟨_, rfl⟩
 obtain ⟨n2, hn2⟩ : ∃ n, n = l0_2.length := ⟨_, rfl⟩
 obtain ⟨n3, hn3⟩ : ∃ n, n = l0_3.length := ⟨_, rfl⟩
 obtain ⟨p1, hp1⟩ : ∃ n, n = l1_1.length := ⟨_, rfl⟩
 obtain ⟨p2, hp2⟩ : ∃ n, n = l1_2.length := ⟨_, rfl⟩
 obtain ⟨p3, hp3⟩ : ∃ n, n = l1_3.length := ⟨_, rfl⟩
 rw [← hn1, ← hp1] at HV
 rw [← hn2, ← hp2] at HF
 rw [← hn3, ← hp3] at HR
 rw [← hn1, ← hn2, ← hn3, ← hp1, ← hp2, ← hp3] at HWB ⊢
 clear hr0_1 hc0_1 hr0_2 hc0_2 hr0_3 hc0_3 hr1_1 hc1_1 hr1_2 hc1_2 hr1_3 hc1_3 h s1 s2 s3 s4 hkv hkr hWB hBB hb0 hb1 hb2 hb3 hall hno hn1 hn2 hn3 hp1 hp2 hp3
 cases b0 with
 | false =>
  go_enter Try.func12, Try.ntmps12
  go_wp2
  go_ret
  refine ⟨by rw [HALL.out]; rfl, ((Below.refl _ _).alloc (Nat.le_refl _) _).alloc (by simp) _⟩
 | true =>
  go_enter Try.func12, Try.ntmps12
  cases b1 with
  | false =>
   go_wp2_with (go_at_call 43; rw [← HWB.out]; refine (HV.out _ HBB.out).mono ?_; rintro e w1 ⟨rfl, hw⟩; have HB1 := am (qA3 HBB.out HBB.out.size hw); clear hw)
   go_ret
   exact ⟨by rw [HALL.out]; rfl, HB1.out⟩
  | true =>
   have c03 : WB.cell? ⟨w.heap.size, 3, none⟩ = some (.slice A0_3 n3 c0_3) := by rw [HWB.out, World.cell?_alloc_lt _ _ _ (by simp), World.cell?_alloc_at _ _ _ _ rfl]; rfl
   have c13 : WB.cell? ⟨w.heap.size + 1, 3, none⟩ = some (.slice A1_3 p3 c1_3) := by rw [HWB.out, World.cell?_alloc_at _ _ _ _ (by simp)]; rfl
   have c02 : WB.cell? ⟨w.heap.size, 2, none⟩ = some (.slice A0_2 n2 c0_2) := by rw [HWB.out, World.cell?_alloc_lt _ _ _ (by simp), World.cell?_alloc_at _ _ _ _ rfl]; rfl
   have c12 : WB.cell? ⟨w.heap.size + 1, 2, none⟩ = some (.slice A1_2 p2 c1_2) := by rw [HWB.out, World.cell?_alloc_at _ _ _ _ (by simp)]; rfl
   have hz : WB.heap.size = w.heap.size + 1 + 1 := by rw [HWB.out]; simp
   cases b2 with
   | false =>
    go_wp2_with (first | (go_at_call 43; rw [← HWB.out]; refine (HV.out _ HBB.out).mono ?_; rintro e w1 ⟨rfl, hw⟩; have d03 := (hw.cell (p := ⟨w.heap.size, 3, none⟩) (by show w.heap.size < _; rw [hz]; omega)).trans c03; have d13 := (hw.cell (p := ⟨w.heap.size + 1, 3, none⟩) (by show w.heap.size + 1 < _; rw [hz]; omega)).trans c13; have d02 := (hw.cell (p := ⟨w.heap.size, 2, none⟩) (by show w.heap.size < _; rw [hz]; omega)).trans c02; have d12 := (hw.cell (p := ⟨w.heap.size + 1, 2, none⟩) (by show w.heap.size + 1 < _; rw [hz]; omega)).trans c12; have HB1 := am (qA3 HBB.out HBB.out.size hw); have HZ1 := am (show w.heap.size + 1 + 1 ≤ w1.heap.size from by rw [← hz]; exact hw.size); clear hw c03 c13 c02 c12) | (go_at_call 44; refine (HR.out _ HB1.out).mono ?_; rintro e w2 ⟨rfl, hw⟩; have e02 := (hw.cell (p := ⟨w.heap.size, 2, none⟩) (by show w.heap.size < _; have := HZ1.out; omega)).trans d02; have e12 := (hw.cell (p := ⟨w.heap.size + 1, 2, none⟩) (by show w.heap.size + 1 < _; have := HZ1.out; omega)).trans d12; have HB2 := am (qA3 HB1.out HB1.out.size hw); clear hw d03 d13 d02 d12))
    go_ret
    exact ⟨by rw [HALL.out]; rfl, HB2.out⟩
   | true =>
    go_wp2_with (first | (go_at_call 43; rw [← HWB.out]; refine (HV.out _ HBB.out).mono ?_; rintro e w1 ⟨rfl, hw⟩; have d03 := (hw.cell (p := ⟨w.heap.size, 3, none⟩) (by show w.heap.size < _; rw [hz]; omega)).trans c03; have d13 := (hw.cell (p := ⟨w.heap.size + 1, 3, none⟩) (by show w.heap.size + 1 < _; rw [hz]; omega)).trans c13; have d02 := (hw.cell (p := ⟨w.heap.size, 2, none⟩) (by show w.heap.size < _; rw [hz]; omega)).trans c02; have d12 := (hw.cell (p := ⟨w.heap.size + 1, 2, none⟩) (by show w.heap.size + 1 < _; rw [hz]; omega)).trans c12; have HB1 := am (qA3 HBB.out HBB.out.size hw); have HZ1 := am (show w.heap.size + 1 + 1 ≤ w1.heap.size from by rw [← hz]; exact hw.size); clear hw c03 c13 c02 c12) | (go_at_call 44; refine (HR.out _ HB1.out).mono ?_; rintro e w2 ⟨rfl, hw⟩; have e02 := (hw.cell (p := ⟨w.heap.size, 2, none⟩) (by show w.heap.size < _; have := HZ1.out; omega)).trans d02; have e12 := (hw.cell (p := ⟨w.heap.size + 1, 2, none⟩) (by show w.heap.size + 1 < _; have := HZ1.out; omega)).trans d12; have HB2 := am (qA3 HB1.out HB1.out.size hw); clear hw d03 d13 d02 d12) | (go_at_call 45; refine (HF.out _ HB2.out).mono ?_; rintro e w3 ⟨rfl, hw⟩; have HB3 := am (qA3 HB2.out HB2.out.size hw); clear hw))
    go_ret
    exact ⟨by rw [HALL.out]; rfl, HB3.out⟩
end Q
end
end Go.Proofs.Ytfjpnjbinbhcfaa
