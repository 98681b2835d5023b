/- Chapter 14: what the laws of this seat share: the words, the contracts of code.Verify, Encode, Text and of the document's Verify. -/
import Derived.Test.YtfddibbignedkaaGreatDoorB3
set_option maxHeartbeats 8000000
set_option maxRecDepth 100000
set_option linter.unusedVariables false
set_option linter.unusedSimpArgs false
namespace Go.Proofs.YtfddibbignedkaaGreatDoor
section
namespace Q
open Go.RowKit YA YC YB
attribute [local go_sem] max2_int min2_int max_two min_two max_three min_three max_four min_four
def qAx.l0 : Nat → Int → List (S24) → List Int → List (S34) → List Int → Option ((List (S34)) × List Int)
 | 0, _, _, _, _, _ => none
 | k + 1, x4, a6, az, a9, ah => if x4 < (a6.length : Int) then (if 0 ≤ x4 then ((qAD.f ((qAT a6 x4).f0) ((qAT a6 x4).f1)).bind fun bC => (if a9.length < 4398046511104 then (qAx.l0 k (wrap64 (x4 + 1)) a6 az (a9 ++ [(⟨bC.1, bC.2⟩ : S34)]) ah) else (none))) else (none)) else (some (a9, ah))
def qAx.f (k : Nat) (l0_0 : List (S24)) (l0_1 : List Int) : Option ((List (S34)) × List Int) := (some (([] : List Int) : List Int)).bind fun a7 => (if a7.length + l0_1.length < 17592186044416 then (qAx.l0 k 0 l0_0 l0_1 ([] : List (S34)) (a7 ++ l0_1)) else (none))
def qAx.T5 : Bool × List (List Nat × List Nat) := (true, [([], []), ([0], [0]), ([], []), ([2], [2]), ([], []), ([3, 4], [3, 4]), ([5], [5]), ([6], [6]), ([7], [7]), ([1, 8, 7], [1, 8]), ([0, 1, 2, 3, 4, 5, 6, 7, 8, 9], []), ([10, 9, 9, 0, 1, 2, 3, 4, 5, 6, 7, 8, 9], [9, 10])])
def qAx.B5 : List Nat := [0, 1, 0, 4, 0, 28, 60, 124, 252, 511, 1023, 2047]
theorem qAx.tab5 : rtab .any (opsOf Tryz.f15 5) = qAx.T5 := by kernel_rfl
theorem qAx.bits5 : qCd qAx.T5.2 qAx.B5 = true := by kernel_rfl
theorem qAx.calls (k : Nat) (a5 : Option Addr) (aU : Nat) (l0_0 : List (S24)) (aT : Option Addr) (aV : Nat) (l0_1 : List Int) (r1 : List (S34)) (r2 : List Int) (w : World) (hr0_0 : Kd.C k24 w a5 l0_0.length l0_0) (hc0_0 : l0_0.length ≤ aU) (hr0_1 : Kd.C (Kd.int .i64) w aT l0_1.length l0_1) (hc0_1 : l0_1.length ≤ aV) (h : qAx.f k l0_0 l0_1 = some (r1, r2)) :
  Calls Tryz.prog 15 #[.agg #[.slice a5 l0_0.length aU, .slice aT l0_1.length aV]] w fun e w' => ∃ v0_ v1_ : Value, e = .returned (.agg #[v0_, v1_]) ∧ Kd.S k34 34 w' w.heap.size (fun k_ => some k_ ≠ (v1_ : Value).ownBlock) v0_ r1 ∧ Kd.R (Kd.int .i64) 3 w' w.heap.size (fun _ => True) v1_ r2 ∧ Below w.heap.size w w' := by
 have bP := am hr0_0
 clear hr0_0 hc0_0
 have bQ := am hr0_1
 clear hr0_1 hc0_1
 have HB := am (Below.refl w.heap.size w)
 have H : ((some (([] : List Int) : List Int)).bind fun a7 => (if a7.length + l0_1.length < 17592186044416 then (qAx.l0 k 0 l0_0 l0_1 ([] : List (S34)) (a7 ++ l0_1)) else (none))) = some (r1, r2) := h
 clear h
 obtain ⟨a7, al⟩ : ∃ y_ : List Int, y_ = (([] : List Int)) := ⟨_, rfl⟩
 replace H : (if a7.length + l0_1.length < 17592186044416 then (qAx.l0 k 0 l0_0 l0_1 ([] : List (S34)) (a7 ++ l0_1)) else (none)) = some (r1, r2) := by (have H2_ := (Option.bind_some _ _).symm.trans H; rw [al]; with_reducible exact H2_)
 have bS := am al
 clear al
 by_cases c2 : a7.length + l0_1.length < 17592186044416
 ·rw [if_pos c2] at H
  have b8 := am c2
  clear c2
  obtain ⟨aQ, an⟩ : ∃ y_ : List Int, y_ = (a7 ++ l0_1) := ⟨_, rfl⟩
  replace H : (qAx.l0 k 0 l0_0 l0_1 ([] : List (S34)) aQ) = some (r1, r2) := by (rw [an]; with_reducible exact H)
  have bT := am an
  clear an
  have H' := am H
  clear H
  go_enter Tryz.func15, Tryz.ntmps15
  go_wp2_with (first | ((with_reducible refine qAV (N := 1) rfl ?_); refine bx 1 #[.slice a5 l0_0.length aU, .slice aT l0_1.length aV] 30 ?_; intro aI hg w3 hbox hb; have n0_ := am (qAq (by repeat ((with_reducible (exact HB.o)))) hb); have n1_ := am (hbox); have n2_ := am ((by rw [hg]; exact (qAm (by repeat ((with_reducible (exact HB.o))))) : w.heap.size ≤ aI)); have n3_ := am ((by rw [hg]; exact (qAm (by repeat ((with_reducible (exact HB.o))))) : w.heap.size ≤ aI)); clear HB; have HB := n0_; have aA := n1_; clear n0_ n1_ n2_ n3_; clear hb hbox hg) | ((with_reducible refine qAV (N := 2) rfl ?_); refine bx 2 #[.slice none 0 0, .slice none 0 0] 41 ?_; intro aJ hg w4 hbox hb; have n0_ := am (qAk (g := aI) (o := .cells #[.slice a5 l0_0.length aU, .slice aT l0_1.length aV] 30 (0, 0)) (by (with_reducible repeat (fail)); exact aA.o) hb); have n1_ := am (qAq (by repeat ((with_reducible (exact HB.o)))) hb); have n2_ := am (hbox); have n3_ := am ((by rw [hg]; exact (qAm (by repeat ((with_reducible (exact HB.o))))) : w.heap.size ≤ aJ)); have n4_ := am ((by rw [hg]; exact (qAm (by repeat ((with_reducible (exact HB.o))))) : w.heap.size ≤ aJ)); have n5_ := am ((by rw [hg]; exact Nat.ne_of_lt (qAZ (g := aI) (o := .cells #[.slice a5 l0_0.length aU, .slice aT l0_1.length aV] 30 (0, 0)) (by (with_reducible repeat (fail)); exact aA.o)) : aI ≠ aJ)); have n6_ := am ((by rw [hg]; exact Nat.ne_of_gt (qAZ (g := aI) (o := .cells #[.slice a5 l0_0.length aU, .slice aT l0_1.length aV] 30 (0, 0)) (by (with_reducible repeat (fail)); exact aA.o)) : aJ ≠ aI)); clear aA; clear HB; have aA := n0_; have HB := n1_; have aE := n2_; have bO := n4_; clear n0_ n1_ n2_ n3_ n4_ n5_ n6_; clear hb hbox hg) | ((with_reducible refine qAV (N := 5) rfl ?_); refine Kd.R_lit (Kd.int .i64) _ 3 ?hg (N := 5) ?hd (xs := ([] : List Int)) (inner := []) (ok := fun _ => True) (okp := fun _ => True) ?hr ?hp (fun _ hk => hk) trivial (Below.refl _ _) (Nat.le_refl _) (by simp) ?_; (case hd => rfl); (case hg => rfl); (case hr => (go_simp; done)); (case hp => exact (Reps.none _ _)); intro bi w5 bh hb hg_ hnew_; clear hg_ hnew_; ((rw [← bS.o] at bh)); have n0_ := am (Kd.R_lower bh (qAm (by repeat ((with_reducible (exact HB.o)))))); have n1_ := am (qAk (g := aI) (o := .cells #[.slice a5 l0_0.length aU, .slice aT l0_1.length aV] 30 (0, 0)) (by (with_reducible repeat (fail)); exact aA.o) hb); have n2_ := am (qAk (g := aJ) (o := .cells #[.slice none 0 0, .slice none 0 0] 41 (0, 0)) (by (with_reducible repeat (fail)); exact aE.o) hb); have n3_ := am (qAq (by repeat ((with_reducible (exact HB.o)))) hb); clear aA; clear aE; clear HB; have ac := n0_; have aA := n1_; have aE := n2_; have HB := n3_; clear n0_ n1_ n2_ n3_; clear hb bh; obtain ⟨bF, bG⟩ := c2_ w5 aA.o; obtain ⟨bH, bI⟩ := z2_ aA.o) | ((with_reducible refine qCn (b := .append) (xs := #[.tmp 5, .tmp 7]) rfl ?_); at_builtin; refine Kd.R_append_rows (Kd.int .i64) (w0 := w) w.heap.size rfl (.tmp 5) (.tmp 7) 22 3 (.int .i64 0) 8 rfl Tryz.underlying22 info3 rfl (by decide) (by omega) bi a7 l0_1 _ _ _ (fun _ => True) (fun _ => False) rfl rfl ?aO ?aR (fun _ _ h => h) (fun _ h => h.elim) ?aF ?aB ?aS ?aL ?_; (case aR => repeat ((exact (Kd.C_below bQ.o HB.o)))); (case aB => exact (by repeat ((with_reducible (exact HB.o))))); (case aF => exact (fun _ _ => trivial)); (case aO => exact (by (with_reducible repeat (fail)); exact ac.o)); (case aS => exact (qAm (by repeat ((with_reducible (exact HB.o)))))); (case aL => have := b8.o; omega); intro bp w9 ho hb hg bg; rw [← bT.o] at ho; have n0_ := am (qBN (g := aI) (o := .cells #[.slice a5 l0_0.length aU, .slice aT l0_1.length aV] 30 (0, 0)) (by (with_reducible repeat (fail)); exact aA.o) hg (Kd.R_ne ac.o aA.o (by decide))); have n1_ := am (qBN (g := aJ) (o := .cells #[.slice none 0 0, .slice none 0 0] 41 (0, 0)) (by (with_reducible repeat (fail)); exact aE.o) hg (Kd.R_ne ac.o aE.o (by decide))); have n2_ := am (hb); have n3_ := am (ho); clear aA; clear aE; clear HB; clear ac; have aA := n0_; have aE := n1_; have HB := n2_; have aa := n3_; clear n0_ n1_ n2_ n3_; clear ho hb hg bg; obtain ⟨aW, aX, ba⟩ := Kd.R_slice aa.o; subst ba) | ((with_reducible refine qAV (N := 3) rfl ?_); refine bx 3 #[.slice none 0 0, .slice none 0 0] 41 ?_; intro aM hg bs hbox hb; have n0_ := am (Kd.R_below (by (with_reducible repeat (fail)); exact aa.o) hb); have n1_ := am (qAk (g := aI) (o := .cells #[.slice a5 l0_0.length aU, .slice aT l0_1.length aV] 30 (0, 0)) (by (with_reducible repeat (fail)); exact aA.o) hb); have n2_ := am (qAk (g := aJ) (o := .cells #[.slice none 0 0, .slice none 0 0] 41 (0, 0)) (by (with_reducible repeat (fail)); exact aE.o) hb); have n3_ := am (qAq (by repeat ((with_reducible (exact HB.o)))) hb); have n4_ := am (hbox); have n5_ := am ((by rw [hg]; exact (qAm (by repeat ((with_reducible (exact HB.o))))) : w.heap.size ≤ aM)); have n6_ := am ((by rw [hg]; exact (qAm (by repeat ((with_reducible (exact HB.o))))) : w.heap.size ≤ aM)); have n7_ := am ((by rw [hg]; exact Nat.ne_of_lt (qAZ (g := aI) (o := .cells #[.slice a5 l0_0.length aU, .slice aT l0_1.length aV] 30 (0, 0)) (by (with_reducible repeat (fail)); exact aA.o)) : aI ≠ aM)); have n8_ := am ((by rw [hg]; exact Nat.ne_of_gt (qAZ (g := aI) (o := .cells #[.slice a5 l0_0.length aU, .slice aT l0_1.length aV] 30 (0, 0)) (by (with_reducible repeat (fail)); exact aA.o)) : aM ≠ aI)); have n9_ := am ((by rw [hg]; exact Nat.ne_of_lt (qAZ (g := aJ) (o := .cells #[.slice none 0 0, .slice none 0 0] 41 (0, 0)) (by (with_reducible repeat (fail)); exact aE.o)) : aJ ≠ aM)); have n10_ := am ((by rw [hg]; exact Nat.ne_of_gt (qAZ (g := aJ) (o := .cells #[.slice none 0 0, .slice none 0 0] 41 (0, 0)) (by (with_reducible repeat (fail)); exact aE.o)) : aM ≠ aJ)); clear aa; clear aA; clear aE; clear HB; have aa := n0_; have aA := n1_; have aE := n2_; have HB := n3_; have aH := n4_; have bA := n6_; have a3 := n7_; have a4 := n9_; clear n0_ n1_ n2_ n3_ n4_ n5_ n6_ n7_ n8_ n9_ n10_; clear hb hbox hg; obtain ⟨av, aw⟩ := c2_ bs aH.o; obtain ⟨ax, ay⟩ := z2_ aH.o))
  go_loopg [4] k (fun kq v4 w' => ∃ (aN : Int) (aG : List (S34)) (aK : Value), v4 = .int .i64 aN ∧ qAd (qAx.l0 kq aN l0_0 l0_1 aG aQ = some (r1, r2)) ∧ qAd (kq ≤ k) ∧ qAd (Kd.S k34 34 w' w.heap.size (fun k_ => some k_ ≠ ((.slice aW aQ.length aX) : Value).ownBlock) aK aG) ∧ qAd (Kd.R (Kd.int .i64) 3 w' w.heap.size (fun _ => True) (.slice aW aQ.length aX) aQ) ∧ qAd (w'.heap[aI]? = some (.cells #[(.slice a5 l0_0.length aU), (.slice aT l0_1.length aV)] 30 (0, 0))) ∧ qAd (w'.heap[aJ]? = some (.cells #[(.slice none 0 0), (.slice none 0 0)] 41 (0, 0))) ∧ qAd (w'.heap[aM]? = some (.cells #[aK, (.slice aW aQ.length aX)] 41 (0, 0))) ∧ qAd (Below w.heap.size w w'))
  case atStart => exact ⟨(0), (([] : List (S34))), (.slice none 0 0), (by (rfl)), H', ⟨Nat.le_refl _⟩, ⟨by (exact Kd.S_nil _ _ _ _ _)⟩, ⟨by (with_reducible repeat (fail)); exact Kd.R_mono (Kd.R_far (p := ⟨aM, 1, none⟩) (Kd.R_far (p := ⟨aM, 0, none⟩) (Kd.R_types aa.o aH.o (by decide)) (fun _ hk => hk.2) (.slice none 0 0)) (fun _ hk => hk.2) (.slice aW aQ.length aX)) (fun _ hk => trivial)⟩, ⟨by (with_reducible repeat (fail)); refine qDH ?_ a3.o _; (with_reducible repeat (fail)); refine qDH ?_ a3.o _; (with_reducible repeat (fail)); exact aA.o⟩, ⟨by (with_reducible repeat (fail)); refine qDH ?_ a4.o _; (with_reducible repeat (fail)); refine qDH ?_ a4.o _; (with_reducible repeat (fail)); exact aE.o⟩, ⟨by (with_reducible repeat (fail)); refine qAQ (cs := #[.slice none 0 0, .slice none 0 0]) ?_ 1 _ rfl; (with_reducible repeat (fail)); refine qAQ (cs := #[.slice none 0 0, .slice none 0 0]) ?_ 0 _ rfl; (with_reducible repeat (fail)); exact aH.o⟩, ⟨by repeat ((with_reducible first | exact HB.o | refine qAi ?_ bA.o))⟩⟩
  case round =>
   clear H'
   skip
   skip
   skip
   skip
   skip
   skip
   obtain ⟨aN, aG, aK, rfl, HA, bj, aC, aD, aA, aE, aH, HB⟩ := hrel
   cases gk with
   | zero => exact absurd HA.o (by simp [qAx.l0])
   | succ k1 =>
    have H := HA.o
    clear HA
    simp only [qAx.l0] at H
    by_cases bL : aN < (l0_0.length : Int)
    rotate_left
    ·rw [if_neg bL] at H
     replace bL := d0 bL
     simp only [Option.some.injEq, Prod.mk.injEq] at H
     obtain ⟨rfl, rfl⟩ := H
     have b0 := c1_ wr aA.o
     obtain ⟨b1, b2⟩ := c2_ wr aH.o
     obtain ⟨aq, au, bd⟩ := Kd.S_slice aC.o
     subst bd
     obtain ⟨b3, b4⟩ := c2_ wr aE.o
     obtain ⟨b5, b6⟩ := z2_ aE.o
     go_wp2
     refine bodyPost_ret (results_cell_row rfl _ _ aJ 41 #[.slice aq aG.length au, .slice aW aQ.length aX] (0, 0) _ rfl (by (with_reducible repeat (fail)); refine qAQ (cs := #[.slice aq aG.length au, .slice none 0 0]) ?_ 1 _ rfl; (with_reducible repeat (fail)); refine qAQ (cs := #[.slice none 0 0, .slice none 0 0]) ?_ 0 _ rfl; (with_reducible repeat (fail)); exact aE.o) Tryz.underlying41 rfl (by kernel_rfl)) rfl ?_
     exact ⟨_, _, by (rfl), by (with_reducible repeat (fail)); exact Kd.S_mono (Kd.S_far (p := ⟨aJ, 1, none⟩) (Kd.S_far (p := ⟨aJ, 0, none⟩) (Kd.S_types aC.o aE.o (by decide)) (fun _ hk => hk.2) (.slice aq aG.length au)) (fun _ hk => hk.2) (.slice aW aQ.length aX)) (fun _ hk => hk.1), by (with_reducible repeat (fail)); exact Kd.R_mono (Kd.R_far (p := ⟨aJ, 1, none⟩) (Kd.R_far (p := ⟨aJ, 0, none⟩) (Kd.R_types aD.o aE.o (by decide)) (fun _ hk => hk.2) (.slice aq aG.length au)) (fun _ hk => hk.2) (.slice aW aQ.length aX)) (fun _ hk => trivial), by repeat ((with_reducible first | exact HB.o | refine qAi ?_ bO.o))⟩
    rw [if_pos bL] at H
    replace bL := d1 bL
    obtain ⟨bX, H⟩ := gd H
    replace bX := d1 bX
    replace H := bm H
    obtain ⟨⟨ab, ai⟩, bM, H⟩ := H
    replace H : (if aG.length < 4398046511104 then (qAx.l0 k1 (wrap64 (aN + 1)) l0_0 l0_1 (aG ++ [(⟨ab, ai⟩ : S34)]) aQ) else (none)) = some (r1, r2) := H
    have bo := am bM
    clear bM
    obtain ⟨bY, H⟩ := gd H
    have bR := am bY
    clear bY
    obtain ⟨ap, ao⟩ : ∃ y_ : List (S34), y_ = (aG ++ [(⟨ab, ai⟩ : S34)]) := ⟨_, rfl⟩
    replace H : (qAx.l0 k1 (wrap64 (aN + 1)) l0_0 l0_1 ap aQ) = some (r1, r2) := by (rw [ao]; with_reducible exact H)
    have bU := am ao
    clear ao
    have H' := am H
    clear H
    have bZ := c1_ wr aA.o
    try go_wp2
    have n0_ := am (Kd.S_drew aC.o)
    have n1_ := am (Kd.R_drew aD.o)
    have n2_ := am (qAt aA.o)
    have n3_ := am (qAt aE.o)
    have n4_ := am (qAt aH.o)
    have n5_ := am (qAj HB.o)
    clear aC
    clear aD
    clear aA
    clear aE
    clear aH
    clear HB
    have aC := n0_
    have aD := n1_
    have aA := n2_
    have aE := n3_
    have aH := n4_
    have HB := n5_
    clear n0_ n1_ n2_ n3_ n4_ n5_
    have bJ : 0 ≤ (aN : Int) := of_decide_eq_true (by (with_reducible assumption))
    have bK : aN < (l0_0.length : Int) := of_decide_eq_true (by (with_reducible assumption))
    obtain ⟨a8, aj, ak, b9, aY, aZ, ag, af⟩ := at_T24 bP.o aN bJ bK
    have hw187_1 := aZ
    have hw187_0 := aY
    cases b9
    replace aY := (HB.o.cell (World.block_lt_of_cell? w _ aY)).trans aY
    replace aZ := (HB.o.cell (World.block_lt_of_cell? w _ aZ)).trans aZ
    have ae := am af
    have ar := am ag
    clear af ag
    replace bJ := eq_true bJ
    replace bK := eq_true bK
    refine qCi (n := 12) (S := fun w' => w'.cell? ⟨aM, 0, none⟩ = some (aK) ∧ w'.cell? ⟨aM, 1, none⟩ = some (.slice aW aQ.length aX) ∧ w'.cell? ⟨aI, 0, none⟩ = some (.slice (some a8) l0_0.length aU) ∧ w'.cell? ⟨aI, 1, none⟩ = some (.slice aT l0_1.length aV) ∧ w'.cell? (a8.add ((aN).toNat * 2)) = some (.slice aj ((qAT l0_0 aN).f0).length ak) ∧ w'.cell? ⟨(a8.add ((aN).toNat * 2)).block, (a8.add ((aN).toNat * 2)).off + 1, none⟩ = some (.int .i64 ((qAT l0_0 aN).f1))) (ds := [11]) (mK 12 0) (by kernel_rfl) rfl rfl ⟨(qAa aH.o 0).trans rfl, (qAa aH.o 1).trans rfl, (qAa aA.o 0).trans rfl, (qAa aA.o 1).trans rfl, ((HB.o.cell (World.block_lt_of_cell? w _ hw187_0)).trans hw187_0), ((HB.o.cell (World.block_lt_of_cell? w _ hw187_1)).trans hw187_1)⟩ (fun hHeld => ?_); refine qBn qAx.tab5 qAx.bits5 (fun HT_ HW_ => ?_)
    generalize wr.drew = bu at aC aD aA aE aH HB ae aY aZ hHeld ⊢
    refine pu 0 17 (mK 12 1) (qAh HT_.o (by kernel_rfl)) ?_
    refine pu 2 19 (mK 12 5) (qAh HT_.o (by kernel_rfl)) ?_
    refine pu 4 21 (mK 12 21) (qAh HT_.o (by kernel_rfl)) ?_
    refine tk 1 18 (mK 12 23) (qA6 HT_.o HW_.o (by kernel_rfl)) hHeld ?_
    refine tk 3 20 (mK 12 31) (qA6 HT_.o HW_.o (by kernel_rfl)) hHeld ?_
    refine pu 5 22 (mK 12 63) (qAh HT_.o (by kernel_rfl)) ?_
    refine tk 6 23 (mK 12 127) (qA6 HT_.o HW_.o (by kernel_rfl)) hHeld ?_
    refine one_ (i := 7) (N := some 24) (mK 12 255) rfl rfl (qBp HT_.o (by kernel_rfl)) (by decide) (fun K hK => ?_)
    refine qCs Tryz.func42 (by kernel_rfl) rfl #[.agg #[.slice aj ((qAT l0_0 aN).f0).length ak, .int .i64 ((qAT l0_0 aN).f1)]] (by rfl) rfl rfl (by (try simp only [List.map_toArray, List.map_cons, List.map_nil]); (rfl)) ?_
    with_reducible refine (qAD.calls _ _ ((qAT l0_0 aN).f0) ((qAT l0_0 aN).f1) ab ai _ ?side1 ?side2 bo.o).mono ?_
    (case side1 => repeat ((exact (Kd.C_below ae.o HB.o))))
    (case side2 => exact ar.o)
    rintro e bw ⟨bq, rfl, b7, hb⟩
    refine ⟨_, rfl, ?_⟩
    have n0_ := am (Kd.S_elder' (by (with_reducible repeat (fail)); exact aC.o) (Kd.R_base b7) hb)
    have n1_ := am (Kd.R_elder' (by (with_reducible repeat (fail)); exact aD.o) (Kd.R_base b7) hb)
    have n2_ := am (Kd.R_lower (Kd.R_new' b7 (Kd.R_lt (by (with_reducible repeat (fail)); exact aD.o))) (qAm (by repeat ((with_reducible (exact HB.o))))))
    have n3_ := am (qAk (g := aI) (o := .cells #[.slice (some a8) l0_0.length aU, .slice aT l0_1.length aV] 30 (0, 0)) (by (with_reducible repeat (fail)); exact aA.o) hb)
    have n4_ := am (qAk (g := aJ) (o := .cells #[.slice none 0 0, .slice none 0 0] 41 (0, 0)) (by (with_reducible repeat (fail)); exact aE.o) hb)
    have n5_ := am (qAk (g := aM) (o := .cells #[aK, .slice aW aQ.length aX] 41 (0, 0)) (by (with_reducible repeat (fail)); exact aH.o) hb)
    have n6_ := am (qAq (by repeat ((with_reducible (exact HB.o)))) hb)
    clear aC
    clear aD
    clear aA
    clear aE
    clear aH
    clear HB
    have aC := n0_
    have aD := n1_
    have ad := n2_
    have aA := n3_
    have aE := n4_
    have aH := n5_
    have HB := n6_
    clear n0_ n1_ n2_ n3_ n4_ n5_ n6_
    (try clear hb)
    (skip)
    (skip)
    (skip)
    (try clear b7)
    obtain ⟨bN, bW, bb⟩ := Kd.R_slice ad.o
    ((subst bb))
    refine hK.o _ _ ⟨(qAa aH.o 0).trans rfl, (qAa aH.o 1).trans rfl, (qAa aA.o 0).trans rfl, (qAa aA.o 1).trans rfl, ((HB.o.cell (World.block_lt_of_cell? w _ hw187_0)).trans hw187_0), ((HB.o.cell (World.block_lt_of_cell? w _ hw187_1)).trans hw187_1)⟩ (fun hHeld => ?_)
    clear hK K
    refine nm ?_
    refine one_ (i := 8) (N := some 25) (mK 12 511) rfl rfl (qBp HT_.o (by kernel_rfl)) (by decide) (fun K hK => ?_)
    refine value_ (w1 := ?_) (v := ?_) (by rfl) rfl ?_ ?_
    rotate_left 2
    ·go_simp
     constructor
     ·rfl
     rfl
    refine hK.o _ _ ⟨(qAa (qAv aH.o _) 0).trans rfl, (qAa (qAv aH.o _) 1).trans rfl, (qAa (qAv aA.o _) 0).trans rfl, (qAa (qAv aA.o _) 1).trans rfl, (World.cell?_alloc_lt _ _ _ (World.block_lt_of_cell? _ _ (((HB.o.cell (World.block_lt_of_cell? w _ hw187_0)).trans hw187_0)))).trans (((HB.o.cell (World.block_lt_of_cell? w _ hw187_0)).trans hw187_0)), (World.cell?_alloc_lt _ _ _ (World.block_lt_of_cell? _ _ (((HB.o.cell (World.block_lt_of_cell? w _ hw187_1)).trans hw187_1)))).trans (((HB.o.cell (World.block_lt_of_cell? w _ hw187_1)).trans hw187_1))⟩ (fun hHeld => ?_)
    clear hK K
    refine nm ?_
    refine one_ (i := 9) (N := some 26) (mK 12 1023) rfl rfl (qBp HT_.o (by kernel_rfl)) (by decide) (fun K hK => ?_)
    refine Kd.S_append_step k34 (w0 := w) w.heap.size (by rfl) (.tmp 18) (.tmp 25) 39 34 (.agg #[(.slice none 0 0), (.int .i64 0)]) 32 rfl Tryz.underlying39 info34 rfl (by decide) (by omega) aK aG (⟨ab, ai⟩ : S34) [.slice bN ab.length bW, .int .i64 ai] (fun k_ => some k_ ≠ (.slice aW aQ.length aX : Value).ownBlock) (fun k_ => some k_ = (.slice bN ab.length bW : Value).ownBlock) rfl rfl ?aP (fun k_ hk_ => ((Kd.R_mono (ok' := fun k_ => ((fun k_ => some k_ ≠ (.slice aW aQ.length aX : Value).ownBlock)) k_ ∧ some k_ ≠ (aK : Value).ownBlock) (Kd.R_apart' (ad.o) (Kd.S_typed aC.o) (by decide)) (fun k_ hk => ⟨hk.1.2, hk.2⟩))).1 k_ hk_.symm) ?aF ?aO ?aB ?aS ?aL ?_
    (case aP => exact k34_mkM _ _ _ (⟨ab, ai⟩ : S34) (Kd.R_mono (Kd.R_tight rfl (Kd.R_mono (ok' := fun k_ => ((fun k_ => some k_ ≠ (.slice aW aQ.length aX : Value).ownBlock)) k_ ∧ some k_ ≠ (aK : Value).ownBlock) (Kd.R_apart' (ad.o) (Kd.S_typed aC.o) (by decide)) (fun k_ hk => ⟨hk.1.2, hk.2⟩))) (fun _ h_ => h_)))
    (case aB => exact (by repeat ((with_reducible (exact HB.o)))))
    (case aF => exact (fun k_ hk => Kd.fresh' (Kd.R_lt (by (with_reducible repeat (fail)); exact aD.o)) k_ hk))
    (case aO => exact (by (with_reducible repeat (fail)); exact Kd.S_mono aC.o (fun k_ hk => ⟨hk.1, fun e_ => hk.2 e_⟩)))
    (case aS => exact (qAm (by repeat ((with_reducible (exact HB.o))))))
    (case aL => have := bR.o; omega)
    intro br bz ho hb hg bg
    rw [← bU.o] at ho
    have n0_ := am (Kd.R_over' (by (with_reducible repeat (fail)); exact aD.o) (Kd.S_typed (by (with_reducible repeat (fail)); exact aC.o)) (by decide) hg)
    have n1_ := am (qBN (g := aI) (o := .cells #[.slice (some a8) l0_0.length aU, .slice aT l0_1.length aV] 30 (0, 0)) (by (with_reducible repeat (fail)); exact aA.o) hg (Kd.S_ne aC.o aA.o (by decide)))
    have n2_ := am (qBN (g := aJ) (o := .cells #[.slice none 0 0, .slice none 0 0] 41 (0, 0)) (by (with_reducible repeat (fail)); exact aE.o) hg (Kd.S_ne aC.o aE.o (by decide)))
    have n3_ := am (qBN (g := aM) (o := .cells #[aK, .slice aW aQ.length aX] 41 (0, 0)) (by (with_reducible repeat (fail)); exact aH.o) hg (Kd.S_ne aC.o aH.o (by decide)))
    have n4_ := am (hb)
    have n5_ := am (ho)
    clear aD
    clear aA
    clear aE
    clear aH
    clear HB
    clear aC
    clear ad
    have aD := n0_
    have aA := n1_
    have aE := n2_
    have aH := n3_
    have HB := n4_
    have bB := n5_
    clear n0_ n1_ n2_ n3_ n4_ n5_
    clear ho hb hg bg
    obtain ⟨bD, bE, bc⟩ := Kd.S_slice bB.o
    ((subst bc))
    refine hK.o _ _ ⟨(qAa aH.o 0).trans rfl, (qAa aH.o 1).trans rfl, (qAa aA.o 0).trans rfl, (qAa aA.o 1).trans rfl, ((HB.o.cell (World.block_lt_of_cell? w _ hw187_0)).trans hw187_0), ((HB.o.cell (World.block_lt_of_cell? w _ hw187_1)).trans hw187_1)⟩ (fun hHeld => ?_)
    clear hK K
    refine nm ?_
    refine pu 10 27 (mK 12 2047) (qAh HT_.o (by kernel_rfl)) ?_
    refine last_ (i := 11) (N := none) (mK 12 4095) rfl rfl (qBp HT_.o (by kernel_rfl)) (by decide) (fun K hK => ?_)
    have hfs27 := qAb aH.o 0
    refine skip_ (w1 := ?_) (by rfl) rfl ?_ ?_
    rotate_left
    ·go_simp
     rfl
    refine hK.o _ _ ?_
    clear hK K
    refine qCS (qBA HT_.o (by kernel_rfl)) ?_
    try go_wp2
    go_roundg k1
    case measure => have := bj.o; omega
    case rel => exact ⟨(wrap64 (aN + 1)), (ap), (.slice bD ap.length bE), (by (rfl)), H', ⟨by have := bj.o; omega⟩, ⟨by (with_reducible repeat (fail)); exact Kd.S_mono (Kd.S_far (p := ⟨aM, 0, none⟩) (Kd.S_types bB.o aH.o (by decide)) (fun _ hk => hk.2) (.slice bD ap.length bE)) (fun _ hk => hk.1)⟩, ⟨by (with_reducible repeat (fail)); exact Kd.R_mono (Kd.R_far (p := ⟨aM, 0, none⟩) (Kd.R_types aD.o aH.o (by decide)) (fun _ hk => hk.2) (.slice bD ap.length bE)) (fun _ hk => trivial)⟩, ⟨by (with_reducible repeat (fail)); refine qDH ?_ a3.o _; (with_reducible repeat (fail)); exact aA.o⟩, ⟨by (with_reducible repeat (fail)); refine qDH ?_ a4.o _; (with_reducible repeat (fail)); exact aE.o⟩, ⟨by (with_reducible repeat (fail)); refine qAQ (cs := #[aK, .slice aW aQ.length aX]) ?_ 0 _ rfl; (with_reducible repeat (fail)); exact aH.o⟩, ⟨by repeat ((with_reducible first | exact HB.o | refine qAi ?_ bA.o))⟩⟩
 ·rw [if_neg c2] at H
  exact absurd H (by simp)
def qAu.f (l0 : List Int) (l1 : List Int) : Option (Bool) := some ((strOfNums l0).toList == (strOfNums l1).toList)
theorem qAu.calls (A0 : Option Addr) (c0 : Nat) (l0 : List Int) (A1 : Option Addr) (c1 : Nat) (l1 : List Int) (r : Bool) (w : World) (hr0 : Kd.C (Kd.int .u8) w A0 l0.length l0) (hc0 : l0.length ≤ c0) (hr1 : Kd.C (Kd.int .u8) w A1 l1.length l1) (hc1 : l1.length ≤ c1) (h : qAu.f l0 l1 = some r) :
  Calls Tryz.prog 22 #[.slice A0 l0.length c0, .slice A1 l1.length c1] w fun e w' => e = .returned (.bool r) ∧ qAX w w' := by
 have aA := am hr0
 have aC := am hc0
 clear hr0 hc0
 have aB := am hr1
 have aD := am hc1
 clear hr1 hc1
 have H : (some ((strOfNums l0).toList == (strOfNums l1).toList)) = some r := h
 clear h
 obtain rfl := Option.some.inj H
 have hcv3 := Kd.C_string (P := Tryz.prog) (A := A0) (c := c0) Tryz.underlying53 Tryz.underlying5 Tryz.underlying9 aA.o
 try simp only [List.length_take, Int.reduceToNat] at hcv3
 have hcv4 := Kd.C_string (P := Tryz.prog) (A := A1) (c := c1) Tryz.underlying53 Tryz.underlying5 Tryz.underlying9 aB.o
 try simp only [List.length_take, Int.reduceToNat] at hcv4
 go_enter Tryz.func22, Tryz.ntmps22
 go_wp2
 go_ret
 exact ⟨by first | rfl | (simp; done) | (simp [*]; done), by repeat (first | exact qAX.refl _ | apply qAX.step)⟩
def alive0.f  : Option (Bool) := (qAC.f (([(⟨1, 0, (⟨1, 1⟩ : S48)⟩ : S51), (⟨10, 258, (⟨0, 0⟩ : S48)⟩ : S51), (⟨11, 0, (⟨0, 0⟩ : S48)⟩ : S51)] : List (S51)))).bind fun aL => ((qAN.f ([] : List Int) 1 ([] : List Int) (([(⟨1, 0, (⟨1, 1⟩ : S48)⟩ : S51), (⟨11, 0, (⟨0, 0⟩ : S48)⟩ : S51)] : List (S51))) ([] : List (S34)) ([] : List Int)).bind fun aK => ((qAN.f ([] : List Int) 1 ([] : List Int) (([(⟨11, 0, (⟨0, 0⟩ : S48)⟩ : S51)] : List (S51))) ([] : List (S34)) ([] : List Int)).bind fun aG => (if aL.2 = 0 then ((qAu.f aL.1 (([1, 1, 0, 0, 0, 0, 0, 0, 0, 1, 10, 1, 2, 11] : List Int))).bind fun aI => (if aI = true then (if aK.2 = 0 then (if aG.2 = 51 then ((qBy.f 1 0 1 1).bind fun aE => (some (aE.toList == ([112, 117, 115, 104, 32, 49] : List UInt8)))) else (some false)) else (some false)) else (some false))) else (some false))))
theorem alive0.calls  (r : Bool) (w : World) (h : alive0.f = some r) (hr : r = true) :
  Calls Tryz.prog 17 #[] w fun e w' => e = .returned (.bool r) ∧ Below w.heap.size w w' := by
 have hu48 := Tryz.underlying48
 have hu51 := Tryz.underlying51
 have hu34 := Tryz.underlying34
 have hu37 := Tryz.underlying37
 have hu41 := Tryz.underlying41
 have HB := am (Below.refl w.heap.size w)
 have H : ((qAC.f (([(⟨1, 0, (⟨1, 1⟩ : S48)⟩ : S51), (⟨10, 258, (⟨0, 0⟩ : S48)⟩ : S51), (⟨11, 0, (⟨0, 0⟩ : S48)⟩ : S51)] : List (S51)))).bind fun aL => ((qAN.f ([] : List Int) 1 ([] : List Int) (([(⟨1, 0, (⟨1, 1⟩ : S48)⟩ : S51), (⟨11, 0, (⟨0, 0⟩ : S48)⟩ : S51)] : List (S51))) ([] : List (S34)) ([] : List Int)).bind fun aK => ((qAN.f ([] : List Int) 1 ([] : List Int) (([(⟨11, 0, (⟨0, 0⟩ : S48)⟩ : S51)] : List (S51))) ([] : List (S34)) ([] : List Int)).bind fun aG => (if aL.2 = 0 then ((qAu.f aL.1 (([1, 1, 0, 0, 0, 0, 0, 0, 0, 1, 10, 1, 2, 11] : List Int))).bind fun aI => (if aI = true then (if aK.2 = 0 then (if aG.2 = 51 then ((qBy.f 1 0 1 1).bind fun aE => (some (aE.toList == ([112, 117, 115, 104, 32, 49] : List UInt8)))) else (some false)) else (some false)) else (some false))) else (some false))))) = some r := h
 clear h
 obtain ⟨aZ, aP⟩ : ∃ y_ : List (S51), y_ = (([(⟨1, 0, (⟨1, 1⟩ : S48)⟩ : S51), (⟨10, 258, (⟨0, 0⟩ : S48)⟩ : S51), (⟨11, 0, (⟨0, 0⟩ : S48)⟩ : S51)] : List (S51))) := ⟨_, rfl⟩
 replace H : ((qAC.f aZ).bind fun aL => ((qAN.f ([] : List Int) 1 ([] : List Int) (([(⟨1, 0, (⟨1, 1⟩ : S48)⟩ : S51), (⟨11, 0, (⟨0, 0⟩ : S48)⟩ : S51)] : List (S51))) ([] : List (S34)) ([] : List Int)).bind fun aK => ((qAN.f ([] : List Int) 1 ([] : List Int) (([(⟨11, 0, (⟨0, 0⟩ : S48)⟩ : S51)] : List (S51))) ([] : List (S34)) ([] : List Int)).bind fun aG => (if aL.2 = 0 then ((qAu.f aL.1 (([1, 1, 0, 0, 0, 0, 0, 0, 0, 1, 10, 1, 2, 11] : List Int))).bind fun aI => (if aI = true then (if aK.2 = 0 then (if aG.2 = 51 then ((qBy.f 1 0 1 1).bind fun aE => (some (aE.toList == ([112, 117, 115, 104, 32, 49] : List UInt8)))) else (some false)) else (some false)) else (some false))) else (some false))))) = some r := by first | (rw [aP]; with_reducible exact H) | (have H2_ := (Option.bind_some _ _).symm.trans H; rw [aP]; with_reducible exact H2_) | (have H2_ := (Option.bind_some _ _).symm.trans H; with_reducible exact H2_) | with_reducible exact H | (rw [aP]; exact H) | exact H
 have aV := am aP
 clear aP
 replace H := bm H
 obtain ⟨⟨aT, aO⟩, bI, H⟩ := H
 replace H : ((qAN.f ([] : List Int) 1 ([] : List Int) (([(⟨1, 0, (⟨1, 1⟩ : S48)⟩ : S51), (⟨11, 0, (⟨0, 0⟩ : S48)⟩ : S51)] : List (S51))) ([] : List (S34)) ([] : List Int)).bind fun aK => ((qAN.f ([] : List Int) 1 ([] : List Int) (([(⟨11, 0, (⟨0, 0⟩ : S48)⟩ : S51)] : List (S51))) ([] : List (S34)) ([] : List Int)).bind fun aG => (if aO = 0 then ((qAu.f aT (([1, 1, 0, 0, 0, 0, 0, 0, 0, 1, 10, 1, 2, 11] : List Int))).bind fun aI => (if aI = true then (if aK.2 = 0 then (if aG.2 = 51 then ((qBy.f 1 0 1 1).bind fun aE => (some (aE.toList == ([112, 117, 115, 104, 32, 49] : List UInt8)))) else (some false)) else (some false)) else (some false))) else (some false)))) = some r := H
 have A1 := am bI
 clear bI
 obtain ⟨a0, aQ⟩ : ∃ y_ : List (S51), y_ = (([(⟨1, 0, (⟨1, 1⟩ : S48)⟩ : S51), (⟨11, 0, (⟨0, 0⟩ : S48)⟩ : S51)] : List (S51))) := ⟨_, rfl⟩
 replace H : ((qAN.f ([] : List Int) 1 ([] : List Int) a0 ([] : List (S34)) ([] : List Int)).bind fun aK => ((qAN.f ([] : List Int) 1 ([] : List Int) (([(⟨11, 0, (⟨0, 0⟩ : S48)⟩ : S51)] : List (S51))) ([] : List (S34)) ([] : List Int)).bind fun aG => (if aO = 0 then ((qAu.f aT (([1, 1, 0, 0, 0, 0, 0, 0, 0, 1, 10, 1, 2, 11] : List Int))).bind fun aI => (if aI = true then (if aK.2 = 0 then (if aG.2 = 51 then ((qBy.f 1 0 1 1).bind fun aE => (some (aE.toList == ([112, 117, 115, 104, 32, 49] : List UInt8)))) else (some false)) else (some false)) else (some false))) else (some false)))) = some r := by first | (rw [aQ]; with_reducible exact H) | (have H2_ := (Option.bind_some _ _).symm.trans H; rw [aQ]; with_reducible exact H2_) | (have H2_ := (Option.bind_some _ _).symm.trans H; with_reducible exact H2_) | with_reducible exact H | (rw [aQ]; exact H) | exact H
 have aW := am aQ
 clear aQ
 replace H := bm H
 obtain ⟨⟨bG, aM⟩, bJ, H⟩ := H
 replace H : ((qAN.f ([] : List Int) 1 ([] : List Int) (([(⟨11, 0, (⟨0, 0⟩ : S48)⟩ : S51)] : List (S51))) ([] : List (S34)) ([] : List Int)).bind fun aG => (if aO = 0 then ((qAu.f aT (([1, 1, 0, 0, 0, 0, 0, 0, 0, 1, 10, 1, 2, 11] : List Int))).bind fun aI => (if aI = true then (if aM = 0 then (if aG.2 = 51 then ((qBy.f 1 0 1 1).bind fun aE => (some (aE.toList == ([112, 117, 115, 104, 32, 49] : List UInt8)))) else (some false)) else (some false)) else (some false))) else (some false))) = some r := H
 have A2 := am bJ
 clear bJ
 obtain ⟨a1, aR⟩ : ∃ y_ : List (S51), y_ = (([(⟨11, 0, (⟨0, 0⟩ : S48)⟩ : S51)] : List (S51))) := ⟨_, rfl⟩
 replace H : ((qAN.f ([] : List Int) 1 ([] : List Int) a1 ([] : List (S34)) ([] : List Int)).bind fun aG => (if aO = 0 then ((qAu.f aT (([1, 1, 0, 0, 0, 0, 0, 0, 0, 1, 10, 1, 2, 11] : List Int))).bind fun aI => (if aI = true then (if aM = 0 then (if aG.2 = 51 then ((qBy.f 1 0 1 1).bind fun aE => (some (aE.toList == ([112, 117, 115, 104, 32, 49] : List UInt8)))) else (some false)) else (some false)) else (some false))) else (some false))) = some r := by first | (rw [aR]; with_reducible exact H) | (have H2_ := (Option.bind_some _ _).symm.trans H; rw [aR]; with_reducible exact H2_) | (have H2_ := (Option.bind_some _ _).symm.trans H; with_reducible exact H2_) | with_reducible exact H | (rw [aR]; exact H) | exact H
 have aX := am aR
 clear aR
 replace H := bm H
 obtain ⟨⟨bH, aU⟩, bK, H⟩ := H
 replace H : (if aO = 0 then ((qAu.f aT (([1, 1, 0, 0, 0, 0, 0, 0, 0, 1, 10, 1, 2, 11] : List Int))).bind fun aI => (if aI = true then (if aM = 0 then (if aU = 51 then ((qBy.f 1 0 1 1).bind fun aE => (some (aE.toList == ([112, 117, 115, 104, 32, 49] : List UInt8)))) else (some false)) else (some false)) else (some false))) else (some false)) = some r := H
 have A3 := am bK
 clear bK
 by_cases c4 : aO = 0
 ·rw [if_pos c4] at H
  have bR : (aO == 0) = true := beq_iff_eq.mpr c4
  have bS : (aO != 0) = false := bn c4
  clear c4
  obtain ⟨a3, aS⟩ : ∃ y_ : List Int, y_ = (([1, 1, 0, 0, 0, 0, 0, 0, 0, 1, 10, 1, 2, 11] : List Int)) := ⟨_, rfl⟩
  replace H : ((qAu.f aT a3).bind fun aI => (if aI = true then (if aM = 0 then (if aU = 51 then ((qBy.f 1 0 1 1).bind fun aE => (some (aE.toList == ([112, 117, 115, 104, 32, 49] : List UInt8)))) else (some false)) else (some false)) else (some false))) = some r := by first | (rw [aS]; with_reducible exact H) | (have H2_ := (Option.bind_some _ _).symm.trans H; rw [aS]; with_reducible exact H2_) | (have H2_ := (Option.bind_some _ _).symm.trans H; with_reducible exact H2_) | with_reducible exact H | (rw [aS]; exact H) | exact H
  have aY := am aS
  clear aS
  replace H := bm H
  obtain ⟨aI, bL, H⟩ := H
  replace H : (if aI = true then (if aM = 0 then (if aU = 51 then ((qBy.f 1 0 1 1).bind fun aE => (some (aE.toList == ([112, 117, 115, 104, 32, 49] : List UInt8)))) else (some false)) else (some false)) else (some false)) = some r := H
  have A5 := am bL
  clear bL
  by_cases c6 : aI = true
  ·subst c6
   replace H : (if aM = 0 then (if aU = 51 then ((qBy.f 1 0 1 1).bind fun aE => (some (aE.toList == ([112, 117, 115, 104, 32, 49] : List UInt8)))) else (some false)) else (some false)) = some r := by rw [if_pos rfl] at H; exact H
   by_cases c7 : aM = 0
   ·rw [if_pos c7] at H
    have bT : (aM == 0) = true := beq_iff_eq.mpr c7
    have bU : (aM != 0) = false := bn c7
    clear c7
    by_cases c8 : aU = 51
    ·rw [if_pos c8] at H
     have bV : (aU == 51) = true := beq_iff_eq.mpr c8
     have bW : (aU != 51) = false := bn c8
     clear c8
     replace H := bm H
     obtain ⟨aE, bM, H⟩ := H
     replace H : (some (aE.toList == ([112, 117, 115, 104, 32, 49] : List UInt8))) = some r := H
     have A9 := am bM
     clear bM
     obtain rfl := Option.some.inj H
     go_enter Tryz.func17, Tryz.ntmps17
     go_wp2_with (first | ((with_reducible refine qAV (N := 1) rfl ?_); (try (refine qBw (by rfl) ?_; dsimp only)); refine qB5 ?hg (N := 1) ?hd (cs := #[.int .i64 0, .int .i64 0, .int .i64 0, .int .u64 0]) (t := 51) ?hr ?_; (case hd => rfl); (case hg => rfl); (case hr => first | (go_simp; done) | (go_simp; rfl)); intro aH hg b4 hbox hb; have n0_ := am (qAq (by repeat (first | (with_reducible first | exact HB.o | apply qAg | apply qAe | apply qAj) | exact HB.o)) hb); have n1_ := am (hbox); have n2_ := am ((by rw [hg]; exact (qAm (by repeat (first | (with_reducible first | exact HB.o | apply qAg | apply qAe | apply qAj) | exact HB.o))) : w.heap.size ≤ aH)); have n3_ := am ((by rw [hg]; exact (qAm (by repeat (first | (with_reducible first | exact HB.o | apply qAg | apply qAe | apply qAj) | exact HB.o))) : w.heap.size ≤ aH)); clear HB; have HB := n0_; have aA := n1_; have bN := n2_; have aF := n3_; clear n0_ n1_ n2_ n3_; clear hb hbox hg; obtain ⟨a4, a5, a6, a7⟩ := c4_ b4 aA.o; obtain ⟨ag, ah, ai, aj⟩ := z4_ aA.o) | ((with_reducible refine qAV (N := 14) rfl ?_); (try (refine qBw (by rfl) ?_; dsimp only)); refine Kd.R_lit k51 _ 51 ?hg (N := 14) ?hd (xs := ([(⟨1, 0, (⟨1, 1⟩ : S48)⟩ : S51), (⟨10, 258, (⟨0, 0⟩ : S48)⟩ : S51), (⟨11, 0, (⟨0, 0⟩ : S48)⟩ : S51)] : List (S51))) (inner := [.int .i64 1, .int .i64 0, .int .i64 1, .int .u64 1, .int .i64 10, .int .i64 258, .int .i64 0, .int .u64 0, .int .i64 11, .int .i64 0, .int .i64 0, .int .u64 0]) (ok := fun _ => True) (okp := fun _ => True) ?hr ?hp (fun _ hk => hk) trivial (Below.refl _ _) (Nat.le_refl _) (by simp) ?_; (case hd => rfl); (case hg => rfl); (case hr => first | (go_simp; done) | (go_simp; rfl)); (case hp => exact (Reps.c4 (show Kd.M k51 _ _ _ (⟨1, 0, (⟨1, 1⟩ : S48)⟩ : S51) [.int .i64 1, .int .i64 0, .int .i64 1, .int .u64 1] from (qCW _ _ _ (⟨1, 0, (⟨1, 1⟩ : S48)⟩ : S51) )) (Reps.c4 (show Kd.M k51 _ _ _ (⟨10, 258, (⟨0, 0⟩ : S48)⟩ : S51) [.int .i64 10, .int .i64 258, .int .i64 0, .int .u64 0] from (qCW _ _ _ (⟨10, 258, (⟨0, 0⟩ : S48)⟩ : S51) )) (Reps.c4 (show Kd.M k51 _ _ _ (⟨11, 0, (⟨0, 0⟩ : S48)⟩ : S51) [.int .i64 11, .int .i64 0, .int .i64 0, .int .u64 0] from (qCW _ _ _ (⟨11, 0, (⟨0, 0⟩ : S48)⟩ : S51) )) (Reps.none _ _))))); intro bZ b7 ho13 hb hg_ hnew_; clear hg_ hnew_; (first | rw [← aV.o] at ho13 | (simp only [Int.reduceToNat] at ho13; rw [← aV.o] at ho13)); have n0_ := am (Kd.R_lower (Kd.R_newB ho13 (g := aH) (o := .cells #[.int .i64 1, .int .i64 0, .int .i64 1, .int .u64 1] 51 (0, 0)) (by (with_reducible repeat (first | refine qAs ?_ _ | refine qAt ?_ | refine qAv ?_ _)); refine qAQ (cs := #[.int .i64 1, .int .i64 0, .int .i64 1, .int .u64 0]) ?_ 3 _ rfl; (with_reducible repeat (first | refine qAs ?_ _ | refine qAt ?_ | refine qAv ?_ _)); refine qAQ (cs := #[.int .i64 1, .int .i64 0, .int .i64 0, .int .u64 0]) ?_ 2 _ rfl; (with_reducible repeat (first | refine qAs ?_ _ | refine qAt ?_ | refine qAv ?_ _)); refine qAQ (cs := #[.int .i64 1, .int .i64 0, .int .i64 0, .int .u64 0]) ?_ 1 _ rfl; (with_reducible repeat (first | refine qAs ?_ _ | refine qAt ?_ | refine qAv ?_ _)); refine qAQ (cs := #[.int .i64 0, .int .i64 0, .int .i64 0, .int .u64 0]) ?_ 0 _ rfl; (with_reducible repeat (first | refine qAs ?_ _ | refine qAt ?_ | refine qAv ?_ _)); exact aA.o)) (qAm (by repeat (first | (with_reducible first | exact HB.o | apply qAg | apply qAe | apply qAj | refine qAi ?_ aF.o) | exact HB.o)))); have n1_ := am (qAk (g := aH) (o := .cells #[.int .i64 1, .int .i64 0, .int .i64 1, .int .u64 1] 51 (0, 0)) (by (with_reducible repeat (first | refine qAs ?_ _ | refine qAt ?_ | refine qAv ?_ _)); refine qAQ (cs := #[.int .i64 1, .int .i64 0, .int .i64 1, .int .u64 0]) ?_ 3 _ rfl; (with_reducible repeat (first | refine qAs ?_ _ | refine qAt ?_ | refine qAv ?_ _)); refine qAQ (cs := #[.int .i64 1, .int .i64 0, .int .i64 0, .int .u64 0]) ?_ 2 _ rfl; (with_reducible repeat (first | refine qAs ?_ _ | refine qAt ?_ | refine qAv ?_ _)); refine qAQ (cs := #[.int .i64 1, .int .i64 0, .int .i64 0, .int .u64 0]) ?_ 1 _ rfl; (with_reducible repeat (first | refine qAs ?_ _ | refine qAt ?_ | refine qAv ?_ _)); refine qAQ (cs := #[.int .i64 0, .int .i64 0, .int .i64 0, .int .u64 0]) ?_ 0 _ rfl; (with_reducible repeat (first | refine qAs ?_ _ | refine qAt ?_ | refine qAv ?_ _)); exact aA.o) hb); have n2_ := am (qAq (by repeat (first | (with_reducible first | exact HB.o | apply qAg | apply qAe | apply qAj | refine qAi ?_ aF.o) | exact HB.o)) hb); clear aA; clear HB; have aB := n0_; have aA := n1_; have HB := n2_; clear n0_ n1_ n2_; clear hb ho13; obtain ⟨av, ay, bB⟩ := Kd.R_slice aB.o; subst bB) | ((with_reducible refine qA7 (f := 19) rfl ?_); refine qBG (some 15) rfl rfl Tryz.func19 (by kernel_rfl) rfl #[.slice av aZ.length ay] rfl (by (try simp only [List.map_toArray, List.map_cons, List.map_nil]); first | done | rfl | (simp only [List.length_drop, List.length_take]; rfl)) ?_; (with_reducible refine (qAC.calls _ _ aZ aT aO _ ?side1 ?side2 A1.o).mono ?_); (case side1 => repeat (first | exact (Kd.R_reads' aB.o).2.2 | (with_reducible refine Kd.C_alloc ?_ _) | (with_reducible refine Kd.C_drewN ?_ _) | (with_reducible refine Kd.C_drew ?_))); (case side2 => exact (Kd.R_reads' aB.o).2.1); rintro e b5 ⟨b0, rfl, bO, hb⟩; refine ⟨_, rfl, ?_⟩; have n0_ := am (Kd.R_below (by (with_reducible repeat (first | apply Kd.R_alloc | apply Kd.R_drewN | apply Kd.R_drew)); exact aB.o) hb); have n1_ := am (Kd.R_lower bO (qAm (by repeat (first | (with_reducible first | exact HB.o | apply qAg | apply qAe | apply qAj | refine qAi ?_ aF.o) | exact HB.o)))); have n2_ := am (qAk (g := aH) (o := .cells #[.int .i64 1, .int .i64 0, .int .i64 1, .int .u64 1] 51 (0, 0)) (by (with_reducible repeat (first | refine qAs ?_ _ | refine qAt ?_ | refine qAv ?_ _)); exact aA.o) hb); have n3_ := am (qAq (by repeat (first | (with_reducible first | exact HB.o | apply qAg | apply qAe | apply qAj | refine qAi ?_ aF.o) | exact HB.o)) hb); clear aB; clear aA; clear HB; have aB := n0_; have aC := n1_; have aA := n2_; have HB := n3_; clear n0_ n1_ n2_ n3_; obtain ⟨a8, a9, aa, ab⟩ := c4_ b5 aA.o; obtain ⟨ak, al, an, ao⟩ := z4_ aA.o) | ((with_reducible refine qAV (N := 22) rfl ?_); (try (refine qBw (by rfl) ?_; dsimp only)); refine Kd.R_lit k51 _ 51 ?hg (N := 22) ?hd (xs := ([(⟨1, 0, (⟨1, 1⟩ : S48)⟩ : S51), (⟨11, 0, (⟨0, 0⟩ : S48)⟩ : S51)] : List (S51))) (inner := [.int .i64 1, .int .i64 0, .int .i64 1, .int .u64 1, .int .i64 11, .int .i64 0, .int .i64 0, .int .u64 0]) (ok := fun _ => True) (okp := fun _ => True) ?hr ?hp (fun _ hk => hk) trivial (Below.refl _ _) (Nat.le_refl _) (by simp) ?_; (case hd => rfl); (case hg => rfl); (case hr => first | (go_simp; done) | (go_simp; rfl)); (case hp => exact (Reps.c4 (show Kd.M k51 _ _ _ (⟨1, 0, (⟨1, 1⟩ : S48)⟩ : S51) [.int .i64 1, .int .i64 0, .int .i64 1, .int .u64 1] from (qCW _ _ _ (⟨1, 0, (⟨1, 1⟩ : S48)⟩ : S51) )) (Reps.c4 (show Kd.M k51 _ _ _ (⟨11, 0, (⟨0, 0⟩ : S48)⟩ : S51) [.int .i64 11, .int .i64 0, .int .i64 0, .int .u64 0] from (qCW _ _ _ (⟨11, 0, (⟨0, 0⟩ : S48)⟩ : S51) )) (Reps.none _ _)))); intro b1 b8 ho18 hb hg_ hnew_; clear hg_ hnew_; (first | rw [← aW.o] at ho18 | (simp only [Int.reduceToNat] at ho18; rw [← aW.o] at ho18)); have n0_ := am (Kd.R_elder' (by (with_reducible repeat (first | apply Kd.R_alloc | apply Kd.R_drewN | apply Kd.R_drew)); exact aB.o) (Kd.R_base ho18) hb); have n1_ := am (Kd.R_below (by (with_reducible repeat (first | apply Kd.R_alloc | apply Kd.R_drewN | apply Kd.R_drew)); exact aC.o) hb); have n2_ := am (Kd.R_lower (Kd.R_newB (Kd.R_new' ho18 (Kd.R_lt (by (with_reducible repeat (first | apply Kd.R_alloc | apply Kd.R_drewN | apply Kd.R_drew)); exact aB.o))) (g := aH) (o := .cells #[.int .i64 1, .int .i64 0, .int .i64 1, .int .u64 1] 51 (0, 0)) (by (with_reducible repeat (first | refine qAs ?_ _ | refine qAt ?_ | refine qAv ?_ _)); exact aA.o)) (qAm (by repeat (first | (with_reducible first | exact HB.o | apply qAg | apply qAe | apply qAj | refine qAi ?_ aF.o) | exact HB.o)))); have n3_ := am (qAk (g := aH) (o := .cells #[.int .i64 1, .int .i64 0, .int .i64 1, .int .u64 1] 51 (0, 0)) (by (with_reducible repeat (first | refine qAs ?_ _ | refine qAt ?_ | refine qAv ?_ _)); exact aA.o) hb); have n4_ := am (qAq (by repeat (first | (with_reducible first | exact HB.o | apply qAg | apply qAe | apply qAj | refine qAi ?_ aF.o) | exact HB.o)) hb); clear aB; clear aC; clear aA; clear HB; have aB := n0_; have aC := n1_; have aD := n2_; have aA := n3_; have HB := n4_; clear n0_ n1_ n2_ n3_ n4_; clear hb ho18; obtain ⟨aw, az, bC⟩ := Kd.R_slice aD.o; subst bC) | ((with_reducible refine qA7 (f := 13) rfl ?_); refine qBG (some 25) rfl rfl Tryz.func13 (by kernel_rfl) rfl #[.agg #[.slice none 0 0, .int .i64 1, .slice none 0 0, .slice aw a0.length az], .agg #[.slice none 0 0, .slice none 0 0]] rfl (by (try simp only [List.map_toArray, List.map_cons, List.map_nil]); first | done | rfl | (simp only [List.length_drop, List.length_take]; rfl)) ?_; (refine (qAN.calls _ _ ([] : List Int) 1 _ _ ([] : List Int) _ _ a0 _ _ ([] : List (S34)) _ _ ([] : List Int) bG aM _ ?side1 ?side2 ?side3 ?side4 ?side5 ?side6 ?side7 ?side8 ?side9 ?side10 A2.o).mono ?_); (case side1 => exact Kd.C_nil _ _); (case side2 => exact Nat.le_refl _); (case side3 => exact Kd.C_nil _ _); (case side4 => exact Nat.le_refl _); (case side5 => repeat (first | exact (Kd.R_reads' aD.o).2.2 | (with_reducible refine Kd.C_alloc ?_ _) | (with_reducible refine Kd.C_drewN ?_ _) | (with_reducible refine Kd.C_drew ?_))); (case side6 => exact (Kd.R_reads' aD.o).2.1); (case side7 => exact Kd.C_nil _ _); (case side8 => exact Nat.le_refl _); (case side9 => exact Kd.C_nil _ _); (case side10 => exact Nat.le_refl _); rintro e b9 ⟨rfl, hb⟩; refine ⟨_, rfl, ?_⟩; have n0_ := am (Kd.R_below (by (with_reducible repeat (first | apply Kd.R_alloc | apply Kd.R_drewN | apply Kd.R_drew)); exact aB.o) hb); have n1_ := am (Kd.R_below (by (with_reducible repeat (first | apply Kd.R_alloc | apply Kd.R_drewN | apply Kd.R_drew)); exact aC.o) hb); have n2_ := am (Kd.R_below (by (with_reducible repeat (first | apply Kd.R_alloc | apply Kd.R_drewN | apply Kd.R_drew)); exact aD.o) hb); have n3_ := am (qAk (g := aH) (o := .cells #[.int .i64 1, .int .i64 0, .int .i64 1, .int .u64 1] 51 (0, 0)) (by (with_reducible repeat (first | refine qAs ?_ _ | refine qAt ?_ | refine qAv ?_ _)); exact aA.o) hb); have n4_ := am (qAq (by repeat (first | (with_reducible first | exact HB.o | apply qAg | apply qAe | apply qAj | refine qAi ?_ aF.o) | exact HB.o)) hb); clear aB; clear aC; clear aD; clear aA; clear HB; have aB := n0_; have aC := n1_; have aD := n2_; have aA := n3_; have HB := n4_; clear n0_ n1_ n2_ n3_ n4_) | ((with_reducible refine qAV (N := 31) rfl ?_); (try (refine qBw (by rfl) ?_; dsimp only)); refine Kd.R_lit k51 _ 51 ?hg (N := 31) ?hd (xs := ([(⟨11, 0, (⟨0, 0⟩ : S48)⟩ : S51)] : List (S51))) (inner := [.int .i64 11, .int .i64 0, .int .i64 0, .int .u64 0]) (ok := fun _ => True) (okp := fun _ => True) ?hr ?hp (fun _ hk => hk) trivial (Below.refl _ _) (Nat.le_refl _) (by simp) ?_; (case hd => rfl); (case hg => rfl); (case hr => first | (go_simp; done) | (go_simp; rfl)); (case hp => exact (Reps.c4 (show Kd.M k51 _ _ _ (⟨11, 0, (⟨0, 0⟩ : S48)⟩ : S51) [.int .i64 11, .int .i64 0, .int .i64 0, .int .u64 0] from (qCW _ _ _ (⟨11, 0, (⟨0, 0⟩ : S48)⟩ : S51) )) (Reps.none _ _))); intro b2 ba ho22 hb hg_ hnew_; clear hg_ hnew_; (first | rw [← aX.o] at ho22 | (simp only [Int.reduceToNat] at ho22; rw [← aX.o] at ho22)); have n0_ := am (Kd.R_elder' (by (with_reducible repeat (first | apply Kd.R_alloc | apply Kd.R_drewN | apply Kd.R_drew)); exact aB.o) (Kd.R_base ho22) hb); have n1_ := am (Kd.R_below (by (with_reducible repeat (first | apply Kd.R_alloc | apply Kd.R_drewN | apply Kd.R_drew)); exact aC.o) hb); have n2_ := am (Kd.R_elder' (by (with_reducible repeat (first | apply Kd.R_alloc | apply Kd.R_drewN | apply Kd.R_drew)); exact aD.o) (Kd.R_base ho22) hb); have n3_ := am (Kd.R_lower (Kd.R_newB (Kd.R_new' (Kd.R_new' ho22 (Kd.R_lt (by (with_reducible repeat (first | apply Kd.R_alloc | apply Kd.R_drewN | apply Kd.R_drew)); exact aB.o))) (Kd.R_lt (by (with_reducible repeat (first | apply Kd.R_alloc | apply Kd.R_drewN | apply Kd.R_drew)); exact aD.o))) (g := aH) (o := .cells #[.int .i64 1, .int .i64 0, .int .i64 1, .int .u64 1] 51 (0, 0)) (by (with_reducible repeat (first | refine qAs ?_ _ | refine qAt ?_ | refine qAv ?_ _)); exact aA.o)) (qAm (by repeat (first | (with_reducible first | exact HB.o | apply qAg | apply qAe | apply qAj | refine qAi ?_ aF.o) | exact HB.o)))); have n4_ := am (qAk (g := aH) (o := .cells #[.int .i64 1, .int .i64 0, .int .i64 1, .int .u64 1] 51 (0, 0)) (by (with_reducible repeat (first | refine qAs ?_ _ | refine qAt ?_ | refine qAv ?_ _)); exact aA.o) hb); have n5_ := am (qAq (by repeat (first | (with_reducible first | exact HB.o | apply qAg | apply qAe | apply qAj | refine qAi ?_ aF.o) | exact HB.o)) hb); clear aB; clear aC; clear aD; clear aA; clear HB; have aB := n0_; have aC := n1_; have aD := n2_; have aJ := n3_; have aA := n4_; have HB := n5_; clear n0_ n1_ n2_ n3_ n4_ n5_; clear hb ho22; obtain ⟨ax, bA, bD⟩ := Kd.R_slice aJ.o; subst bD) | ((with_reducible refine qA7 (f := 13) rfl ?_); refine qBG (some 34) rfl rfl Tryz.func13 (by kernel_rfl) rfl #[.agg #[.slice none 0 0, .int .i64 1, .slice none 0 0, .slice ax a1.length bA], .agg #[.slice none 0 0, .slice none 0 0]] rfl (by (try simp only [List.map_toArray, List.map_cons, List.map_nil]); first | done | rfl | (simp only [List.length_drop, List.length_take]; rfl)) ?_; (refine (qAN.calls _ _ ([] : List Int) 1 _ _ ([] : List Int) _ _ a1 _ _ ([] : List (S34)) _ _ ([] : List Int) bH aU _ ?side1 ?side2 ?side3 ?side4 ?side5 ?side6 ?side7 ?side8 ?side9 ?side10 A3.o).mono ?_); (case side1 => exact Kd.C_nil _ _); (case side2 => exact Nat.le_refl _); (case side3 => exact Kd.C_nil _ _); (case side4 => exact Nat.le_refl _); (case side5 => repeat (first | exact (Kd.R_reads' aJ.o).2.2 | (with_reducible refine Kd.C_alloc ?_ _) | (with_reducible refine Kd.C_drewN ?_ _) | (with_reducible refine Kd.C_drew ?_))); (case side6 => exact (Kd.R_reads' aJ.o).2.1); (case side7 => exact Kd.C_nil _ _); (case side8 => exact Nat.le_refl _); (case side9 => exact Kd.C_nil _ _); (case side10 => exact Nat.le_refl _); rintro e bb ⟨rfl, hb⟩; refine ⟨_, rfl, ?_⟩; have n0_ := am (Kd.R_below (by (with_reducible repeat (first | apply Kd.R_alloc | apply Kd.R_drewN | apply Kd.R_drew)); exact aB.o) hb); have n1_ := am (Kd.R_below (by (with_reducible repeat (first | apply Kd.R_alloc | apply Kd.R_drewN | apply Kd.R_drew)); exact aC.o) hb); have n2_ := am (Kd.R_below (by (with_reducible repeat (first | apply Kd.R_alloc | apply Kd.R_drewN | apply Kd.R_drew)); exact aD.o) hb); have n3_ := am (Kd.R_below (by (with_reducible repeat (first | apply Kd.R_alloc | apply Kd.R_drewN | apply Kd.R_drew)); exact aJ.o) hb); have n4_ := am (qAk (g := aH) (o := .cells #[.int .i64 1, .int .i64 0, .int .i64 1, .int .u64 1] 51 (0, 0)) (by (with_reducible repeat (first | refine qAs ?_ _ | refine qAt ?_ | refine qAv ?_ _)); exact aA.o) hb); have n5_ := am (qAq (by repeat (first | (with_reducible first | exact HB.o | apply qAg | apply qAe | apply qAj | refine qAi ?_ aF.o) | exact HB.o)) hb); clear aB; clear aC; clear aD; clear aJ; clear aA; clear HB; have aB := n0_; have aC := n1_; have aD := n2_; have aJ := n3_; have aA := n4_; have HB := n5_; clear n0_ n1_ n2_ n3_ n4_ n5_) | ((with_reducible refine qAV (N := 41) rfl ?_); (try (refine qBw (by rfl) ?_; dsimp only)); refine Kd.R_lit (Kd.int .u8) _ 5 ?hg (N := 41) ?hd (xs := ([1, 1, 0, 0, 0, 0, 0, 0, 0, 1, 10, 1, 2, 11] : List Int)) (inner := [.int .u8 1, .int .u8 1, .int .u8 0, .int .u8 0, .int .u8 0, .int .u8 0, .int .u8 0, .int .u8 0, .int .u8 0, .int .u8 1, .int .u8 10, .int .u8 1, .int .u8 2, .int .u8 11]) (ok := fun _ => True) (okp := fun _ => True) ?hr ?hp (fun _ hk => hk) trivial (Below.refl _ _) (Nat.le_refl _) (by simp) ?_; (case hd => rfl); (case hg => rfl); (case hr => first | (go_simp; done) | (go_simp; rfl)); (case hp => exact (Reps.one (show Kd.M (Kd.int .u8) _ _ _ 1 [.int .u8 1] from rfl) (Reps.one (show Kd.M (Kd.int .u8) _ _ _ 1 [.int .u8 1] from rfl) (Reps.one (show Kd.M (Kd.int .u8) _ _ _ 0 [.int .u8 0] from rfl) (Reps.one (show Kd.M (Kd.int .u8) _ _ _ 0 [.int .u8 0] from rfl) (Reps.one (show Kd.M (Kd.int .u8) _ _ _ 0 [.int .u8 0] from rfl) (Reps.one (show Kd.M (Kd.int .u8) _ _ _ 0 [.int .u8 0] from rfl) (Reps.one (show Kd.M (Kd.int .u8) _ _ _ 0 [.int .u8 0] from rfl) (Reps.one (show Kd.M (Kd.int .u8) _ _ _ 0 [.int .u8 0] from rfl) (Reps.one (show Kd.M (Kd.int .u8) _ _ _ 0 [.int .u8 0] from rfl) (Reps.one (show Kd.M (Kd.int .u8) _ _ _ 1 [.int .u8 1] from rfl) (Reps.one (show Kd.M (Kd.int .u8) _ _ _ 10 [.int .u8 10] from rfl) (Reps.one (show Kd.M (Kd.int .u8) _ _ _ 1 [.int .u8 1] from rfl) (Reps.one (show Kd.M (Kd.int .u8) _ _ _ 2 [.int .u8 2] from rfl) (Reps.one (show Kd.M (Kd.int .u8) _ _ _ 11 [.int .u8 11] from rfl) (Reps.none _ _)))))))))))))))); intro b3 b6 ho26 hb hg_ hnew_; clear hg_ hnew_; (first | rw [← aY.o] at ho26 | (simp only [Int.reduceToNat] at ho26; rw [← aY.o] at ho26)); have n0_ := am (Kd.R_below (by (with_reducible repeat (first | apply Kd.R_alloc | apply Kd.R_drewN | apply Kd.R_drew)); exact aB.o) hb); have n1_ := am (Kd.R_elder' (by (with_reducible repeat (first | apply Kd.R_alloc | apply Kd.R_drewN | apply Kd.R_drew)); exact aC.o) (Kd.R_base ho26) hb); have n2_ := am (Kd.R_below (by (with_reducible repeat (first | apply Kd.R_alloc | apply Kd.R_drewN | apply Kd.R_drew)); exact aD.o) hb); have n3_ := am (Kd.R_below (by (with_reducible repeat (first | apply Kd.R_alloc | apply Kd.R_drewN | apply Kd.R_drew)); exact aJ.o) hb); have n4_ := am (Kd.R_lower (Kd.R_new' ho26 (Kd.R_lt (by (with_reducible repeat (first | apply Kd.R_alloc | apply Kd.R_drewN | apply Kd.R_drew)); exact aC.o))) (qAm (by repeat (first | (with_reducible first | exact HB.o | apply qAg | apply qAe | apply qAj | refine qAi ?_ aF.o) | exact HB.o)))); have n5_ := am (qAk (g := aH) (o := .cells #[.int .i64 1, .int .i64 0, .int .i64 1, .int .u64 1] 51 (0, 0)) (by (with_reducible repeat (first | refine qAs ?_ _ | refine qAt ?_ | refine qAv ?_ _)); exact aA.o) hb); have n6_ := am (qAq (by repeat (first | (with_reducible first | exact HB.o | apply qAg | apply qAe | apply qAj | refine qAi ?_ aF.o) | exact HB.o)) hb); clear aB; clear aC; clear aD; clear aJ; clear aA; clear HB; have aB := n0_; have aC := n1_; have aD := n2_; have aJ := n3_; have aN := n4_; have aA := n5_; have HB := n6_; clear n0_ n1_ n2_ n3_ n4_ n5_ n6_; clear hb ho26; obtain ⟨bP, bX, bE⟩ := Kd.R_slice aC.o; subst bE; obtain ⟨bQ, bY, bF⟩ := Kd.R_slice aN.o; subst bF) | (go_at_call 22; (with_reducible refine (qAu.calls _ _ aT _ _ a3 true _ ?side1 ?side2 ?side3 ?side4 A5.o).mono ?_); (case side1 => repeat (first | exact (Kd.R_reads' aC.o).2.2 | (with_reducible refine Kd.C_alloc ?_ _) | (with_reducible refine Kd.C_drewN ?_ _) | (with_reducible refine Kd.C_drew ?_))); (case side2 => exact (Kd.R_reads' aC.o).2.1); (case side3 => repeat (first | exact (Kd.R_reads' aN.o).2.2 | (with_reducible refine Kd.C_alloc ?_ _) | (with_reducible refine Kd.C_drewN ?_ _) | (with_reducible refine Kd.C_drew ?_))); (case side4 => exact (Kd.R_reads' aN.o).2.1); rintro e w' ⟨rfl, ⟨nd, rfl⟩⟩; obtain ⟨ac, ad, ae, af⟩ := c4_ b6 aA.o; obtain ⟨ap, aq, ar, au⟩ := z4_ aA.o) | (go_at_call 20; (with_reducible refine (qBy.calls 1 0 1 1 aE _ A9.o).mono ?_); rintro e bc ⟨rfl, hb⟩; have n0_ := am (Kd.R_below (by (with_reducible repeat (first | apply Kd.R_alloc | apply Kd.R_drewN | apply Kd.R_drew)); exact aB.o) hb); have n1_ := am (Kd.R_below (by (with_reducible repeat (first | apply Kd.R_alloc | apply Kd.R_drewN | apply Kd.R_drew)); exact aC.o) hb); have n2_ := am (Kd.R_below (by (with_reducible repeat (first | apply Kd.R_alloc | apply Kd.R_drewN | apply Kd.R_drew)); exact aD.o) hb); have n3_ := am (Kd.R_below (by (with_reducible repeat (first | apply Kd.R_alloc | apply Kd.R_drewN | apply Kd.R_drew)); exact aJ.o) hb); have n4_ := am (Kd.R_below (by (with_reducible repeat (first | apply Kd.R_alloc | apply Kd.R_drewN | apply Kd.R_drew)); exact aN.o) hb); have n5_ := am (qAk (g := aH) (o := .cells #[.int .i64 1, .int .i64 0, .int .i64 1, .int .u64 1] 51 (0, 0)) (by (with_reducible repeat (first | refine qAs ?_ _ | refine qAt ?_ | refine qAv ?_ _)); exact aA.o) hb); have n6_ := am (qAq (by repeat (first | (with_reducible first | exact HB.o | apply qAg | apply qAe | apply qAj | refine qAi ?_ aF.o) | exact HB.o)) hb); clear aB; clear aC; clear aD; clear aJ; clear aN; clear aA; clear HB; have aB := n0_; have aC := n1_; have aD := n2_; have aJ := n3_; have aN := n4_; have aA := n5_; have HB := n6_; clear n0_ n1_ n2_ n3_ n4_ n5_ n6_))
     go_ret
     exact ⟨by first | rfl | (simp [errW_none, errW_some] <;> rfl) | (simp [*, errW_none, errW_some] <;> rfl), by repeat (first | (with_reducible first | exact HB.o | apply qAg | apply qAe | apply qAj | refine qAi ?_ aF.o) | exact HB.o)⟩
    ·rw [if_neg c8] at H
     subst hr
     exact absurd H (by simp)
   ·rw [if_neg c7] at H
    subst hr
    exact absurd H (by simp)
  ·replace c6 := Bool.eq_false_iff.mpr c6
   subst c6
   replace H : (some false) = some r := by rw [if_neg (show ¬ (false = true) by decide)] at H; exact H
   obtain rfl := Option.some.inj H
   exact absurd hr (by decide)
 ·rw [if_neg c4] at H
  subst hr
  exact absurd H (by simp)
def qAz.f : Option Bool := if alive0.f = some true then some true else none
theorem qAz.calls (r : Bool) (w : World) (h : qAz.f = some r) :
  Calls Tryz.prog 17 #[] w fun e w' => e = .returned (.bool r) ∧ Below w.heap.size w w' := by
 unfold qAz.f at h
 split at h
 ·rename_i h0
  obtain rfl := Option.some.inj h
  exact alive0.calls _ w h0 rfl
 ·cases h
end Q
end
section
namespace Q
open Go.RowKit YA YC YB
open Val Ins Enc
namespace C14
def ofI (x : S50) : S51 := ⟨x.f0, x.f1, x.f2⟩
def ofS (s : S24) : S34 := ⟨s.f0, s.f1⟩
theorem qDc {i : Int} {n : Nat} (h0 : 0 ≤ i) (h : i < n) (hn : n ≤ 4611686018427387904) : wrap64 (i + 1) = i + 1 := by unfold wrap64; omega
theorem qCA {α : Type} (l : List α) (d : α) (i : Int) (h0 : 0 ≤ i) (h : i < l.length) : l.drop i.toNat = l.getD i.toNat d :: l.drop (i + 1).toNat := by
 rw [show (i + 1).toNat = i.toNat + 1 from by omega, List.drop_eq_getElem_cons (by omega), List.getD_eq_getElem?_getD, List.getElem?_eq_getElem (by omega)]; rfl
theorem getD_mem {α : Type} (l : List α) (d : α) (i : Int) (h0 : 0 ≤ i) (h : i < l.length) : l.getD i.toNat d ∈ l := by
 rw [List.getD_eq_getElem?_getD, List.getElem?_eq_getElem (by omega)]; exact List.getElem_mem _
theorem rd_map {α β : Type} (f : α → β) (l : List α) (d : α) (e : β) (i : Int) (h0 : 0 ≤ i) (h : i < l.length) : (l.map f).getD i.toNat e = f (l.getD i.toNat d) := by
 rw [List.getD_eq_getElem?_getD, List.getD_eq_getElem?_getD, List.getElem?_map, List.getElem?_eq_getElem (by omega)]; rfl
theorem u64_bounds {n : Int} (h : (Lit.int .u64 n).wf = true) : 0 ≤ n ∧ n < 18446744073709551616 := by
 simp [Lit.wf, IntKind.min, IntKind.max, IntKind.bits, IntKind.signed] at h
 omega
theorem sig_ev (a : List Int) (b : Int) (ha : a.length ≤ 1048576) : qAD.f a b = some (a, b) := by
 unfold qAD.f
 rw [Option.bind_some, if_pos (by simp; omega), List.nil_append]
theorem mine_ev (l : List S50) (hl : l.length ≤ 1048576) : Ev (fun k => qAy.f k l) (l.map ofI) := by
 have loop : ∀ (n : Nat) (i : Int) (acc : List S51), 0 ≤ i → (l.length : Int) - i = n → acc.length ≤ i → Ev (fun k => qAy.l0 k l acc i) (acc ++ (l.drop i.toNat).map ofI) := by
  intro n
  induction n with
  | zero =>
   intro i acc h0 hn hacc
   rw [List.drop_eq_nil_of_le (by omega), List.map_nil, List.append_nil]
   refine Ev.step (f := fun _ => some acc) (fun k => ?_) (Ev.now _)
   simp only [qAy.l0]
   rw [if_neg (by omega)]
  | succ n ih =>
   intro i acc h0 hn hacc
   have hw := qDc (n := l.length) h0 (by omega) (by omega)
   have hrec := ih (i + 1) (acc ++ [ofI (qA3 l i)]) (by omega) (by omega) (by rw [List.length_append]; simp; omega)
   rw [qCA l z50 i h0 (by omega), List.map_cons]
   rw [List.append_assoc] at hrec
   refine Ev.step (fun k => ?_) hrec
   simp only [qAy.l0]
   rw [if_pos (by omega), if_pos h0, if_pos (by omega), hw]
   rfl
 exact loop l.length 0 [] (by omega) (by omega) (by simp)
theorem fn_ev (a : List Int) (b : Int) (c : List Int) (d : List S50) (ha : a.length ≤ 1048576) (hc : c.length ≤ 1048576) (hd : d.length ≤ 1048576) : Ev (fun k => qAG.f k a b c d) (a, b, c, d.map ofI) := by
 unfold qAG.f
 have h : ([] : List Int).length + c.length < 17592186044416 := by simp; omega
 simp only [sig_ev a b ha, Option.bind_some, h, if_true]
 refine Ev.bind (mine_ev d hd) ?_
 exact Ev.now _
theorem frame_ev (fs : List S24) (vs : List Int) (hf : fs.length ≤ 1048576) (hv : vs.length ≤ 1048576) (hx : ∀ x ∈ fs, x.f0.length ≤ 1048576) : Ev (fun k => qAx.f k fs vs) (fs.map ofS, vs) := by
 have loop : ∀ (n : Nat) (i : Int) (acc : List S34), 0 ≤ i → (fs.length : Int) - i = n → acc.length ≤ i → Ev (fun k => qAx.l0 k i fs vs acc vs) (acc ++ (fs.drop i.toNat).map ofS, vs) := by
  intro n
  induction n with
  | zero =>
   intro i acc h0 hn hacc
   rw [List.drop_eq_nil_of_le (by omega), List.map_nil, List.append_nil]
   refine Ev.step (f := fun _ => some (acc, vs)) (fun k => ?_) (Ev.now _)
   simp only [qAx.l0]
   rw [if_neg (by omega)]
  | succ n ih =>
   intro i acc h0 hn hacc
   have hw := qDc (n := fs.length) h0 (by omega) (by omega)
   have hmem : qAT fs i ∈ fs := getD_mem fs z24 i h0 (by omega)
   have hsg := sig_ev (qAT fs i).f0 (qAT fs i).f1 (hx _ hmem)
   have hrec := ih (i + 1) (acc ++ [ofS (qAT fs i)]) (by omega) (by omega) (by rw [List.length_append]; simp; omega)
   rw [qCA fs z24 i h0 (by omega), List.map_cons]
   rw [List.append_assoc] at hrec
   refine Ev.step (fun k => ?_) hrec
   simp only [qAx.l0]
   rw [if_pos (by omega), if_pos h0, hsg, Option.bind_some, if_pos (by omega), hw]
   rfl
 refine Ev.congr (fun k => ?_) (loop fs.length 0 [] (by omega) (by omega) (by simp))
 unfold qAx.f
 rw [Option.bind_some, if_pos (by simp; omega), List.nil_append]
theorem live0_eq : alive0.f = some true := by decide +kernel
theorem live_eq : qAz.f = some true := by unfold qAz.f; rw [if_pos live0_eq]
structure Good (ps ls : List Int) (code : List S50) (fs : List S24) (vs : List Int) : Prop where
 p : ps.length ≤ 1048576
 l : ls.length ≤ 1048576
 c : code.length ≤ 1048576
 f : fs.length ≤ 1048576
 v : vs.length ≤ 1048576
 u : ∀ x ∈ code, 0 ≤ x.f2.f1 ∧ x.f2.f1 < 18446744073709551616
 s : ∀ x ∈ fs, x.f0.length ≤ 1048576
theorem good_of {x : S27} {y : S30} (g : qBH 1048576 x) (h : qB7 1048576 y) : Good x.f0.f0 x.f1 x.f2 y.f0 y.f1 := by
 obtain ⟨⟨⟨h1, _⟩, _⟩, ⟨h2, _⟩, ⟨h3, h4⟩⟩ := g
 obtain ⟨⟨k1, k2⟩, ⟨k3, _⟩⟩ := h
 exact ⟨h1, h2, h3, k1, k3, fun z hz => u64_bounds (h4 z hz).2.2.2, fun z hz => (k2 z hz).1.1⟩
theorem Good.sz {ps ls : List Int} {code : List S50} {fs : List S24} {vs : List Int} (g : Good ps ls code fs vs) : vSz ps ls (code.map ofI) (fs.map ofS) vs = true := by
 have h1 := g.p; have h2 := g.l; have h3 := g.c; have h4 := g.f; have h5 := g.v
 unfold vSz
 simp only [Bool.and_eq_true, decide_eq_true_eq, List.all_eq_true, List.length_map]
 refine ⟨by omega, by omega, by omega, by omega, by omega, fun x hx => ?_, fun x hx => ?_⟩
 ·obtain ⟨y, hy, rfl⟩ := List.mem_map.1 hx
  exact decide_eq_true (g.u y hy)
 obtain ⟨y, hy, rfl⟩ := List.mem_map.1 hx
 have := g.s y hy
 show y.f0.length ≤ _
 omega
theorem Good.ver {ps ls : List Int} {code : List S50} {fs : List S24} {vs : List Int} (g : Good ps ls code fs vs) (res : Int) : qAN.f ps res ls (code.map ofI) (fs.map ofS) vs = some (qAS ps res ls (code.map ofI) (fs.map ofS) vs).2 := if_pos g.sz
end C14
end Q
end
end Go.Proofs.YtfddibbignedkaaGreatDoor
