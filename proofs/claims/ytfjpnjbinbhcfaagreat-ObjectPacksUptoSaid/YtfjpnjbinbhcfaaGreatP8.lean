/- object.Pack and the document's Pack of any object, where what is read is of bulk at most 1048576: the same bytes and the same error. Part 8 of 8. -/
import Derived.Test.YtfjpnjbinbhcfaaGreatP7
import Derived.Test.YtfjpnjbinbhcfaaGreatRows
import Derived.WalkKit
import Derived.ProofKit
import Derived.OpenShut
import Derived.JoinedCond
import Derived.Below
set_option maxHeartbeats 8000000
set_option maxRecDepth 100000
set_option linter.unusedVariables false
set_option linter.unusedSimpArgs false
namespace Go.Proofs.YtfjpnjbinbhcfaaGreat
section
namespace Q
open Go.RowKit PA PC PB
attribute [local go_sem] qAX min2_int qBi min_two max_three min_three max_four min_four
def qAN.f (k : Nat) (l0_0 : List Int) (a0_1 : Int) (l0_2 : List Int) (l0_3 : List (S172)) : Option (List Int) := (qAH.f k l0_0).bind fun aX => ((some (([(a0_1) % 256] : List Int) : List Int)).bind fun aK => (if aX.length + aK.length < 140737488355328 then ((some (aX ++ aK : List Int)).bind fun aM => ((qAH.f k l0_2).bind fun aI => (if aM.length + aI.length < 140737488355328 then ((some (aM ++ aI : List Int)).bind fun aG => ((qA8.f k l0_3).bind fun aJ => ((qBp.f aJ.1).bind fun aD => (if aG.length + aD.length < 140737488355328 then (some (aG ++ aD)) else (none))))) else (none)))) else (none)))
def qAN.T1 : Bool × List (List Nat × List Nat) := (true, [([], []), ([0], [0]), ([1], [1]), ([2], [2]), ([], []), ([4], [4]), ([5], [5]), ([6], [6]), ([7], [7]), ([3, 8, 3], [3, 8]), ([9, 9, 0, 1, 2, 3, 4, 5, 6, 7, 8, 9], [9])])
def qAN.B1 : List Nat := [0, 1, 3, 7, 0, 16, 48, 112, 240, 511, 1023]
theorem qAN.tab1 : rtab .any (opsOf Tryz.f52 1) = qAN.T1 := by kernel_rfl
theorem qAN.bits1 : qCz qAN.T1.2 qAN.B1 = true := by kernel_rfl
theorem qAN.calls (k : Nat) (aN : Option Addr) (aP : Nat) (l0_0 : List Int) (a0_1 : Int) (aQ : Option Addr) (aV : Nat) (l0_2 : List Int) (aT : Option Addr) (aW : Nat) (l0_3 : List (S172)) (r : List Int) (w : World) (hr0_0 : Kd.C (Kd.int .i64) w aN l0_0.length l0_0) (hc0_0 : l0_0.length ≤ aP) (hr0_2 : Kd.C (Kd.int .i64) w aQ l0_2.length l0_2) (hc0_2 : l0_2.length ≤ aV) (hr0_3 : Kd.C k172 w aT l0_3.length l0_3) (hc0_3 : l0_3.length ≤ aW) (h : qAN.f k l0_0 a0_1 l0_2 l0_3 = some r) :
  Calls Tryz.prog 52 #[.agg #[.slice aN l0_0.length aP, .int .i64 a0_1, .slice aQ l0_2.length aV, .slice aT l0_3.length aW]] w fun e w' => ∃ v0_ : Value, e = .returned (v0_) ∧ Kd.R (Kd.int .u8) 5 w' w.heap.size (fun _ => True) v0_ r ∧ Below w.heap.size w w' := by
 have ah := am hr0_0
 have ag := am hc0_0
 clear hr0_0 hc0_0
 have ar := am hr0_2
 have ao := am hc0_2
 clear hr0_2 hc0_2
 have au := am hr0_3
 have ap := am hc0_3
 clear hr0_3 hc0_3
 have HB := am (Below.refl w.heap.size w)
 have H : ((qAH.f k l0_0).bind fun aX => ((some (([(a0_1) % 256] : List Int) : List Int)).bind fun aK => (if aX.length + aK.length < 140737488355328 then ((some (aX ++ aK : List Int)).bind fun aM => ((qAH.f k l0_2).bind fun aI => (if aM.length + aI.length < 140737488355328 then ((some (aM ++ aI : List Int)).bind fun aG => ((qA8.f k l0_3).bind fun aJ => ((qBp.f aJ.1).bind fun aD => (if aG.length + aD.length < 140737488355328 then (some (aG ++ aD)) else (none))))) else (none)))) else (none)))) = some r := h
 clear h
 replace H := bm H
 obtain ⟨aX, bP, H⟩ := H
 replace H : ((some (([(a0_1) % 256] : List Int) : List Int)).bind fun aK => (if aX.length + aK.length < 140737488355328 then ((some (aX ++ aK : List Int)).bind fun aM => ((qAH.f k l0_2).bind fun aI => (if aM.length + aI.length < 140737488355328 then ((some (aM ++ aI : List Int)).bind fun aG => ((qA8.f k l0_3).bind fun aJ => ((qBp.f aJ.1).bind fun aD => (if aG.length + aD.length < 140737488355328 then (some (aG ++ aD)) else (none))))) else (none)))) else (none))) = some r := H
 have A2 := am bP
 clear bP
 obtain ⟨aK, a9⟩ : ∃ y_ : List Int, y_ = ([(a0_1) % 256] : List Int) := ⟨_, rfl⟩
 replace H : (if aX.length + aK.length < 140737488355328 then ((some (aX ++ aK : List Int)).bind fun aM => ((qAH.f k l0_2).bind fun aI => (if aM.length + aI.length < 140737488355328 then ((some (aM ++ aI : List Int)).bind fun aG => ((qA8.f k l0_3).bind fun aJ => ((qBp.f aJ.1).bind fun aD => (if aG.length + aD.length < 140737488355328 then (some (aG ++ aD)) else (none))))) else (none)))) else (none)) = some r := by (have H2_ := (Option.bind_some _ _).symm.trans H; rw [a9]; with_reducible exact H2_)
 have ai := am a9
 clear a9
 by_cases c3 : aX.length + aK.length < 140737488355328
 ·rw [if_pos c3] at H
  have bD := am c3
  clear c3
  obtain ⟨aM, aa⟩ : ∃ y_ : List Int, y_ = (aX ++ aK) := ⟨_, rfl⟩
  replace H : ((qAH.f k l0_2).bind fun aI => (if aM.length + aI.length < 140737488355328 then ((some (aM ++ aI : List Int)).bind fun aG => ((qA8.f k l0_3).bind fun aJ => ((qBp.f aJ.1).bind fun aD => (if aG.length + aD.length < 140737488355328 then (some (aG ++ aD)) else (none))))) else (none))) = some r := by (have H2_ := (Option.bind_some _ _).symm.trans H; rw [aa]; with_reducible exact H2_)
  have av := am aa
  clear aa
  replace H := bm H
  obtain ⟨aI, bQ, H⟩ := H
  replace H : (if aM.length + aI.length < 140737488355328 then ((some (aM ++ aI : List Int)).bind fun aG => ((qA8.f k l0_3).bind fun aJ => ((qBp.f aJ.1).bind fun aD => (if aG.length + aD.length < 140737488355328 then (some (aG ++ aD)) else (none))))) else (none)) = some r := H
  have A4 := am bQ
  clear bQ
  by_cases c5 : aM.length + aI.length < 140737488355328
  ·rw [if_pos c5] at H
   have bE := am c5
   clear c5
   obtain ⟨aG, ab⟩ : ∃ y_ : List Int, y_ = (aM ++ aI) := ⟨_, rfl⟩
   replace H : ((qA8.f k l0_3).bind fun aJ => ((qBp.f aJ.1).bind fun aD => (if aG.length + aD.length < 140737488355328 then (some (aG ++ aD)) else (none)))) = some r := by (have H2_ := (Option.bind_some _ _).symm.trans H; rw [ab]; with_reducible exact H2_)
   have aw := am ab
   clear ab
   replace H := bm H
   obtain ⟨⟨ad, bL⟩, bR, H⟩ := H
   replace H : ((qBp.f ad).bind fun aD => (if aG.length + aD.length < 140737488355328 then (some (aG ++ aD)) else (none))) = some r := H
   have A6 := am bR
   clear bR
   replace H := bm H
   obtain ⟨aD, bS, H⟩ := H
   replace H : (if aG.length + aD.length < 140737488355328 then (some (aG ++ aD)) else (none)) = some r := H
   have A7 := am bS
   clear bS
   by_cases c8 : aG.length + aD.length < 140737488355328
   ·rw [if_pos c8] at H
    have bF := am c8
    clear c8
    obtain ⟨bO, ac⟩ : ∃ y_ : List Int, y_ = (aG ++ aD) := ⟨_, rfl⟩
    replace H : (some bO) = some r := by (rw [ac]; with_reducible exact H)
    have ax := am ac
    clear ac
    obtain rfl := Option.some.inj H
    go_enter Tryz.func52, Tryz.ntmps52
    try go_wp2_with ((with_reducible refine qAK (N := 1) rfl ?_); refine bx 1 #[.slice aN l0_0.length aP, .int .i64 a0_1, .slice aQ l0_2.length aV, .slice aT l0_3.length aW] 98 ?_; intro aE hg w9 hbox hb; have n_ := a2 (qAe HB.o hb) (am (hbox)); clear HB; obtain ⟨HB, aA⟩ := n_; clear hb hbox hg)
    have n_ := a2 (qBF aA.o) (am (qAM HB.o))
    clear aA HB
    obtain ⟨aA, HB⟩ := n_
    refine qEs (n := 11) (S := fun w' => w'.cell? ⟨aE, 0, none⟩ = some (.slice aN l0_0.length aP) ∧ w'.cell? ⟨aE, 1, none⟩ = some (.int .i64 a0_1) ∧ w'.cell? ⟨aE, 2, none⟩ = some (.slice aQ l0_2.length aV) ∧ w'.cell? ⟨aE, 3, none⟩ = some (.slice aT l0_3.length aW)) (ds := []) (mK 11 0) (by kernel_rfl) rfl rfl (c4_ _ aA.o) (fun hHeld => ?_); refine qCs qAN.tab1 qAN.bits1 (fun HT_ HW_ => ?_)
    generalize w9.drew = bZ at aA HB hHeld ⊢
    refine pu 0 6 (mK 11 1) (qBc HT_.o (by kernel_rfl)) ?_
    refine pu 1 7 (mK 11 3) (qBc HT_.o (by kernel_rfl)) ?_
    refine pu 4 10 (mK 11 19) (qBc HT_.o (by kernel_rfl)) ?_
    refine pu 5 11 (mK 11 51) (qBc HT_.o (by kernel_rfl)) ?_
    refine tk 2 8 (mK 11 55) (qBw HT_.o HW_.o (by kernel_rfl)) hHeld ?_
    refine tk 6 12 (mK 11 119) (qBw HT_.o HW_.o (by kernel_rfl)) hHeld ?_
    refine pu 7 13 (mK 11 247) (qBc HT_.o (by kernel_rfl)) ?_
    refine qEi (σ := Value × Value) 2 (mK 11 511) (fun s_ => [(9, s_.1), (14, s_.2)]) (fun s_ w' => (w'.cell? ⟨aE, 0, none⟩ = some (.slice aN l0_0.length aP) ∧ w'.cell? ⟨aE, 1, none⟩ = some (.int .i64 a0_1) ∧ w'.cell? ⟨aE, 2, none⟩ = some (.slice aQ l0_2.length aV) ∧ w'.cell? ⟨aE, 3, none⟩ = some (.slice aT l0_3.length aW)) ∧ (Kd.R (Kd.int .u8) 5 w' w.heap.size (fun k_ => some k_ ≠ (s_.2 : Value).ownBlock) s_.1 aX) ∧ (Kd.R (Kd.int .u8) 5 w' w.heap.size (fun k_ => some k_ ≠ (s_.1 : Value).ownBlock) s_.2 aK) ∧ (w'.heap[aE]? = some (.cells #[.slice aN l0_0.length aP, .int .i64 a0_1, .slice aQ l0_2.length aV, .slice aT l0_3.length aW] 98 (0, 0))) ∧ (Below w.heap.size w w')) ?_ ?_
    rotate_left
    ·intro hCont
     refine two_ (i := 3) (j := 8) (Ni := some 9) (Nj := some 14) (mK 11 255) (mK 11 503) rfl rfl rfl rfl (qFA HT_.o (by kernel_rfl)) (by decide) (by decide) (fun K hK => ?_) (fun K hK => ?_)
     ·skip
      refine qEg Tryz.func117 (by kernel_rfl) rfl #[.slice aN l0_0.length aP] (by rfl) rfl rfl (by (try simp only [List.map_toArray, List.map_cons, List.map_nil]); (rfl)) ?_
      with_reducible refine (qAH.calls k _ _ l0_0 aX _ ?side1 ?side2 A2.o).mono ?_
      (case side1 => exact (Kd.C_below ah.o HB.o))
      (case side2 => exact ag.o)
      rintro e bX ⟨a6, rfl, a4, hb⟩
      refine ⟨_, rfl, ?_⟩
      have n_ := a2 (Kd.R_lower a4 (qAf HB.o)) (a2 (qAk (g := aE) (o := .cells #[.slice aN l0_0.length aP, .int .i64 a0_1, .slice aQ l0_2.length aV, .slice aT l0_3.length aW] 98 (0, 0)) aA.o hb) (am (qAe HB.o hb)))
      clear aA HB
      obtain ⟨aU, aA, HB⟩ := n_
      (try clear hb)
      (skip)
      (skip)
      (skip)
      (try clear a4)
      refine hK.o _ _ (c4_ _ aA.o) (fun hHeld => ?_)
      clear hK K
      refine nm ?_
      refine one_ (i := 8) (N := some 14) (mK 11 511) rfl rfl (qB6 HT_.o (by kernel_rfl)) (by decide) (fun K hK => ?_)
      refine Kd.R_lit_step (Kd.int .u8) _ 5 ?hg (N := 14) ?hd (xs := ([(a0_1) % 256] : List Int)) (inner := [.int .u8 ((a0_1) % 256)]) (ok := fun _ => True) (okp := fun _ => True) ?hr ?hp (fun _ hk => hk) trivial (Below.refl _ _) (Nat.le_refl _) (by simp) ?_; (case hd => rfl); (case hg => rfl); (case hr => (go_simp; rfl)); (case hp => exact (Reps.one (show Kd.M (Kd.int .u8) _ _ _ ((a0_1) % 256) [.int .u8 ((a0_1) % 256)] from rfl) (Reps.none _ _)))
      intro a8 b0 ho13 hb hg_ hnew_
      clear hg_ hnew_
      (rw [← ai.o] at ho13)
      have n_ := a2 (Kd.R_elder' aU.o (Kd.R_base ho13) hb) (a2 (Kd.R_lower (Kd.R_new' ho13 (Kd.R_lt aU.o)) (qAf HB.o)) (a2 (qAk (g := aE) (o := .cells #[.slice aN l0_0.length aP, .int .i64 a0_1, .slice aQ l0_2.length aV, .slice aT l0_3.length aW] 98 (0, 0)) aA.o hb) (am (qAe HB.o hb))))
      clear aU aA HB
      obtain ⟨aU, aC, aA, HB⟩ := n_
      clear hb ho13
      refine hK.o _ _ (c4_ _ aA.o) (fun hHeld => ?_)
      clear hK K
      refine nm ?_
      exact qDw (by simp only [qCh, Act.put, List.setIfInBounds_toArray, List.set_cons_zero, List.set_cons_succ]) (hCont (a6, a8) _ ⟨hHeld, (by exact Kd.R_mono aU.o (fun _ hk => hk.2)), (by exact Kd.R_mono aC.o (fun _ hk => hk.2)), aA.o, HB.o⟩)
     ·skip
      refine Kd.R_lit_step (Kd.int .u8) _ 5 ?hg (N := 14) ?hd (xs := ([(a0_1) % 256] : List Int)) (inner := [.int .u8 ((a0_1) % 256)]) (ok := fun _ => True) (okp := fun _ => True) ?hr ?hp (fun _ hk => hk) trivial (Below.refl _ _) (Nat.le_refl _) (by simp) ?_; (case hd => rfl); (case hg => rfl); (case hr => (go_simp; rfl)); (case hp => exact (Reps.one (show Kd.M (Kd.int .u8) _ _ _ ((a0_1) % 256) [.int .u8 ((a0_1) % 256)] from rfl) (Reps.none _ _)))
      intro a8 bX ho12 hb hg_ hnew_
      clear hg_ hnew_
      (rw [← ai.o] at ho12)
      have n_ := a2 (Kd.R_lower ho12 (qAf HB.o)) (a2 (qAk (g := aE) (o := .cells #[.slice aN l0_0.length aP, .int .i64 a0_1, .slice aQ l0_2.length aV, .slice aT l0_3.length aW] 98 (0, 0)) aA.o hb) (am (qAe HB.o hb)))
      clear aA HB
      obtain ⟨aC, aA, HB⟩ := n_
      clear hb ho12
      refine hK.o _ _ (c4_ _ aA.o) (fun hHeld => ?_)
      clear hK K
      refine nm ?_
      refine one_ (i := 3) (N := some 9) (mK 11 511) rfl rfl (qB6 HT_.o (by kernel_rfl)) (by decide) (fun K hK => ?_)
      refine qEg Tryz.func117 (by kernel_rfl) rfl #[.slice aN l0_0.length aP] (by rfl) rfl rfl (by (try simp only [List.map_toArray, List.map_cons, List.map_nil]); (rfl)) ?_
      with_reducible refine (qAH.calls k _ _ l0_0 aX _ ?side1 ?side2 A2.o).mono ?_
      (case side1 => exact (Kd.C_below ah.o HB.o))
      (case side2 => exact ag.o)
      rintro e b1 ⟨a6, rfl, a4, hb⟩
      refine ⟨_, rfl, ?_⟩
      have n_ := a2 (Kd.R_elder' aC.o (Kd.R_base a4) hb) (a2 (Kd.R_lower (Kd.R_new' a4 (Kd.R_lt aC.o)) (qAf HB.o)) (a2 (qAk (g := aE) (o := .cells #[.slice aN l0_0.length aP, .int .i64 a0_1, .slice aQ l0_2.length aV, .slice aT l0_3.length aW] 98 (0, 0)) aA.o hb) (am (qAe HB.o hb))))
      clear aC aA HB
      obtain ⟨aC, aU, aA, HB⟩ := n_
      (try clear hb)
      (skip)
      (skip)
      (skip)
      (try clear a4)
      refine hK.o _ _ (c4_ _ aA.o) (fun hHeld => ?_)
      clear hK K
      refine nm ?_
      exact qDw (by simp only [qCh, Act.put, List.setIfInBounds_toArray, List.set_cons_zero, List.set_cons_succ]) (hCont (a6, a8) _ ⟨hHeld, (by exact Kd.R_mono aU.o (fun _ hk => hk.2)), (by exact Kd.R_mono aC.o (fun _ hk => hk.2)), aA.o, HB.o⟩)
    rintro ⟨a6, a8⟩ bB ⟨hS_, h0_, h1_, h2_, h3_⟩
    have n0_ : qAa (Kd.R (Kd.int .u8) 5 bB w.heap.size (fun k_ => some k_ ≠ (a8 : Value).ownBlock) a6 aX) := ⟨h0_⟩
    have n1_ : qAa (Kd.R (Kd.int .u8) 5 bB w.heap.size (fun k_ => some k_ ≠ (a6 : Value).ownBlock) a8 aK) := ⟨h1_⟩
    have n2_ : qAa (bB.heap[aE]? = some (.cells #[.slice aN l0_0.length aP, .int .i64 a0_1, .slice aQ l0_2.length aV, .slice aT l0_3.length aW] 98 (0, 0))) := ⟨h2_⟩
    have n3_ : qAa (Below w.heap.size w bB) := ⟨h3_⟩
    clear aA HB h0_ h1_ h2_ h3_
    have aU := n0_
    have aC := n1_
    have aA := n2_
    have HB := n3_
    clear n0_ n1_ n2_ n3_
    obtain ⟨ae, af, bH⟩ := Kd.R_slice aC.o
    (subst bH)
    refine qDw (a' := ?_) ?_ ?_
    rotate_left
    ·simp only [qCh, Act.put, List.setIfInBounds_toArray, List.set_cons_zero, List.set_cons_succ]
     rfl
    refine one_ (i := 9) (N := some 15) (mK 11 1023) rfl rfl (qB6 HT_.o (by kernel_rfl)) (by decide) (fun K hK => ?_)
    refine Kd.R_append_rows_step (Kd.int .u8) (w0 := w) w.heap.size (by rfl) (.tmp 9) (.tmp 14) 38 5 (.int .u8 0) 1 rfl Tryz.underlying38 qCi rfl (by decide) (by omega) a6 aX aK _ _ _ (fun k_ => some k_ ≠ (.slice ae aK.length af : Value).ownBlock) (fun _ => False) rfl rfl ?aO ?aR (fun _ _ h => h) (fun _ h => h.elim) ?aF ?aB ?aS ?aL ?_
    (case aR => exact (Kd.R_reads' aC.o).2.2)
    (case aB => exact HB.o)
    (case aF => exact (fun k_ hk => Kd.fresh' (Kd.R_lt aC.o) k_ hk))
    (case aO => exact aU.o)
    (case aS => exact (qAf HB.o))
    (case aL => have := bD.o; omega)
    intro bM b2 ho hb hg aj
    rw [← av.o] at ho
    have n_ := a2 (qAI (g := aE) (o := .cells #[.slice aN l0_0.length aP, .int .i64 a0_1, .slice aQ l0_2.length aV, .slice aT l0_3.length aW] 98 (0, 0)) aA.o hg (Kd.R_ne aU.o aA.o (by decide))) (a2 (Kd.R_after (ok := (fun _ => True)) (by exact Kd.R_mono aC.o (fun _ hk => ⟨trivial, hk⟩)) hg aj) (a2 (hb) (am (ho))))
    clear aA aC HB aU
    obtain ⟨aA, aC, HB, a5⟩ := n_
    clear ho hb hg aj
    refine hK.o _ _ (c4_ _ aA.o) (fun hHeld => ?_)
    clear hK K
    refine nm ?_
    refine pu 10 3 (mK 11 2047) (qBc HT_.o (by kernel_rfl)) ?_
    refine done_ (qDn HT_.o (by kernel_rfl)) ?_
    try go_wp2_with (first | ((with_reducible refine qAi (f := 117) rfl ?_); refine gL 19 Tryz.func117 #[.slice aQ l0_2.length aV] ?_; (with_reducible refine (qAH.calls k _ _ l0_2 aI _ ?side1 ?side2 A4.o).mono ?_); (case side1 => exact (Kd.C_below ar.o HB.o)); (case side2 => exact ao.o); rintro e b3 ⟨bT, rfl, a4, hb⟩; refine ⟨_, rfl, ?_⟩; have n_ := a2 (Kd.R_elder' aC.o (Kd.R_base a4) hb) (a2 (Kd.R_elder' a5.o (Kd.R_base a4) hb) (a2 (Kd.R_lower (Kd.R_new' (Kd.R_new' a4 (Kd.R_lt aC.o)) (Kd.R_lt a5.o)) (qAf HB.o)) (a2 (qAk (g := aE) (o := .cells #[.slice aN l0_0.length aP, .int .i64 a0_1, .slice aQ l0_2.length aV, .slice aT l0_3.length aW] 98 (0, 0)) aA.o hb) (am (qAe HB.o hb))))); clear aC a5 aA HB; obtain ⟨aC, a5, aH, aA, HB⟩ := n_; obtain ⟨ak, al, bI⟩ := Kd.R_slice aH.o; subst bI) | ((with_reducible refine qAP (b := .append) (xs := #[.tmp 16, .tmp 19]) rfl ?_); at_builtin; refine Kd.R_append_rows (Kd.int .u8) (w0 := w) w.heap.size rfl (.tmp 16) (.tmp 19) 38 5 (.int .u8 0) 1 rfl Tryz.underlying38 qCi rfl (by decide) (by omega) bM aM aI _ _ _ (fun k_ => some k_ ≠ (.slice ae aK.length af : Value).ownBlock ∧ some k_ ≠ (.slice ak aI.length al : Value).ownBlock) (fun _ => False) rfl rfl ?aO ?aR (fun _ _ h => h) (fun _ h => h.elim) ?aF ?aB ?aS ?aL ?_; (case aR => exact (Kd.R_reads' aH.o).2.2); (case aB => exact HB.o); (case aF => exact (fun k_ hk => ⟨Kd.fresh' (Kd.R_lt aC.o) k_ hk, Kd.fresh' (Kd.R_lt aH.o) k_ hk⟩)); (case aO => exact a5.o); (case aS => exact (qAf HB.o)); (case aL => have := bE.o; omega); intro bN bY ho hb hg aj; rw [← aw.o] at ho; have n_ := a2 (qAI (g := aE) (o := .cells #[.slice aN l0_0.length aP, .int .i64 a0_1, .slice aQ l0_2.length aV, .slice aT l0_3.length aW] 98 (0, 0)) aA.o hg (Kd.R_ne a5.o aA.o (by decide))) (a2 (Kd.R_after (ok := (fun k_ => some k_ ≠ (.slice ak aI.length al : Value).ownBlock)) (by exact Kd.R_mono aC.o (fun _ hk => ⟨hk.2, hk.1.2⟩)) hg aj) (a2 (Kd.R_after (ok := (fun k_ => some k_ ≠ (.slice ae aK.length af : Value).ownBlock)) (by exact Kd.R_mono aH.o (fun _ hk => ⟨hk.1.2, hk.2⟩)) hg aj) (a2 (hb) (am (ho))))); clear aA aC aH HB a5; obtain ⟨aA, aC, aH, HB, aY⟩ := n_; clear ho hb hg aj; obtain ⟨-, -, -, az⟩ := c4_ bY aA.o; have bA := qAx aA.o 3) | ((with_reducible refine qAi (f := 118) rfl ?_); refine gL 24 Tryz.func118 #[.slice aT l0_3.length aW] ?_; (with_reducible refine (qA8.calls k _ _ l0_3 ad bL _ ?side1 ?side2 A6.o).mono ?_); (case side1 => exact (Kd.C_below au.o HB.o)); (case side2 => exact ap.o); rintro e b4 ⟨bU, rfl, a4, hb⟩; refine ⟨_, rfl, ?_⟩; have n_ := a2 (Kd.R_elder' aC.o (Kd.R_base a4) hb) (a2 (Kd.R_elder' aH.o (Kd.R_base a4) hb) (a2 (Kd.R_elder' aY.o (Kd.R_base a4) hb) (a2 (Kd.R_lower (Kd.R_new' (Kd.R_new' (Kd.R_new' a4 (Kd.R_lt aC.o)) (Kd.R_lt aH.o)) (Kd.R_lt aY.o)) (qAf HB.o)) (a2 (qAk (g := aE) (o := .cells #[.slice aN l0_0.length aP, .int .i64 a0_1, .slice aQ l0_2.length aV, .slice aT l0_3.length aW] 98 (0, 0)) aA.o hb) (am (qAe HB.o hb)))))); clear aC aH aY aA HB; obtain ⟨aC, aH, aY, aZ, aA, HB⟩ := n_; obtain ⟨an, ay, bJ⟩ := Kd.R_slice aZ.o; subst bJ) | ((with_reducible refine qAi (f := 119) rfl ?_); refine gL 29 Tryz.func119 #[.slice an ad.length ay] ?_; (with_reducible refine (qBp.calls _ _ ad aD _ ?side1 ?side2 A7.o).mono ?_); (case side1 => exact (Kd.R_reads' aZ.o).2.2); (case side2 => exact (Kd.R_reads' aZ.o).2.1); rintro e b5 ⟨bV, rfl, a4, hb⟩; refine ⟨_, rfl, ?_⟩; have n_ := a2 (Kd.R_elder' aC.o (Kd.Q_base a4) hb) (a2 (Kd.R_elder' aH.o (Kd.Q_base a4) hb) (a2 (Kd.R_elder' aY.o (Kd.Q_base a4) hb) (a2 (Kd.R_elder' aZ.o (Kd.Q_base a4) hb) (a2 (Kd.Q_lower (Kd.Q_new' (Kd.Q_new' (Kd.Q_new' (Kd.Q_new' a4 (Kd.R_lt aC.o)) (Kd.R_lt aH.o)) (Kd.R_lt aY.o)) (Kd.R_lt aZ.o)) (qAf HB.o)) (a2 (qAk (g := aE) (o := .cells #[.slice aN l0_0.length aP, .int .i64 a0_1, .slice aQ l0_2.length aV, .slice aT l0_3.length aW] 98 (0, 0)) aA.o hb) (am (qAe HB.o hb))))))); clear aC aH aY aZ aA HB; obtain ⟨aC, aH, aY, aZ, a7, aA, HB⟩ := n_; obtain ⟨bC, bG, bK, _⟩ := Kd.Q_slice a7.o; subst bK) | ((with_reducible refine qAP (b := .append) (xs := #[.tmp 27, .tmp 29]) rfl ?_); at_builtin; refine Kd.R_append_rows (Kd.int .u8) (w0 := w) w.heap.size rfl (.tmp 27) (.tmp 29) 38 5 (.int .u8 0) 1 rfl Tryz.underlying38 qCi rfl (by decide) (by omega) bN aG aD _ _ _ (fun k_ => some k_ ≠ (.slice ae aK.length af : Value).ownBlock ∧ some k_ ≠ (.slice ak aI.length al : Value).ownBlock ∧ some k_ ≠ (.slice an ad.length ay : Value).ownBlock ∧ some k_ ≠ (.slice bC aD.length bG : Value).ownBlock) (fun _ => False) rfl rfl ?aO ?aR (fun _ _ h => h) (fun _ h => h.elim) ?aF ?aB ?aS ?aL ?_; (case aR => exact (Kd.Q_reads' a7.o).2.2); (case aB => exact HB.o); (case aF => exact (fun k_ hk => ⟨Kd.fresh' (Kd.R_lt aC.o) k_ hk, Kd.fresh' (Kd.R_lt aH.o) k_ hk, Kd.fresh' (Kd.R_lt aZ.o) k_ hk, Kd.fresh' (Kd.Q_lt a7.o) k_ hk⟩)); (case aO => exact (by exact Kd.R_mono aY.o (fun _ hk => ⟨hk.1.1.1, ⟨hk.1.1.2, ⟨hk.1.2, hk.2⟩⟩⟩))); (case aS => exact (qAf HB.o)); (case aL => have := bF.o; omega); intro bW b6 ho hb hg aj; rw [← ax.o] at ho; have n_ := a2 (hb) (am (ho)); clear aA aC aH aZ a7 HB aY; obtain ⟨HB, aq⟩ := n_; clear ho hb hg aj))
    go_ret
    exact ⟨_, by rfl, by exact Kd.R_mono aq.o (fun _ hk => trivial), by exact HB.o⟩
   ·rw [if_neg c8] at H
    exact absurd H (by simp)
  ·rw [if_neg c5] at H
   exact absurd H (by simp)
 ·rw [if_neg c3] at H
  exact absurd H (by simp)
mutual
def qAg.l0 : Nat → List Int → Int → ByteArray → List (S95) → List (S100) → List (S103) → Option (List Int × Int)
 | 0, _, _, _, _, _, _ => none
 | k + 1, x5, x6, ae, aT, aJ, aK => if x6 < (aT.length : Int) then (if 0 ≤ x6 then ((qA7.f ((qBq aT x6).f0)).bind fun bA => (if x5.length + bA.length < 140737488355328 then ((some (x5 ++ bA : List Int)).bind fun bH => (if bH.length < 140737488355328 then ((some (bH ++ [((qBq aT x6).f1.f0) % 256] : List Int)).bind fun ap => ((qAA.f k ((qBq aT x6).f1.f1)).bind fun ad => (if ap.length + ad.length < 140737488355328 then (qAg.l0 k (ap ++ ad) (wrap64 (x6 + 1)) ae aT aJ aK) else (none)))) else (none))) else (none))) else (none)) else ((qBb.f k (aJ.length : Int)).bind fun bI => (if x5.length + bI.length < 140737488355328 then (qAg.l1 k (x5 ++ bI) 0 ae aT aJ aK) else (none)))
def qAg.l1 : Nat → List Int → Int → ByteArray → List (S95) → List (S100) → List (S103) → Option (List Int × Int)
 | 0, _, _, _, _, _, _ => none
 | k + 1, x5, x7, ae, aT, aJ, aK => if x7 < (aJ.length : Int) then (if 0 ≤ x7 then ((qA7.f ((qAz aJ x7).f0)).bind fun bF => (if x5.length + bF.length < 140737488355328 then ((some (x5 ++ bF : List Int)).bind fun aw => ((qAN.f k ((qAz aJ x7).f1.f0.f0) ((qAz aJ x7).f1.f0.f1) ((qAz aJ x7).f1.f1) ((qAz aJ x7).f1.f2)).bind fun ao => (if aw.length + ao.length < 140737488355328 then (qAg.l1 k (aw ++ ao) (wrap64 (x7 + 1)) ae aT aJ aK) else (none)))) else (none))) else (none)) else ((qBb.f k (aK.length : Int)).bind fun bJ => (if x5.length + bJ.length < 140737488355328 then (qAg.l2 k (x5 ++ bJ) 0 ae aT aJ aK) else (none)))
def qAg.l2 : Nat → List Int → Int → ByteArray → List (S95) → List (S100) → List (S103) → Option (List Int × Int)
 | 0, _, _, _, _, _, _ => none
 | k + 1, x5, x8, ae, aT, aJ, aK => if x8 < (aK.length : Int) then (if 0 ≤ x8 then ((qBl.f k ((qAj aK x8).f0)).bind fun aj => (if x5.length + aj.length < 140737488355328 then ((some (x5 ++ aj : List Int)).bind fun ax => ((qBl.f k ((qAj aK x8).f1)).bind fun a7 => (if ax.length + a7.length < 140737488355328 then ((some (ax ++ a7 : List Int)).bind fun an => (if an.length < 140737488355328 then ((some (an ++ [((qAj aK x8).f2) % 256] : List Int)).bind fun a9 => ((qA7.f ((qAj aK x8).f3)).bind fun aU => (if a9.length + aU.length < 140737488355328 then ((some (a9 ++ aU : List Int)).bind fun aV => ((qA7.f ((qAj aK x8).f4)).bind fun aQ => (if aV.length + aQ.length < 140737488355328 then (qAg.l2 k (aV ++ aQ) (wrap64 (x8 + 1)) ae aT aJ aK) else (none)))) else (none)))) else (none))) else (none)))) else (none))) else (none)) else (if (x5.length : Int) > 16384 then (some (([] : List Int), 3)) else (some (x5, 0)))
end
def qAg.f (k : Nat) (a0_0 : ByteArray) (l0_1 : List (S95)) (l0_2 : List (S100)) (l0_3 : List (S103)) : Option (List Int × Int) := (qAd.f k a0_0 l0_1 l0_2 l0_3).bind fun ar => (if ar = 0 then ((some (([102, 111, 98, 106] : List Int) : List Int)).bind fun aq => ((qA7.f a0_0).bind fun ai => (if aq.length + ai.length < 140737488355328 then ((some (aq ++ ai : List Int)).bind fun a8 => ((qBb.f k (l0_1.length : Int)).bind fun aY => (if a8.length + aY.length < 140737488355328 then (qAg.l0 k (a8 ++ aY) 0 a0_0 l0_1 l0_2 l0_3) else (none)))) else (none)))) else (some (([] : List Int), ar)))
theorem qAg.calls (k : Nat) (a0_0 : ByteArray) (ab : Option Addr) (a4 : Nat) (l0_1 : List (S95)) (aa : Option Addr) (a5 : Nat) (l0_2 : List (S100)) (al : Option Addr) (a6 : Nat) (l0_3 : List (S103)) (r1 : List Int) (r2 : Int) (w : World) (hr0_1 : Kd.C k95 w ab l0_1.length l0_1) (hc0_1 : l0_1.length ≤ a4) (hr0_2 : Kd.C k100 w aa l0_2.length l0_2) (hc0_2 : l0_2.length ≤ a5) (hr0_3 : Kd.C k103 w al l0_3.length l0_3) (hc0_3 : l0_3.length ≤ a6) (h : qAg.f k a0_0 l0_1 l0_2 l0_3 = some (r1, r2)) :
  Calls Tryz.prog 14 #[.agg #[.string a0_0, .slice ab l0_1.length a4, .slice aa l0_2.length a5, .slice al l0_3.length a6]] w fun e w' => ∃ v0_ : Value, e = .returned (.tuple #[v0_, .int .i64 r2]) ∧ Kd.R (Kd.int .u8) 5 w' w.heap.size (fun _ => True) v0_ r1 ∧ Below w.heap.size w w' := by
 have b1 := am hr0_1
 have dD := am hc0_1
 clear hr0_1 hc0_1
 have bb := am hr0_2
 have dE := am hc0_2
 clear hr0_2 hc0_2
 have bl := am hr0_3
 have dF := am hc0_3
 clear hr0_3 hc0_3
 have HB := am (Below.refl w.heap.size w)
 have H : ((qAd.f k a0_0 l0_1 l0_2 l0_3).bind fun ar => (if ar = 0 then ((some (([102, 111, 98, 106] : List Int) : List Int)).bind fun aq => ((qA7.f a0_0).bind fun ai => (if aq.length + ai.length < 140737488355328 then ((some (aq ++ ai : List Int)).bind fun a8 => ((qBb.f k (l0_1.length : Int)).bind fun aY => (if a8.length + aY.length < 140737488355328 then (qAg.l0 k (a8 ++ aY) 0 a0_0 l0_1 l0_2 l0_3) else (none)))) else (none)))) else (some (([] : List Int), ar)))) = some (r1, r2) := h
 clear h
 replace H := bm H
 obtain ⟨ar, ga, H⟩ := H
 replace H : (if ar = 0 then ((some (([102, 111, 98, 106] : List Int) : List Int)).bind fun aq => ((qA7.f a0_0).bind fun ai => (if aq.length + ai.length < 140737488355328 then ((some (aq ++ ai : List Int)).bind fun a8 => ((qBb.f k (l0_1.length : Int)).bind fun aY => (if a8.length + aY.length < 140737488355328 then (qAg.l0 k (a8 ++ aY) 0 a0_0 l0_1 l0_2 l0_3) else (none)))) else (none)))) else (some (([] : List Int), ar))) = some (r1, r2) := H
 have A2 := am ga
 clear ga
 by_cases c3 : ar = 0
 ·rw [if_pos c3] at H
  have ft : (ar == 0) = true := beq_iff_eq.mpr c3
  have e0 : (ar != 0) = false := bn c3
  clear c3
  obtain ⟨aq, bp⟩ : ∃ y_ : List Int, y_ = ([102, 111, 98, 106] : List Int) := ⟨_, rfl⟩
  replace H : ((qA7.f a0_0).bind fun ai => (if aq.length + ai.length < 140737488355328 then ((some (aq ++ ai : List Int)).bind fun a8 => ((qBb.f k (l0_1.length : Int)).bind fun aY => (if a8.length + aY.length < 140737488355328 then (qAg.l0 k (a8 ++ aY) 0 a0_0 l0_1 l0_2 l0_3) else (none)))) else (none))) = some (r1, r2) := by (have H2_ := (Option.bind_some _ _).symm.trans H; rw [bp]; with_reducible exact H2_)
  have dG := am bp
  clear bp
  replace H := bm H
  obtain ⟨ai, gb, H⟩ := H
  replace H : (if aq.length + ai.length < 140737488355328 then ((some (aq ++ ai : List Int)).bind fun a8 => ((qBb.f k (l0_1.length : Int)).bind fun aY => (if a8.length + aY.length < 140737488355328 then (qAg.l0 k (a8 ++ aY) 0 a0_0 l0_1 l0_2 l0_3) else (none)))) else (none)) = some (r1, r2) := H
  have A4 := am gb
  clear gb
  by_cases c5 : aq.length + ai.length < 140737488355328
  ·rw [if_pos c5] at H
   have fr := am c5
   clear c5
   obtain ⟨a8, bq⟩ : ∃ y_ : List Int, y_ = (aq ++ ai) := ⟨_, rfl⟩
   replace H : ((qBb.f k (l0_1.length : Int)).bind fun aY => (if a8.length + aY.length < 140737488355328 then (qAg.l0 k (a8 ++ aY) 0 a0_0 l0_1 l0_2 l0_3) else (none))) = some (r1, r2) := by (have H2_ := (Option.bind_some _ _).symm.trans H; rw [bq]; with_reducible exact H2_)
   have eJ := am bq
   clear bq
   replace H := bm H
   obtain ⟨aY, gc, H⟩ := H
   replace H : (if a8.length + aY.length < 140737488355328 then (qAg.l0 k (a8 ++ aY) 0 a0_0 l0_1 l0_2 l0_3) else (none)) = some (r1, r2) := H
   have A6 := am gc
   clear gc
   by_cases c7 : a8.length + aY.length < 140737488355328
   ·rw [if_pos c7] at H
    have fs := am c7
    clear c7
    obtain ⟨ef, br⟩ : ∃ y_ : List Int, y_ = (a8 ++ aY) := ⟨_, rfl⟩
    replace H : (qAg.l0 k ef 0 a0_0 l0_1 l0_2 l0_3) = some (r1, r2) := by (rw [br]; with_reducible exact H)
    have eK := am br
    clear br
    have H' := am H
    clear H
    go_enter Tryz.func14, Tryz.ntmps14
    go_wp2_with (first | ((with_reducible refine qAK (N := 1) rfl ?_); refine bx 1 #[.string a0_0, .slice ab l0_1.length a4, .slice aa l0_2.length a5, .slice al l0_3.length a6] 26 ?_; intro aN hg w8 hbox hb; have n_ := a2 (qAe HB.o hb) (am (hbox)); clear HB; obtain ⟨HB, aA⟩ := n_; clear hb hbox hg; obtain ⟨dR, dS, dT, dU⟩ := c4_ w8 aA.o; obtain ⟨dV, dW, dX, dY⟩ := z4_ aA.o) | ((with_reducible refine qAi (f := 11) rfl ?_); refine gL 11 Tryz.func11 #[.agg #[.string a0_0, .slice ab l0_1.length a4, .slice aa l0_2.length a5, .slice al l0_3.length a6]] ?_; (with_reducible refine (qAd.calls k a0_0 _ _ l0_1 _ _ l0_2 _ _ l0_3 ar _ ?side1 ?side2 ?side3 ?side4 ?side5 ?side6 A2.o).mono ?_); (case side1 => exact (Kd.C_below b1.o HB.o)); (case side2 => exact dD.o); (case side3 => exact (Kd.C_below bb.o HB.o)); (case side4 => exact dE.o); (case side5 => exact (Kd.C_below bl.o HB.o)); (case side6 => exact dF.o); rintro e h7 ⟨rfl, hb⟩; refine ⟨_, rfl, ?_⟩; have n_ := a2 (qAk aA.o hb) (am (qAe HB.o hb)); clear aA HB; obtain ⟨aA, HB⟩ := n_; (skip)) | ((with_reducible refine qAK (N := 15) rfl ?_); refine lit_event rfl 5 [102, 111, 98, 106] (by (go_simp; done)) ?_; intro gl hgl hS hl hb; have n0_ := am hl; have nb_ := am ((by rw [hgl]; exact qAf HB.o) : w.heap.size ≤ gl); have nn_ := am ((by rw [hgl]; exact Nat.ne_of_lt (qBd aA.o)) : aN ≠ gl); have n1_ := am (qAk aA.o hb); have n2_ := am (qAe HB.o hb); clear aA; clear HB; have HL := n0_; have HG := nb_; have HN_ := nn_; have aA := n1_; have HB := n2_; clear n0_ n1_ n2_ nb_ nn_; clear hb hl hgl; obtain ⟨cQ, cR, cS, cT⟩ := c4_ hS aA.o; obtain ⟨cf, cg, ch, ci⟩ := z4_ aA.o) | ((with_reducible refine qAK (N := 16) rfl ?_); refine lit_mark rfl 38 5 (.tmp 15) (xs := [102, 111, 98, 106]) rfl Tryz.underlying38 Tryz.underlying5 rfl HL.o ?_; intro wm9 hl h1 h2 h3 h4 h5; have n_ := a2 hl (a2 ((h5 aN HN_.o).trans aA.o) (am (below_mark HB.o HG.o h1 h2 h3 h4 h5))); clear HL aA HB; obtain ⟨HL, aA, HB⟩ := n_; clear hl h1 h2 h3 h4 h5; obtain ⟨e9, ea, eb, ec⟩ := c4_ wm9 aA.o; have ee := qAx aA.o 3) | ((with_reducible refine qAi (f := 49) rfl ?_); refine gL 19 Tryz.func49 #[.string a0_0] ?_; (with_reducible refine (qA7.calls a0_0 ai _ A4.o).mono ?_); rintro e h8 ⟨gz, rfl, aW, hb⟩; refine ⟨_, rfl, ?_⟩; have n_ := a2 (LitR.below HL.o hb) (a2 (Kd.Q_lower aW (qAf HB.o)) (a2 (qAk aA.o hb) (am (qAe HB.o hb)))); clear HL aA HB; obtain ⟨HL, af, aA, HB⟩ := n_; obtain ⟨fk, fx, gK, _⟩ := Kd.Q_slice af.o; subst gK) | ((with_reducible refine qAP (b := .append) (xs := #[.tmp 16, .tmp 19]) rfl ?_); at_builtin; refine lit_append rfl (.tmp 16) (.tmp 19) 38 5 (.int .u8 0) rfl Tryz.underlying38 qCi rfl (xs := [102, 111, 98, 106]) rfl rfl HL.o (by exact (Kd.Q_reads' af.o).2.2) (rtext_pos A4.o) (by have := fr.o; rw [dG.o] at this; exact this) ?_; intro g1 hT ho hb; rw [← dG.o, ← eJ.o] at ho; have n_ := a2 (qAk aA.o hb) (a2 (Kd.Q_elder' af.o (Kd.R_base ho) hb) (a2 (qAe HB.o hb) (am (Kd.R_lower (Kd.R_mono (Kd.R_new' ho (Kd.Q_lt af.o)) (fun _ h_ => h_.2)) (qAf HB.o))))); clear aA af HB HL; obtain ⟨aA, af, HB, bB⟩ := n_; clear ho hb; obtain ⟨cU, cV, cW, cX⟩ := c4_ hT aA.o; obtain ⟨cj, ck, cl, cm⟩ := z4_ aA.o) | ((with_reducible refine qAi (f := 50) rfl ?_); refine gL 25 Tryz.func50 #[.int .i64 (l0_1.length : Int)] ?_; (with_reducible refine (qBb.calls k (l0_1.length : Int) aY _ A6.o).mono ?_); rintro e h9 ⟨hA, rfl, aW, hb⟩; refine ⟨_, rfl, ?_⟩; have n_ := a2 (Kd.Q_elder' af.o (Kd.Q_base aW) hb) (a2 (Kd.R_elder' bB.o (Kd.Q_base aW) hb) (a2 (Kd.Q_lower (Kd.Q_new' (Kd.Q_new' aW (Kd.Q_lt af.o)) (Kd.R_lt bB.o)) (qAf HB.o)) (a2 (qAk aA.o hb) (am (qAe HB.o hb))))); clear af bB aA HB; obtain ⟨af, bB, b4, aA, HB⟩ := n_; obtain ⟨fl, fy, gM, _⟩ := Kd.Q_slice b4.o; subst gM) | ((with_reducible refine qAP (b := .append) (xs := #[.tmp 21, .tmp 25]) rfl ?_); at_builtin; refine Kd.R_append_rows (Kd.int .u8) (w0 := w) w.heap.size rfl (.tmp 21) (.tmp 25) 38 5 (.int .u8 0) 1 rfl Tryz.underlying38 qCi rfl (by decide) (by omega) g1 a8 aY _ _ _ (fun k_ => some k_ ≠ (.slice fk ai.length fx : Value).ownBlock ∧ some k_ ≠ (.slice fl aY.length fy : Value).ownBlock) (fun _ => False) rfl rfl ?aO ?aR (fun _ _ h => h) (fun _ h => h.elim) ?aF ?aB ?aS ?aL ?_; (case aR => exact (Kd.Q_reads' b4.o).2.2); (case aB => exact HB.o); (case aF => exact (fun k_ hk => ⟨Kd.fresh' (Kd.Q_lt af.o) k_ hk, Kd.fresh' (Kd.Q_lt b4.o) k_ hk⟩)); (case aO => exact bB.o); (case aS => exact (qAf HB.o)); (case aL => have := fs.o; omega); intro hB ha ho hb hg ak; rw [← eK.o] at ho; have n_ := a2 (qAI (g := aN) (o := .cells #[.string a0_0, .slice ab l0_1.length a4, .slice aa l0_2.length a5, .slice al l0_3.length a6] 26 (0, 0)) aA.o hg (Kd.R_ne bB.o aA.o (by decide))) (a2 (hb) (am (ho))); clear aA af b4 HB bB; obtain ⟨aA, HB, dr⟩ := n_; clear ho hb hg ak))
    go_loopg [5, 6] k (fun kq v5 v6 w' => ∃ (au : List Int) (aM : Int), v6 = .int .i64 aM ∧ qAa (qAg.l0 kq au aM a0_0 l0_1 l0_2 l0_3 = some (r1, r2)) ∧ qAa (kq ≤ k) ∧ qAa (Kd.R (Kd.int .u8) 5 w' w.heap.size (fun _ => True) v5 au) ∧ qAa (w'.heap[aN]? = some (.cells #[.string a0_0, (.slice ab l0_1.length a4), (.slice aa l0_2.length a5), (.slice al l0_3.length a6)] 26 (0, 0))) ∧ qAa (Below w.heap.size w w'))
    case atStart => exact ⟨(ef), (0), (by rfl), H', ⟨Nat.le_refl _⟩, ⟨by exact Kd.R_mono dr.o (fun _ hk => trivial)⟩, ⟨by exact aA.o⟩, ⟨by exact HB.o⟩⟩
    case round =>
     clear H'
     obtain ⟨au, aM, rfl, HA, da, aG, aA, HB⟩ := hrel
     cases gk with
     | zero => exact absurd HA.o (by simp [qAg.l0])
     | succ k1 =>
      have H := HA.o
      clear HA
      simp only [qAg.l0] at H
      by_cases db : aM < (l0_1.length : Int)
      ·rw [if_pos db] at H
       replace db := d1 db
       obtain ⟨em, H⟩ := gd H
       replace em := d1 em
       replace H := bm H
       obtain ⟨bA, df, H⟩ := H
       replace H : (if au.length + bA.length < 140737488355328 then ((some (au ++ bA : List Int)).bind fun bH => (if bH.length < 140737488355328 then ((some (bH ++ [((qBq l0_1 aM).f1.f0) % 256] : List Int)).bind fun ap => ((qAA.f k1 ((qBq l0_1 aM).f1.f1)).bind fun ad => (if ap.length + ad.length < 140737488355328 then (qAg.l0 k1 (ap ++ ad) (wrap64 (aM + 1)) a0_0 l0_1 l0_2 l0_3) else (none)))) else (none))) else (none)) = some (r1, r2) := H
       have gn := am df
       clear df
       obtain ⟨en, H⟩ := gd H
       have dx := am en
       clear en
       obtain ⟨bH, bs⟩ : ∃ y_ : List Int, y_ = (au ++ bA) := ⟨_, rfl⟩
       replace H : (if bH.length < 140737488355328 then ((some (bH ++ [((qBq l0_1 aM).f1.f0) % 256] : List Int)).bind fun ap => ((qAA.f k1 ((qBq l0_1 aM).f1.f1)).bind fun ad => (if ap.length + ad.length < 140737488355328 then (qAg.l0 k1 (ap ++ ad) (wrap64 (aM + 1)) a0_0 l0_1 l0_2 l0_3) else (none)))) else (none)) = some (r1, r2) := by (have H2_ := (Option.bind_some _ _).symm.trans H; rw [bs]; with_reducible exact H2_)
       have eL := am bs
       clear bs
       obtain ⟨eo, H⟩ := gd H
       have dy := am eo
       clear eo
       obtain ⟨ap, bu⟩ : ∃ y_ : List Int, y_ = (bH ++ [((qBq l0_1 aM).f1.f0) % 256]) := ⟨_, rfl⟩
       replace H : ((qAA.f k1 ((qBq l0_1 aM).f1.f1)).bind fun ad => (if ap.length + ad.length < 140737488355328 then (qAg.l0 k1 (ap ++ ad) (wrap64 (aM + 1)) a0_0 l0_1 l0_2 l0_3) else (none))) = some (r1, r2) := by (have H2_ := (Option.bind_some _ _).symm.trans H; rw [bu]; with_reducible exact H2_)
       have eM := am bu
       clear bu
       replace H := bm H
       obtain ⟨ad, dg, H⟩ := H
       replace H : (if ap.length + ad.length < 140737488355328 then (qAg.l0 k1 (ap ++ ad) (wrap64 (aM + 1)) a0_0 l0_1 l0_2 l0_3) else (none)) = some (r1, r2) := H
       have go := am dg
       clear dg
       obtain ⟨ep, H⟩ := gd H
       have dz := am ep
       clear ep
       obtain ⟨eg, bw⟩ : ∃ y_ : List Int, y_ = (ap ++ ad) := ⟨_, rfl⟩
       replace H : (qAg.l0 k1 eg (wrap64 (aM + 1)) a0_0 l0_1 l0_2 l0_3) = some (r1, r2) := by (rw [bw]; with_reducible exact H)
       have eN := am bw
       clear bw
       have H' := am H
       clear H
       obtain ⟨-, fB⟩ := c2_ wr aA.o
       have dZ : 0 ≤ aM := od (by assumption)
       have d4 : aM < (l0_1.length : Int) := od (by assumption)
       obtain ⟨b2, gE, bN, f6, f7⟩ := qDN b1.o aM dZ d4
       cases gE
       replace bN := (HB.o.cell (World.block_lt_of_cell? w _ bN)).trans bN
       replace dZ := eq_true dZ
       replace d4 := eq_true d4
       go_wp2_with (first | ((with_reducible refine qAi (f := 49) rfl ?_); refine gL 41 Tryz.func49 #[.string ((qBq l0_1 aM).f0)] ?_; (with_reducible refine (qA7.calls ((qBq l0_1 aM).f0) bA _ gn.o).mono ?_); rintro e hc ⟨hC, rfl, aW, hb⟩; refine ⟨_, rfl, ?_⟩; have n_ := a2 (Kd.R_elder' aG.o (Kd.Q_base aW) hb) (a2 (Kd.Q_lower (Kd.Q_new' aW (Kd.R_lt aG.o)) (qAf HB.o)) (a2 (qAk aA.o hb) (am (qAe HB.o hb)))); clear aG aA HB; obtain ⟨aG, aZ, aA, HB⟩ := n_; obtain ⟨dM, dQ, gN, _⟩ := Kd.Q_slice aZ.o; subst gN) | ((with_reducible refine qAP (b := .append) (xs := #[.tmp 34, .tmp 41]) rfl ?_); at_builtin; refine Kd.R_append_rows (Kd.int .u8) (w0 := w) w.heap.size rfl (.tmp 34) (.tmp 41) 38 5 (.int .u8 0) 1 rfl Tryz.underlying38 qCi rfl (by decide) (by omega) u5 au bA _ _ _ (fun k_ => some k_ ≠ (.slice dM bA.length dQ : Value).ownBlock) (fun _ => False) rfl rfl ?aO ?aR (fun _ _ h => h) (fun _ h => h.elim) ?aF ?aB ?aS ?aL ?_; (case aR => exact (Kd.Q_reads' aZ.o).2.2); (case aB => exact HB.o); (case aF => exact (fun k_ hk => Kd.fresh' (Kd.Q_lt aZ.o) k_ hk)); (case aO => exact (by exact Kd.R_mono aG.o (fun _ hk => hk.2))); (case aS => exact (qAf HB.o)); (case aL => have := dx.o; omega); intro g2 hU ho hb hg ak; rw [← eL.o] at ho; have n_ := a2 (qAI (g := aN) (o := .cells #[.string a0_0, .slice (some b2) l0_1.length a4, .slice aa l0_2.length a5, .slice al l0_3.length a6] 26 (0, 0)) aA.o hg (Kd.R_ne aG.o aA.o (by decide))) (a2 (Kd.Q_after (ok := (fun _ => True)) aZ.o hg ak) (a2 (hb) (am (ho)))); clear aA aZ HB aG; obtain ⟨aA, aZ, HB, bk⟩ := n_; clear ho hb hg ak; obtain ⟨-, fC⟩ := c2_ hU aA.o; have gY : 0 ≤ aM := od (by assumption); have d5 : aM < (l0_1.length : Int) := od (by assumption); obtain ⟨eX, gF, f8, bO, f9⟩ := qDN b1.o aM gY d5; obtain rfl : b2 = eX := (by injection gF); replace bO := (HB.o.cell (World.block_lt_of_cell? w _ bO)).trans bO; replace d5 := eq_true d5) | ((with_reducible refine qAP (b := .append) (xs := #[.tmp 43, .tmp 52]) rfl ?_); at_builtin; refine Kd.R_append (Kd.int .u8) (w0 := w) w.heap.size rfl (.tmp 43) (.tmp 52) 38 5 (.int .u8 0) 1 rfl Tryz.underlying38 qCi rfl (by decide) (by omega) g2 bH (((qBq l0_1 aM).f1.f0) % 256) [.int .u8 (((qBq l0_1 aM).f1.f0) % 256)] (fun k_ => some k_ ≠ (.slice dM bA.length dQ : Value).ownBlock) (fun _ => False) rfl rfl ?aP (fun _ hk => hk.elim) ?aF ?aO ?aB ?aS ?aL ?_; (case aP => exact rfl); (case aB => exact HB.o); (case aF => exact (fun k_ hk => Kd.fresh' (Kd.Q_lt aZ.o) k_ hk)); (case aO => exact bk.o); (case aS => exact (qAf HB.o)); (case aL => have := dy.o; omega); intro g3 hV ho hb hg ak; rw [← eM.o] at ho; have n_ := a2 (qAI (g := aN) (o := .cells #[.string a0_0, .slice (some b2) l0_1.length a4, .slice aa l0_2.length a5, .slice al l0_3.length a6] 26 (0, 0)) aA.o hg (Kd.R_ne bk.o aA.o (by decide))) (a2 (Kd.Q_after (ok := (fun _ => True)) aZ.o hg ak) (a2 (hb) (am (ho)))); clear aA aZ HB bk; obtain ⟨aA, aZ, HB, bC⟩ := n_; clear ho hb hg ak; obtain ⟨-, fD⟩ := c2_ hV aA.o; have gZ : 0 ≤ aM := od (by assumption); have d6 : aM < (l0_1.length : Int) := od (by assumption); obtain ⟨eY, gG, fa, fb, bP⟩ := qDN b1.o aM gZ d6; obtain rfl : b2 = eY := (by injection gG); replace bP := (HB.o.cell (World.block_lt_of_cell? w _ bP)).trans bP; replace d6 := eq_true d6) | ((with_reducible refine qAi (f := 51) rfl ?_); refine gL 62 Tryz.func51 #[.int .u64 ((qBq l0_1 aM).f1.f1)] ?_; (with_reducible refine (qAA.calls k1 ((qBq l0_1 aM).f1.f1) ad _ go.o).mono ?_); rintro e hd ⟨hD, rfl, aW, hb⟩; refine ⟨_, rfl, ?_⟩; have n_ := a2 (Kd.Q_elder' aZ.o (Kd.R_base aW) hb) (a2 (Kd.R_elder' bC.o (Kd.R_base aW) hb) (a2 (Kd.R_lower (Kd.R_new' (Kd.R_new' aW (Kd.Q_lt aZ.o)) (Kd.R_lt bC.o)) (qAf HB.o)) (a2 (qAk aA.o hb) (am (qAe HB.o hb))))); clear aZ bC aA HB; obtain ⟨aZ, bC, b5, aA, HB⟩ := n_; obtain ⟨fm, fz, gO⟩ := Kd.R_slice b5.o; subst gO) | ((with_reducible refine qAP (b := .append) (xs := #[.tmp 54, .tmp 62]) rfl ?_); at_builtin; refine Kd.R_append_rows (Kd.int .u8) (w0 := w) w.heap.size rfl (.tmp 54) (.tmp 62) 38 5 (.int .u8 0) 1 rfl Tryz.underlying38 qCi rfl (by decide) (by omega) g3 ap ad _ _ _ (fun k_ => some k_ ≠ (.slice dM bA.length dQ : Value).ownBlock ∧ some k_ ≠ (.slice fm ad.length fz : Value).ownBlock) (fun _ => False) rfl rfl ?aO ?aR (fun _ _ h => h) (fun _ h => h.elim) ?aF ?aB ?aS ?aL ?_; (case aR => exact (Kd.R_reads' b5.o).2.2); (case aB => exact HB.o); (case aF => exact (fun k_ hk => ⟨Kd.fresh' (Kd.Q_lt aZ.o) k_ hk, Kd.fresh' (Kd.R_lt b5.o) k_ hk⟩)); (case aO => exact bC.o); (case aS => exact (qAf HB.o)); (case aL => have := dz.o; omega); intro hE he ho hb hg ak; rw [← eN.o] at ho; have n_ := a2 (qAI (g := aN) (o := .cells #[.string a0_0, .slice (some b2) l0_1.length a4, .slice aa l0_2.length a5, .slice al l0_3.length a6] 26 (0, 0)) aA.o hg (Kd.R_ne bC.o aA.o (by decide))) (a2 (hb) (am (ho))); clear aA aZ b5 HB bC; obtain ⟨aA, HB, ds⟩ := n_; clear ho hb hg ak))
       go_roundg k1
       case measure => have := da.o; omega
       case rel => exact ⟨(eg), (wrap64 (aM + 1)), (by rfl), H', ⟨by have := da.o; omega⟩, ⟨by exact Kd.R_mono ds.o (fun _ hk => trivial)⟩, ⟨by exact aA.o⟩, ⟨by exact HB.o⟩⟩
      rw [if_neg db] at H
      replace db := d0 db
      replace H := bm H
      obtain ⟨bI, dh, H⟩ := H
      replace H : (if au.length + bI.length < 140737488355328 then (qAg.l1 k1 (au ++ bI) 0 a0_0 l0_1 l0_2 l0_3) else (none)) = some (r1, r2) := H
      have gp := am dh
      clear dh
      obtain ⟨eq, H⟩ := gd H
      have eA := am eq
      clear eq
      obtain ⟨eh, bz⟩ : ∃ y_ : List Int, y_ = (au ++ bI) := ⟨_, rfl⟩
      replace H : (qAg.l1 k1 eh 0 a0_0 l0_1 l0_2 l0_3) = some (r1, r2) := by (rw [bz]; with_reducible exact H)
      have eO := am bz
      clear bz
      have H' := am H
      clear H
      obtain ⟨cY, cZ, c0, c1⟩ := c4_ wr aA.o
      obtain ⟨cn, co, cp, cq⟩ := z4_ aA.o
      go_wp2_with (first | ((with_reducible refine qAi (f := 50) rfl ?_); refine gL 68 Tryz.func50 #[.int .i64 (l0_2.length : Int)] ?_; (with_reducible refine (qBb.calls k1 (l0_2.length : Int) bI _ gp.o).mono ?_); rintro e hf ⟨hF, rfl, aW, hb⟩; refine ⟨_, rfl, ?_⟩; have n_ := a2 (Kd.R_elder' aG.o (Kd.Q_base aW) hb) (a2 (Kd.Q_lower (Kd.Q_new' aW (Kd.R_lt aG.o)) (qAf HB.o)) (a2 (qAk aA.o hb) (am (qAe HB.o hb)))); clear aG aA HB; obtain ⟨aG, b6, aA, HB⟩ := n_; obtain ⟨fn, gA, gP, _⟩ := Kd.Q_slice b6.o; subst gP) | ((with_reducible refine qAP (b := .append) (xs := #[.tmp 64, .tmp 68]) rfl ?_); at_builtin; refine Kd.R_append_rows (Kd.int .u8) (w0 := w) w.heap.size rfl (.tmp 64) (.tmp 68) 38 5 (.int .u8 0) 1 rfl Tryz.underlying38 qCi rfl (by decide) (by omega) u5 au bI _ _ _ (fun k_ => some k_ ≠ (.slice fn bI.length gA : Value).ownBlock) (fun _ => False) rfl rfl ?aO ?aR (fun _ _ h => h) (fun _ h => h.elim) ?aF ?aB ?aS ?aL ?_; (case aR => exact (Kd.Q_reads' b6.o).2.2); (case aB => exact HB.o); (case aF => exact (fun k_ hk => Kd.fresh' (Kd.Q_lt b6.o) k_ hk)); (case aO => exact (by exact Kd.R_mono aG.o (fun _ hk => hk.2))); (case aS => exact (qAf HB.o)); (case aL => have := eA.o; omega); intro hG hh ho hb hg ak; rw [← eO.o] at ho; have n_ := a2 (qAI (g := aN) (o := .cells #[.string a0_0, .slice ab l0_1.length a4, .slice aa l0_2.length a5, .slice al l0_3.length a6] 26 (0, 0)) aA.o hg (Kd.R_ne aG.o aA.o (by decide))) (a2 (hb) (am (ho))); clear aA b6 HB aG; obtain ⟨aA, HB, dt⟩ := n_; clear ho hb hg ak))
      go_loopg [5, 7] k1 (fun kq v5 v7 w' => ∃ (av : List Int) (aH : Int), v7 = .int .i64 aH ∧ qAa (qAg.l1 kq av aH a0_0 l0_1 l0_2 l0_3 = some (r1, r2)) ∧ qAa (kq ≤ k1) ∧ qAa (Kd.R (Kd.int .u8) 5 w' w.heap.size (fun _ => True) v5 av) ∧ qAa (w'.heap[aN]? = some (.cells #[.string a0_0, (.slice ab l0_1.length a4), (.slice aa l0_2.length a5), (.slice al l0_3.length a6)] 26 (0, 0))) ∧ qAa (Below w.heap.size w w'))
      case atStart => exact ⟨(eh), (0), (by rfl), H', ⟨Nat.le_refl _⟩, ⟨by exact Kd.R_mono dt.o (fun _ hk => trivial)⟩, ⟨by exact aA.o⟩, ⟨by exact HB.o⟩⟩
      case round =>
       clear H'
       obtain ⟨av, aH, rfl, HA, el, aG, aA, HB⟩ := hrel
       cases gk with
       | zero => exact absurd HA.o (by simp [qAg.l1])
       | succ k2 =>
        have H := HA.o
        clear HA
        simp only [qAg.l1] at H
        by_cases dc : aH < (l0_2.length : Int)
        ·rw [if_pos dc] at H
         replace dc := d1 dc
         obtain ⟨er, H⟩ := gd H
         replace er := d1 er
         replace H := bm H
         obtain ⟨bF, di, H⟩ := H
         replace H : (if av.length + bF.length < 140737488355328 then ((some (av ++ bF : List Int)).bind fun aw => ((qAN.f k2 ((qAz l0_2 aH).f1.f0.f0) ((qAz l0_2 aH).f1.f0.f1) ((qAz l0_2 aH).f1.f1) ((qAz l0_2 aH).f1.f2)).bind fun ao => (if aw.length + ao.length < 140737488355328 then (qAg.l1 k2 (aw ++ ao) (wrap64 (aH + 1)) a0_0 l0_1 l0_2 l0_3) else (none)))) else (none)) = some (r1, r2) := H
         have gq := am di
         clear di
         obtain ⟨es, H⟩ := gd H
         have eB := am es
         clear es
         obtain ⟨aw, cA⟩ : ∃ y_ : List Int, y_ = (av ++ bF) := ⟨_, rfl⟩
         replace H : ((qAN.f k2 ((qAz l0_2 aH).f1.f0.f0) ((qAz l0_2 aH).f1.f0.f1) ((qAz l0_2 aH).f1.f1) ((qAz l0_2 aH).f1.f2)).bind fun ao => (if aw.length + ao.length < 140737488355328 then (qAg.l1 k2 (aw ++ ao) (wrap64 (aH + 1)) a0_0 l0_1 l0_2 l0_3) else (none))) = some (r1, r2) := by (have H2_ := (Option.bind_some _ _).symm.trans H; rw [cA]; with_reducible exact H2_)
         have eP := am cA
         clear cA
         replace H := bm H
         obtain ⟨ao, dj, H⟩ := H
         replace H : (if aw.length + ao.length < 140737488355328 then (qAg.l1 k2 (aw ++ ao) (wrap64 (aH + 1)) a0_0 l0_1 l0_2 l0_3) else (none)) = some (r1, r2) := H
         have gr := am dj
         clear dj
         obtain ⟨et, H⟩ := gd H
         have eC := am et
         clear et
         obtain ⟨ei, cB⟩ : ∃ y_ : List Int, y_ = (aw ++ ao) := ⟨_, rfl⟩
         replace H : (qAg.l1 k2 ei (wrap64 (aH + 1)) a0_0 l0_1 l0_2 l0_3) = some (r1, r2) := by (rw [cB]; with_reducible exact H)
         have eQ := am cB
         clear cB
         have H' := am H
         clear H
         obtain ⟨-, -, fE⟩ := c3_ wr aA.o
         have d2 : 0 ≤ aH := od (by assumption)
         have d7 : aH < (l0_2.length : Int) := od (by assumption)
         obtain ⟨bo, fh, fu, fi, fv, fj, fw, gH, bQ, fc, fd, fe, ff, cz, cw, dA, cx, dB, cy⟩ := qCV bb.o aH d2 d7
         cases gH
         replace bQ := (HB.o.cell (World.block_lt_of_cell? w _ bQ)).trans bQ
         clear cw cz cx dA cy dB
         replace d2 := eq_true d2
         replace d7 := eq_true d7
         go_wp2_with (first | ((with_reducible refine qAi (f := 49) rfl ?_); refine gL 84 Tryz.func49 #[.string ((qAz l0_2 aH).f0)] ?_; (with_reducible refine (qA7.calls ((qAz l0_2 aH).f0) bF _ gq.o).mono ?_); rintro e hi ⟨hH, rfl, aW, hb⟩; refine ⟨_, rfl, ?_⟩; have n_ := a2 (Kd.R_elder' aG.o (Kd.Q_base aW) hb) (a2 (Kd.Q_lower (Kd.Q_new' aW (Kd.R_lt aG.o)) (qAf HB.o)) (a2 (qAk aA.o hb) (am (qAe HB.o hb)))); clear aG aA HB; obtain ⟨aG, ag, aA, HB⟩ := n_; obtain ⟨dq, e3, gQ, _⟩ := Kd.Q_slice ag.o; subst gQ) | ((with_reducible refine qAP (b := .append) (xs := #[.tmp 77, .tmp 84]) rfl ?_); at_builtin; refine Kd.R_append_rows (Kd.int .u8) (w0 := w) w.heap.size rfl (.tmp 77) (.tmp 84) 38 5 (.int .u8 0) 1 rfl Tryz.underlying38 qCi rfl (by decide) (by omega) u5 av bF _ _ _ (fun k_ => some k_ ≠ (.slice dq bF.length e3 : Value).ownBlock) (fun _ => False) rfl rfl ?aO ?aR (fun _ _ h => h) (fun _ h => h.elim) ?aF ?aB ?aS ?aL ?_; (case aR => exact (Kd.Q_reads' ag.o).2.2); (case aB => exact HB.o); (case aF => exact (fun k_ hk => Kd.fresh' (Kd.Q_lt ag.o) k_ hk)); (case aO => exact (by exact Kd.R_mono aG.o (fun _ hk => hk.2))); (case aS => exact (qAf HB.o)); (case aL => have := eB.o; omega); intro g4 hW ho hb hg ak; rw [← eP.o] at ho; have n_ := a2 (qAI (g := aN) (o := .cells #[.string a0_0, .slice ab l0_1.length a4, .slice (some bo) l0_2.length a5, .slice al l0_3.length a6] 26 (0, 0)) aA.o hg (Kd.R_ne aG.o aA.o (by decide))) (a2 (Kd.Q_after (ok := (fun _ => True)) ag.o hg ak) (a2 (hb) (am (ho)))); clear aA ag HB aG; obtain ⟨aA, ag, HB, bD⟩ := n_; clear ho hb hg ak; obtain ⟨-, -, fF⟩ := c3_ hW aA.o; have g0 : 0 ≤ aH := od (by assumption); have d8 : aH < (l0_2.length : Int) := od (by assumption); obtain ⟨eZ, dJ, dN, dK, dO, dL, dP, gI, fg, bR, bS, bT, bU, bh, bc, bi, bd, bj, bg⟩ := qCV bb.o aH g0 d8; obtain rfl : bo = eZ := (by injection gI); replace bR := (HB.o.cell (World.block_lt_of_cell? w _ bR)).trans bR; replace bS := (HB.o.cell (World.block_lt_of_cell? w _ bS)).trans bS; replace bT := (HB.o.cell (World.block_lt_of_cell? w _ bT)).trans bT; replace bU := (HB.o.cell (World.block_lt_of_cell? w _ bU)).trans bU; have cM := am bc; have cJ := am bh; clear bc bh; have cN := am bd; have cK := am bi; clear bd bi; have cO := am bg; have cL := am bj; clear bg bj; replace d8 := eq_true d8) | ((with_reducible refine qAi (f := 52) rfl ?_); refine gL 93 Tryz.func52 #[.agg #[.slice dJ ((qAz l0_2 aH).f1.f0.f0).length dN, .int .i64 ((qAz l0_2 aH).f1.f0.f1), .slice dK ((qAz l0_2 aH).f1.f1).length dO, .slice dL ((qAz l0_2 aH).f1.f2).length dP]] ?_; (with_reducible refine (qAN.calls k2 _ _ ((qAz l0_2 aH).f1.f0.f0) ((qAz l0_2 aH).f1.f0.f1) _ _ ((qAz l0_2 aH).f1.f1) _ _ ((qAz l0_2 aH).f1.f2) ao _ ?side1 ?side2 ?side3 ?side4 ?side5 ?side6 gr.o).mono ?_); (case side1 => exact (Kd.C_below cM.o HB.o)); (case side2 => exact cJ.o); (case side3 => exact (Kd.C_below cN.o HB.o)); (case side4 => exact cK.o); (case side5 => exact (Kd.C_below cO.o HB.o)); (case side6 => exact cL.o); rintro e hj ⟨hI, rfl, aW, hb⟩; refine ⟨_, rfl, ?_⟩; have n_ := a2 (Kd.Q_elder' ag.o (Kd.R_base aW) hb) (a2 (Kd.R_elder' bD.o (Kd.R_base aW) hb) (a2 (Kd.R_lower (Kd.R_new' (Kd.R_new' aW (Kd.Q_lt ag.o)) (Kd.R_lt bD.o)) (qAf HB.o)) (a2 (qAk aA.o hb) (am (qAe HB.o hb))))); clear ag bD aA HB; obtain ⟨ag, bD, b7, aA, HB⟩ := n_; obtain ⟨fo, gB, gR⟩ := Kd.R_slice b7.o; subst gR) | ((with_reducible refine qAP (b := .append) (xs := #[.tmp 86, .tmp 93]) rfl ?_); at_builtin; refine Kd.R_append_rows (Kd.int .u8) (w0 := w) w.heap.size rfl (.tmp 86) (.tmp 93) 38 5 (.int .u8 0) 1 rfl Tryz.underlying38 qCi rfl (by decide) (by omega) g4 aw ao _ _ _ (fun k_ => some k_ ≠ (.slice dq bF.length e3 : Value).ownBlock ∧ some k_ ≠ (.slice fo ao.length gB : Value).ownBlock) (fun _ => False) rfl rfl ?aO ?aR (fun _ _ h => h) (fun _ h => h.elim) ?aF ?aB ?aS ?aL ?_; (case aR => exact (Kd.R_reads' b7.o).2.2); (case aB => exact HB.o); (case aF => exact (fun k_ hk => ⟨Kd.fresh' (Kd.Q_lt ag.o) k_ hk, Kd.fresh' (Kd.R_lt b7.o) k_ hk⟩)); (case aO => exact bD.o); (case aS => exact (qAf HB.o)); (case aL => have := eC.o; omega); intro hJ hm ho hb hg ak; rw [← eQ.o] at ho; have n_ := a2 (qAI (g := aN) (o := .cells #[.string a0_0, .slice ab l0_1.length a4, .slice (some bo) l0_2.length a5, .slice al l0_3.length a6] 26 (0, 0)) aA.o hg (Kd.R_ne bD.o aA.o (by decide))) (a2 (hb) (am (ho))); clear aA ag b7 HB bD; obtain ⟨aA, HB, du⟩ := n_; clear ho hb hg ak))
         go_roundg k2
         case measure => have := da.o; have := el.o; omega
         case rel => exact ⟨(ei), (wrap64 (aH + 1)), (by rfl), H', ⟨by have := da.o; have := el.o; omega⟩, ⟨by exact Kd.R_mono du.o (fun _ hk => trivial)⟩, ⟨by exact aA.o⟩, ⟨by exact HB.o⟩⟩
        rw [if_neg dc] at H
        replace dc := d0 dc
        replace H := bm H
        obtain ⟨bJ, dk, H⟩ := H
        replace H : (if av.length + bJ.length < 140737488355328 then (qAg.l2 k2 (av ++ bJ) 0 a0_0 l0_1 l0_2 l0_3) else (none)) = some (r1, r2) := H
        have gs := am dk
        clear dk
        obtain ⟨eu, H⟩ := gd H
        have eD := am eu
        clear eu
        obtain ⟨ej, cC⟩ : ∃ y_ : List Int, y_ = (av ++ bJ) := ⟨_, rfl⟩
        replace H : (qAg.l2 k2 ej 0 a0_0 l0_1 l0_2 l0_3) = some (r1, r2) := by (rw [cC]; with_reducible exact H)
        have eR := am cC
        clear cC
        have H' := am H
        clear H
        obtain ⟨ca, cc, cd, ce⟩ := c4_ wr aA.o
        obtain ⟨cr, ct, cu, cv⟩ := z4_ aA.o
        go_wp2_with (first | ((with_reducible refine qAi (f := 50) rfl ?_); refine gL 99 Tryz.func50 #[.int .i64 (l0_3.length : Int)] ?_; (with_reducible refine (qBb.calls k2 (l0_3.length : Int) bJ _ gs.o).mono ?_); rintro e hn ⟨hK, rfl, aW, hb⟩; refine ⟨_, rfl, ?_⟩; have n_ := a2 (Kd.R_elder' aG.o (Kd.Q_base aW) hb) (a2 (Kd.Q_lower (Kd.Q_new' aW (Kd.R_lt aG.o)) (qAf HB.o)) (a2 (qAk aA.o hb) (am (qAe HB.o hb)))); clear aG aA HB; obtain ⟨aG, b8, aA, HB⟩ := n_; obtain ⟨fp, gC, gS, _⟩ := Kd.Q_slice b8.o; subst gS) | ((with_reducible refine qAP (b := .append) (xs := #[.tmp 95, .tmp 99]) rfl ?_); at_builtin; refine Kd.R_append_rows (Kd.int .u8) (w0 := w) w.heap.size rfl (.tmp 95) (.tmp 99) 38 5 (.int .u8 0) 1 rfl Tryz.underlying38 qCi rfl (by decide) (by omega) u5 av bJ _ _ _ (fun k_ => some k_ ≠ (.slice fp bJ.length gC : Value).ownBlock) (fun _ => False) rfl rfl ?aO ?aR (fun _ _ h => h) (fun _ h => h.elim) ?aF ?aB ?aS ?aL ?_; (case aR => exact (Kd.Q_reads' b8.o).2.2); (case aB => exact HB.o); (case aF => exact (fun k_ hk => Kd.fresh' (Kd.Q_lt b8.o) k_ hk)); (case aO => exact (by exact Kd.R_mono aG.o (fun _ hk => hk.2))); (case aS => exact (qAf HB.o)); (case aL => have := eD.o; omega); intro hL hp ho hb hg ak; rw [← eR.o] at ho; have n_ := a2 (qAI (g := aN) (o := .cells #[.string a0_0, .slice ab l0_1.length a4, .slice aa l0_2.length a5, .slice al l0_3.length a6] 26 (0, 0)) aA.o hg (Kd.R_ne aG.o aA.o (by decide))) (a2 (hb) (am (ho))); clear aA b8 HB aG; obtain ⟨aA, HB, dv⟩ := n_; clear ho hb hg ak))
        go_loopg [5, 8] k2 (fun kq v5 v8 w' => ∃ (bG : List Int) (aC : Int), v8 = .int .i64 aC ∧ qAa (qAg.l2 kq bG aC a0_0 l0_1 l0_2 l0_3 = some (r1, r2)) ∧ qAa (kq ≤ k2) ∧ qAa (Kd.R (Kd.int .u8) 5 w' w.heap.size (fun _ => True) v5 bG) ∧ qAa (w'.heap[aN]? = some (.cells #[.string a0_0, (.slice ab l0_1.length a4), (.slice aa l0_2.length a5), (.slice al l0_3.length a6)] 26 (0, 0))) ∧ qAa (Below w.heap.size w w'))
        case atStart => exact ⟨(ej), (0), (by rfl), H', ⟨Nat.le_refl _⟩, ⟨by exact Kd.R_mono dv.o (fun _ hk => trivial)⟩, ⟨by exact aA.o⟩, ⟨by exact HB.o⟩⟩
        case round =>
         clear H'
         obtain ⟨bG, aC, rfl, HA, gg, aG, aA, HB⟩ := hrel
         cases gk with
         | zero => exact absurd HA.o (by simp [qAg.l2])
         | succ k3 =>
          have H := HA.o
          clear HA
          simp only [qAg.l2] at H
          by_cases dd : aC < (l0_3.length : Int)
          rotate_left
          ·rw [if_neg dd] at H
           replace dd := d0 dd
           by_cases de : (bG.length : Int) > 16384
           ·rw [if_pos de] at H
            replace de := d1 de
            simp only [Option.some.injEq, Prod.mk.injEq] at H
            obtain ⟨rfl, rfl⟩ := H
            obtain ⟨-, -, -, fQ⟩ := c4_ wr aA.o
            obtain ⟨gx, gy, gX⟩ := Kd.R_slice aG.o
            subst gX
            go_wp2
            go_ret2
            exact ⟨_, by rfl, by (exact Kd.R_nil _ _ _ _ _), by exact HB.o⟩
           rw [if_neg de] at H
           replace de := d0 de
           simp only [Option.some.injEq, Prod.mk.injEq] at H
           obtain ⟨rfl, rfl⟩ := H
           obtain ⟨-, -, -, fR⟩ := c4_ wr aA.o
           obtain ⟨gf, gm, e4⟩ := Kd.R_slice aG.o
           subst e4
           go_wp2
           go_ret2
           exact ⟨_, by rfl, by exact aG.o, by exact HB.o⟩
          rw [if_pos dd] at H
          replace dd := d1 dd
          obtain ⟨ev, H⟩ := gd H
          replace ev := d1 ev
          replace H := bm H
          obtain ⟨aj, dl, H⟩ := H
          replace H : (if bG.length + aj.length < 140737488355328 then ((some (bG ++ aj : List Int)).bind fun ax => ((qBl.f k3 ((qAj l0_3 aC).f1)).bind fun a7 => (if ax.length + a7.length < 140737488355328 then ((some (ax ++ a7 : List Int)).bind fun an => (if an.length < 140737488355328 then ((some (an ++ [((qAj l0_3 aC).f2) % 256] : List Int)).bind fun a9 => ((qA7.f ((qAj l0_3 aC).f3)).bind fun aU => (if a9.length + aU.length < 140737488355328 then ((some (a9 ++ aU : List Int)).bind fun aV => ((qA7.f ((qAj l0_3 aC).f4)).bind fun aQ => (if aV.length + aQ.length < 140737488355328 then (qAg.l2 k3 (aV ++ aQ) (wrap64 (aC + 1)) a0_0 l0_1 l0_2 l0_3) else (none)))) else (none)))) else (none))) else (none)))) else (none)) = some (r1, r2) := H
          have gt := am dl
          clear dl
          obtain ⟨ew, H⟩ := gd H
          have eE := am ew
          clear ew
          obtain ⟨ax, cD⟩ : ∃ y_ : List Int, y_ = (bG ++ aj) := ⟨_, rfl⟩
          replace H : ((qBl.f k3 ((qAj l0_3 aC).f1)).bind fun a7 => (if ax.length + a7.length < 140737488355328 then ((some (ax ++ a7 : List Int)).bind fun an => (if an.length < 140737488355328 then ((some (an ++ [((qAj l0_3 aC).f2) % 256] : List Int)).bind fun a9 => ((qA7.f ((qAj l0_3 aC).f3)).bind fun aU => (if a9.length + aU.length < 140737488355328 then ((some (a9 ++ aU : List Int)).bind fun aV => ((qA7.f ((qAj l0_3 aC).f4)).bind fun aQ => (if aV.length + aQ.length < 140737488355328 then (qAg.l2 k3 (aV ++ aQ) (wrap64 (aC + 1)) a0_0 l0_1 l0_2 l0_3) else (none)))) else (none)))) else (none))) else (none))) = some (r1, r2) := by (have H2_ := (Option.bind_some _ _).symm.trans H; rw [cD]; with_reducible exact H2_)
          have eS := am cD
          clear cD
          replace H := bm H
          obtain ⟨a7, dm, H⟩ := H
          replace H : (if ax.length + a7.length < 140737488355328 then ((some (ax ++ a7 : List Int)).bind fun an => (if an.length < 140737488355328 then ((some (an ++ [((qAj l0_3 aC).f2) % 256] : List Int)).bind fun a9 => ((qA7.f ((qAj l0_3 aC).f3)).bind fun aU => (if a9.length + aU.length < 140737488355328 then ((some (a9 ++ aU : List Int)).bind fun aV => ((qA7.f ((qAj l0_3 aC).f4)).bind fun aQ => (if aV.length + aQ.length < 140737488355328 then (qAg.l2 k3 (aV ++ aQ) (wrap64 (aC + 1)) a0_0 l0_1 l0_2 l0_3) else (none)))) else (none)))) else (none))) else (none)) = some (r1, r2) := H
          have gu := am dm
          clear dm
          obtain ⟨ex, H⟩ := gd H
          have eF := am ex
          clear ex
          obtain ⟨an, cE⟩ : ∃ y_ : List Int, y_ = (ax ++ a7) := ⟨_, rfl⟩
          replace H : (if an.length < 140737488355328 then ((some (an ++ [((qAj l0_3 aC).f2) % 256] : List Int)).bind fun a9 => ((qA7.f ((qAj l0_3 aC).f3)).bind fun aU => (if a9.length + aU.length < 140737488355328 then ((some (a9 ++ aU : List Int)).bind fun aV => ((qA7.f ((qAj l0_3 aC).f4)).bind fun aQ => (if aV.length + aQ.length < 140737488355328 then (qAg.l2 k3 (aV ++ aQ) (wrap64 (aC + 1)) a0_0 l0_1 l0_2 l0_3) else (none)))) else (none)))) else (none)) = some (r1, r2) := by (have H2_ := (Option.bind_some _ _).symm.trans H; rw [cE]; with_reducible exact H2_)
          have eT := am cE
          clear cE
          obtain ⟨ey, H⟩ := gd H
          have eG := am ey
          clear ey
          obtain ⟨a9, cF⟩ : ∃ y_ : List Int, y_ = (an ++ [((qAj l0_3 aC).f2) % 256]) := ⟨_, rfl⟩
          replace H : ((qA7.f ((qAj l0_3 aC).f3)).bind fun aU => (if a9.length + aU.length < 140737488355328 then ((some (a9 ++ aU : List Int)).bind fun aV => ((qA7.f ((qAj l0_3 aC).f4)).bind fun aQ => (if aV.length + aQ.length < 140737488355328 then (qAg.l2 k3 (aV ++ aQ) (wrap64 (aC + 1)) a0_0 l0_1 l0_2 l0_3) else (none)))) else (none))) = some (r1, r2) := by (have H2_ := (Option.bind_some _ _).symm.trans H; rw [cF]; with_reducible exact H2_)
          have eU := am cF
          clear cF
          replace H := bm H
          obtain ⟨aU, dn, H⟩ := H
          replace H : (if a9.length + aU.length < 140737488355328 then ((some (a9 ++ aU : List Int)).bind fun aV => ((qA7.f ((qAj l0_3 aC).f4)).bind fun aQ => (if aV.length + aQ.length < 140737488355328 then (qAg.l2 k3 (aV ++ aQ) (wrap64 (aC + 1)) a0_0 l0_1 l0_2 l0_3) else (none)))) else (none)) = some (r1, r2) := H
          have gv := am dn
          clear dn
          obtain ⟨ez, H⟩ := gd H
          have eH := am ez
          clear ez
          obtain ⟨aV, cG⟩ : ∃ y_ : List Int, y_ = (a9 ++ aU) := ⟨_, rfl⟩
          replace H : ((qA7.f ((qAj l0_3 aC).f4)).bind fun aQ => (if aV.length + aQ.length < 140737488355328 then (qAg.l2 k3 (aV ++ aQ) (wrap64 (aC + 1)) a0_0 l0_1 l0_2 l0_3) else (none))) = some (r1, r2) := by (have H2_ := (Option.bind_some _ _).symm.trans H; rw [cG]; with_reducible exact H2_)
          have eV := am cG
          clear cG
          replace H := bm H
          obtain ⟨aQ, dp, H⟩ := H
          replace H : (if aV.length + aQ.length < 140737488355328 then (qAg.l2 k3 (aV ++ aQ) (wrap64 (aC + 1)) a0_0 l0_1 l0_2 l0_3) else (none)) = some (r1, r2) := H
          have gw := am dp
          clear dp
          obtain ⟨fA, H⟩ := gd H
          have eI := am fA
          clear fA
          obtain ⟨ek, cH⟩ : ∃ y_ : List Int, y_ = (aV ++ aQ) := ⟨_, rfl⟩
          replace H : (qAg.l2 k3 ek (wrap64 (aC + 1)) a0_0 l0_1 l0_2 l0_3) = some (r1, r2) := by (rw [cH]; with_reducible exact H)
          have eW := am cH
          clear cH
          have H' := am H
          clear H
          obtain ⟨-, -, -, fG⟩ := c4_ wr aA.o
          have d3 : 0 ≤ aC := od (by assumption)
          have d9 : aC < (l0_3.length : Int) := od (by assumption)
          obtain ⟨bK, gJ, bV, bW, bX, bY, bZ⟩ := qCl bl.o aC d3 d9
          cases gJ
          replace bV := (HB.o.cell (World.block_lt_of_cell? w _ bV)).trans bV
          replace bW := (HB.o.cell (World.block_lt_of_cell? w _ bW)).trans bW
          replace bX := (HB.o.cell (World.block_lt_of_cell? w _ bX)).trans bX
          replace bY := (HB.o.cell (World.block_lt_of_cell? w _ bY)).trans bY
          replace bZ := (HB.o.cell (World.block_lt_of_cell? w _ bZ)).trans bZ
          replace d3 := eq_true d3
          replace d9 := eq_true d9
          go_wp2_with (first | ((with_reducible refine qAK (N := 9) rfl ?_); refine bx 9 #[.int .i64 0, .int .i64 0, .int .i64 0, .string ⟨#[]⟩, .string ⟨#[]⟩] 103 ?_; intro aX hg hX hbox hb; have n_ := a2 (Kd.R_below aG.o hb) (a2 (qAk aA.o hb) (a2 (qAe HB.o hb) (a2 (hbox) (a2 (by rw [hg]; exact (qAf HB.o) : w.heap.size ≤ aX) (am (by rw [hg]; exact Nat.ne_of_lt (qBd aA.o) : aN ≠ aX)))))); clear aG aA HB; obtain ⟨aG, aA, HB, aD, dC, ac⟩ := n_; clear hb hbox hg; obtain ⟨fH, fI, fJ, fK, fL⟩ := c5_ hX aD.o; obtain ⟨fS, fT, fU, fV, fW⟩ := z5_ aD.o) | ((with_reducible refine qAi (f := 53) rfl ?_); refine gL 116 Tryz.func53 #[.int .i64 ((qAj l0_3 aC).f0)] ?_; (with_reducible refine (qBl.calls k3 ((qAj l0_3 aC).f0) aj _ gt.o).mono ?_); rintro e hq ⟨hM, rfl, aW, hb⟩; refine ⟨_, rfl, ?_⟩; have n_ := a2 (Kd.R_elder' (by exact (Kd.R_mono (Kd.R_far (p := ⟨aX, 4, none⟩) (Kd.R_far (p := ⟨aX, 3, none⟩) (Kd.R_far (p := ⟨aX, 2, none⟩) (Kd.R_far (p := ⟨aX, 1, none⟩) (Kd.R_far (p := ⟨aX, 0, none⟩) (Kd.R_types aG.o aD.o (by decide)) (fun _ hk => hk.2) (.int .i64 ((qAj l0_3 aC).f0))) (fun _ hk => hk.2) (.int .i64 ((qAj l0_3 aC).f1))) (fun _ hk => hk.2) (.int .i64 ((qAj l0_3 aC).f2))) (fun _ hk => hk.2) (.string ((qAj l0_3 aC).f3))) (fun _ hk => hk.2) (.string ((qAj l0_3 aC).f4))) (fun _ h_ => h_.1))) (Kd.Q_base aW) hb) (a2 (Kd.Q_lower (Kd.Q_new' aW (Kd.R_lt (by exact (Kd.R_mono (Kd.R_far (p := ⟨aX, 4, none⟩) (Kd.R_far (p := ⟨aX, 3, none⟩) (Kd.R_far (p := ⟨aX, 2, none⟩) (Kd.R_far (p := ⟨aX, 1, none⟩) (Kd.R_far (p := ⟨aX, 0, none⟩) (Kd.R_types aG.o aD.o (by decide)) (fun _ hk => hk.2) (.int .i64 ((qAj l0_3 aC).f0))) (fun _ hk => hk.2) (.int .i64 ((qAj l0_3 aC).f1))) (fun _ hk => hk.2) (.int .i64 ((qAj l0_3 aC).f2))) (fun _ hk => hk.2) (.string ((qAj l0_3 aC).f3))) (fun _ hk => hk.2) (.string ((qAj l0_3 aC).f4))) (fun _ h_ => h_.1))))) (qAf (by repeat (with_reducible first | exact HB.o | refine qA1 ?_ dC.o)))) (a2 (qAk (g := aN) (o := .cells #[.string a0_0, .slice ab l0_1.length a4, .slice aa l0_2.length a5, .slice (some bK) l0_3.length a6] 26 (0, 0)) (by refine qA2 ?_ ac.o _; refine qA2 ?_ ac.o _; refine qA2 ?_ ac.o _; refine qA2 ?_ ac.o _; refine qA2 ?_ ac.o _; exact aA.o) hb) (a2 (qAk (g := aX) (o := .cells #[.int .i64 ((qAj l0_3 aC).f0), .int .i64 ((qAj l0_3 aC).f1), .int .i64 ((qAj l0_3 aC).f2), .string ((qAj l0_3 aC).f3), .string ((qAj l0_3 aC).f4)] 103 (0, 0)) (by refine qA5 (cs := #[.int .i64 ((qAj l0_3 aC).f0), .int .i64 ((qAj l0_3 aC).f1), .int .i64 ((qAj l0_3 aC).f2), .string ((qAj l0_3 aC).f3), .string ⟨#[]⟩]) ?_ 4 _ rfl; refine qA5 (cs := #[.int .i64 ((qAj l0_3 aC).f0), .int .i64 ((qAj l0_3 aC).f1), .int .i64 ((qAj l0_3 aC).f2), .string ⟨#[]⟩, .string ⟨#[]⟩]) ?_ 3 _ rfl; refine qA5 (cs := #[.int .i64 ((qAj l0_3 aC).f0), .int .i64 ((qAj l0_3 aC).f1), .int .i64 0, .string ⟨#[]⟩, .string ⟨#[]⟩]) ?_ 2 _ rfl; refine qA5 (cs := #[.int .i64 ((qAj l0_3 aC).f0), .int .i64 0, .int .i64 0, .string ⟨#[]⟩, .string ⟨#[]⟩]) ?_ 1 _ rfl; refine qA5 (cs := #[.int .i64 0, .int .i64 0, .int .i64 0, .string ⟨#[]⟩, .string ⟨#[]⟩]) ?_ 0 _ rfl; exact aD.o) hb) (am (qAe (by repeat (with_reducible first | exact HB.o | refine qA1 ?_ dC.o)) hb))))); clear aG aA aD HB; obtain ⟨aG, aE, aA, aD, HB⟩ := n_; obtain ⟨bL, bM, gT, _⟩ := Kd.Q_slice aE.o; subst gT) | ((with_reducible refine qAP (b := .append) (xs := #[.tmp 113, .tmp 116]) rfl ?_); at_builtin; refine Kd.R_append_rows (Kd.int .u8) (w0 := w) w.heap.size rfl (.tmp 113) (.tmp 116) 38 5 (.int .u8 0) 1 rfl Tryz.underlying38 qCi rfl (by decide) (by omega) u5 bG aj _ _ _ (fun k_ => some k_ ≠ (.slice bL aj.length bM : Value).ownBlock) (fun _ => False) rfl rfl ?aO ?aR (fun _ _ h => h) (fun _ h => h.elim) ?aF ?aB ?aS ?aL ?_; (case aR => exact (Kd.Q_reads' aE.o).2.2); (case aB => exact HB.o); (case aF => exact (fun k_ hk => Kd.fresh' (Kd.Q_lt aE.o) k_ hk)); (case aO => exact (by exact Kd.R_mono aG.o (fun _ hk => hk.2))); (case aS => exact (qAf HB.o)); (case aL => have := eE.o; omega); intro g5 hY ho hb hg ak; rw [← eS.o] at ho; have n_ := a2 (qAI (g := aN) (o := .cells #[.string a0_0, .slice ab l0_1.length a4, .slice aa l0_2.length a5, .slice (some bK) l0_3.length a6] 26 (0, 0)) aA.o hg (Kd.R_ne aG.o aA.o (by decide))) (a2 (qAI (g := aX) (o := .cells #[.int .i64 ((qAj l0_3 aC).f0), .int .i64 ((qAj l0_3 aC).f1), .int .i64 ((qAj l0_3 aC).f2), .string ((qAj l0_3 aC).f3), .string ((qAj l0_3 aC).f4)] 103 (0, 0)) aD.o hg (Kd.R_ne aG.o aD.o (by decide))) (a2 (Kd.Q_after (ok := (fun _ => True)) aE.o hg ak) (a2 (hb) (am (ho))))); clear aA aD aE HB aG; obtain ⟨aA, aD, aE, HB, ay⟩ := n_; clear ho hb hg ak; obtain ⟨-, fM⟩ := c2_ hY aD.o; have fX := qAx aD.o 4) | ((with_reducible refine qAi (f := 53) rfl ?_); refine gL 121 Tryz.func53 #[.int .i64 ((qAj l0_3 aC).f1)] ?_; (with_reducible refine (qBl.calls k3 ((qAj l0_3 aC).f1) a7 _ gu.o).mono ?_); rintro e hr ⟨hN, rfl, aW, hb⟩; refine ⟨_, rfl, ?_⟩; have n_ := a2 (Kd.Q_elder' aE.o (Kd.Q_base aW) hb) (a2 (Kd.R_elder' ay.o (Kd.Q_base aW) hb) (a2 (Kd.Q_lower (Kd.Q_new' (Kd.Q_new' aW (Kd.Q_lt aE.o)) (Kd.R_lt ay.o)) (qAf HB.o)) (a2 (qAk aA.o hb) (a2 (qAk aD.o hb) (am (qAe HB.o hb)))))); clear aE ay aA aD HB; obtain ⟨aE, ay, aI, aA, aD, HB⟩ := n_; obtain ⟨b0, b3, gU, _⟩ := Kd.Q_slice aI.o; subst gU) | ((with_reducible refine qAP (b := .append) (xs := #[.tmp 118, .tmp 121]) rfl ?_); at_builtin; refine Kd.R_append_rows (Kd.int .u8) (w0 := w) w.heap.size rfl (.tmp 118) (.tmp 121) 38 5 (.int .u8 0) 1 rfl Tryz.underlying38 qCi rfl (by decide) (by omega) g5 ax a7 _ _ _ (fun k_ => some k_ ≠ (.slice bL aj.length bM : Value).ownBlock ∧ some k_ ≠ (.slice b0 a7.length b3 : Value).ownBlock) (fun _ => False) rfl rfl ?aO ?aR (fun _ _ h => h) (fun _ h => h.elim) ?aF ?aB ?aS ?aL ?_; (case aR => exact (Kd.Q_reads' aI.o).2.2); (case aB => exact HB.o); (case aF => exact (fun k_ hk => ⟨Kd.fresh' (Kd.Q_lt aE.o) k_ hk, Kd.fresh' (Kd.Q_lt aI.o) k_ hk⟩)); (case aO => exact ay.o); (case aS => exact (qAf HB.o)); (case aL => have := eF.o; omega); intro g6 hZ ho hb hg ak; rw [← eT.o] at ho; have n_ := a2 (qAI (g := aN) (o := .cells #[.string a0_0, .slice ab l0_1.length a4, .slice aa l0_2.length a5, .slice (some bK) l0_3.length a6] 26 (0, 0)) aA.o hg (Kd.R_ne ay.o aA.o (by decide))) (a2 (qAI (g := aX) (o := .cells #[.int .i64 ((qAj l0_3 aC).f0), .int .i64 ((qAj l0_3 aC).f1), .int .i64 ((qAj l0_3 aC).f2), .string ((qAj l0_3 aC).f3), .string ((qAj l0_3 aC).f4)] 103 (0, 0)) aD.o hg (Kd.R_ne ay.o aD.o (by decide))) (a2 (Kd.Q_after (ok := (fun k_ => some k_ ≠ (.slice b0 a7.length b3 : Value).ownBlock)) (by exact Kd.Q_mono aE.o (fun _ hk => ⟨hk.2, hk.1.2⟩)) hg ak) (a2 (Kd.Q_after (ok := (fun k_ => some k_ ≠ (.slice bL aj.length bM : Value).ownBlock)) (by exact Kd.Q_mono aI.o (fun _ hk => ⟨hk.1.2, hk.2⟩)) hg ak) (a2 (hb) (am (ho)))))); clear aA aD aE aI HB ay; obtain ⟨aA, aD, aE, aI, HB, b9⟩ := n_; clear ho hb hg ak; obtain ⟨-, -, fN⟩ := c3_ hZ aD.o; have fY := qAx aD.o 4) | ((with_reducible refine qAP (b := .append) (xs := #[.tmp 123, .tmp 127]) rfl ?_); at_builtin; refine Kd.R_append (Kd.int .u8) (w0 := w) w.heap.size rfl (.tmp 123) (.tmp 127) 38 5 (.int .u8 0) 1 rfl Tryz.underlying38 qCi rfl (by decide) (by omega) g6 an (((qAj l0_3 aC).f2) % 256) [.int .u8 (((qAj l0_3 aC).f2) % 256)] (fun k_ => some k_ ≠ (.slice bL aj.length bM : Value).ownBlock ∧ some k_ ≠ (.slice b0 a7.length b3 : Value).ownBlock) (fun _ => False) rfl rfl ?aP (fun _ hk => hk.elim) ?aF ?aO ?aB ?aS ?aL ?_; (case aP => exact rfl); (case aB => exact HB.o); (case aF => exact (fun k_ hk => ⟨Kd.fresh' (Kd.Q_lt aE.o) k_ hk, Kd.fresh' (Kd.Q_lt aI.o) k_ hk⟩)); (case aO => exact b9.o); (case aS => exact (qAf HB.o)); (case aL => have := eG.o; omega); intro g7 h0 ho hb hg ak; rw [← eU.o] at ho; have n_ := a2 (qAI (g := aN) (o := .cells #[.string a0_0, .slice ab l0_1.length a4, .slice aa l0_2.length a5, .slice (some bK) l0_3.length a6] 26 (0, 0)) aA.o hg (Kd.R_ne b9.o aA.o (by decide))) (a2 (qAI (g := aX) (o := .cells #[.int .i64 ((qAj l0_3 aC).f0), .int .i64 ((qAj l0_3 aC).f1), .int .i64 ((qAj l0_3 aC).f2), .string ((qAj l0_3 aC).f3), .string ((qAj l0_3 aC).f4)] 103 (0, 0)) aD.o hg (Kd.R_ne b9.o aD.o (by decide))) (a2 (Kd.Q_after (ok := (fun k_ => some k_ ≠ (.slice b0 a7.length b3 : Value).ownBlock)) aE.o hg ak) (a2 (Kd.Q_after (ok := (fun k_ => some k_ ≠ (.slice bL aj.length bM : Value).ownBlock)) aI.o hg ak) (a2 (hb) (am (ho)))))); clear aA aD aE aI HB b9; obtain ⟨aA, aD, aE, aI, HB, az⟩ := n_; clear ho hb hg ak; obtain ⟨-, -, -, fO⟩ := c4_ h0 aD.o; have fZ := qAx aD.o 4) | ((with_reducible refine qAi (f := 49) rfl ?_); refine gL 132 Tryz.func49 #[.string ((qAj l0_3 aC).f3)] ?_; (with_reducible refine (qA7.calls ((qAj l0_3 aC).f3) aU _ gv.o).mono ?_); rintro e hs ⟨hO, rfl, aW, hb⟩; refine ⟨_, rfl, ?_⟩; have n_ := a2 (Kd.Q_elder' aE.o (Kd.Q_base aW) hb) (a2 (Kd.Q_elder' aI.o (Kd.Q_base aW) hb) (a2 (Kd.R_elder' az.o (Kd.Q_base aW) hb) (a2 (Kd.Q_lower (Kd.Q_new' (Kd.Q_new' (Kd.Q_new' aW (Kd.Q_lt aE.o)) (Kd.Q_lt aI.o)) (Kd.R_lt az.o)) (qAf HB.o)) (a2 (qAk aA.o hb) (a2 (qAk aD.o hb) (am (qAe HB.o hb))))))); clear aE aI az aA aD HB; obtain ⟨aE, aI, az, ah, aA, aD, HB⟩ := n_; obtain ⟨cI, cP, gV, _⟩ := Kd.Q_slice ah.o; subst gV) | ((with_reducible refine qAP (b := .append) (xs := #[.tmp 129, .tmp 132]) rfl ?_); at_builtin; refine Kd.R_append_rows (Kd.int .u8) (w0 := w) w.heap.size rfl (.tmp 129) (.tmp 132) 38 5 (.int .u8 0) 1 rfl Tryz.underlying38 qCi rfl (by decide) (by omega) g7 a9 aU _ _ _ (fun k_ => some k_ ≠ (.slice bL aj.length bM : Value).ownBlock ∧ some k_ ≠ (.slice b0 a7.length b3 : Value).ownBlock ∧ some k_ ≠ (.slice cI aU.length cP : Value).ownBlock) (fun _ => False) rfl rfl ?aO ?aR (fun _ _ h => h) (fun _ h => h.elim) ?aF ?aB ?aS ?aL ?_; (case aR => exact (Kd.Q_reads' ah.o).2.2); (case aB => exact HB.o); (case aF => exact (fun k_ hk => ⟨Kd.fresh' (Kd.Q_lt aE.o) k_ hk, Kd.fresh' (Kd.Q_lt aI.o) k_ hk, Kd.fresh' (Kd.Q_lt ah.o) k_ hk⟩)); (case aO => exact (by exact Kd.R_mono az.o (fun _ hk => ⟨hk.1.1, ⟨hk.1.2, hk.2⟩⟩))); (case aS => exact (qAf HB.o)); (case aL => have := eH.o; omega); intro g8 h6 ho hb hg ak; rw [← eV.o] at ho; have n_ := a2 (qAI (g := aN) (o := .cells #[.string a0_0, .slice ab l0_1.length a4, .slice aa l0_2.length a5, .slice (some bK) l0_3.length a6] 26 (0, 0)) aA.o hg (Kd.R_ne az.o aA.o (by decide))) (a2 (qAI (g := aX) (o := .cells #[.int .i64 ((qAj l0_3 aC).f0), .int .i64 ((qAj l0_3 aC).f1), .int .i64 ((qAj l0_3 aC).f2), .string ((qAj l0_3 aC).f3), .string ((qAj l0_3 aC).f4)] 103 (0, 0)) aD.o hg (Kd.R_ne az.o aD.o (by decide))) (a2 (Kd.Q_after (ok := (fun k_ => some k_ ≠ (.slice b0 a7.length b3 : Value).ownBlock ∧ some k_ ≠ (.slice cI aU.length cP : Value).ownBlock)) (by exact Kd.Q_mono aE.o (fun _ hk => ⟨⟨hk.1.1, hk.2⟩, hk.1.2⟩)) hg ak) (a2 (Kd.Q_after (ok := (fun k_ => some k_ ≠ (.slice bL aj.length bM : Value).ownBlock ∧ some k_ ≠ (.slice cI aU.length cP : Value).ownBlock)) (by exact Kd.Q_mono aI.o (fun _ hk => ⟨⟨hk.1.1, hk.2⟩, hk.1.2⟩)) hg ak) (a2 (Kd.Q_after (ok := (fun k_ => some k_ ≠ (.slice bL aj.length bM : Value).ownBlock ∧ some k_ ≠ (.slice b0 a7.length b3 : Value).ownBlock)) (by exact Kd.Q_mono ah.o (fun _ hk => ⟨⟨hk.1.1.2, hk.1.2⟩, hk.2⟩)) hg ak) (a2 (hb) (am (ho))))))); clear aA aD aE aI ah HB az; obtain ⟨aA, aD, aE, aI, ah, HB, bE⟩ := n_; clear ho hb hg ak; obtain ⟨-, -, -, -, fP⟩ := c5_ h6 aD.o; have f5 := qAx aD.o 4) | ((with_reducible refine qAi (f := 49) rfl ?_); refine gL 137 Tryz.func49 #[.string ((qAj l0_3 aC).f4)] ?_; (with_reducible refine (qA7.calls ((qAj l0_3 aC).f4) aQ _ gw.o).mono ?_); rintro e ht ⟨hP, rfl, aW, hb⟩; refine ⟨_, rfl, ?_⟩; have n_ := a2 (Kd.Q_elder' aE.o (Kd.Q_base aW) hb) (a2 (Kd.Q_elder' aI.o (Kd.Q_base aW) hb) (a2 (Kd.Q_elder' ah.o (Kd.Q_base aW) hb) (a2 (Kd.R_elder' bE.o (Kd.Q_base aW) hb) (a2 (Kd.Q_lower (Kd.Q_new' (Kd.Q_new' (Kd.Q_new' (Kd.Q_new' aW (Kd.Q_lt aE.o)) (Kd.Q_lt aI.o)) (Kd.Q_lt ah.o)) (Kd.R_lt bE.o)) (qAf HB.o)) (a2 (qAk aA.o hb) (a2 (qAk aD.o hb) (am (qAe HB.o hb)))))))); clear aE aI ah bE aA aD HB; obtain ⟨aE, aI, ah, bE, ba, aA, aD, HB⟩ := n_; obtain ⟨fq, gD, gW, _⟩ := Kd.Q_slice ba.o; subst gW) | ((with_reducible refine qAP (b := .append) (xs := #[.tmp 134, .tmp 137]) rfl ?_); at_builtin; refine Kd.R_append_rows (Kd.int .u8) (w0 := w) w.heap.size rfl (.tmp 134) (.tmp 137) 38 5 (.int .u8 0) 1 rfl Tryz.underlying38 qCi rfl (by decide) (by omega) g8 aV aQ _ _ _ (fun k_ => some k_ ≠ (.slice bL aj.length bM : Value).ownBlock ∧ some k_ ≠ (.slice b0 a7.length b3 : Value).ownBlock ∧ some k_ ≠ (.slice cI aU.length cP : Value).ownBlock ∧ some k_ ≠ (.slice fq aQ.length gD : Value).ownBlock) (fun _ => False) rfl rfl ?aO ?aR (fun _ _ h => h) (fun _ h => h.elim) ?aF ?aB ?aS ?aL ?_; (case aR => exact (Kd.Q_reads' ba.o).2.2); (case aB => exact HB.o); (case aF => exact (fun k_ hk => ⟨Kd.fresh' (Kd.Q_lt aE.o) k_ hk, Kd.fresh' (Kd.Q_lt aI.o) k_ hk, Kd.fresh' (Kd.Q_lt ah.o) k_ hk, Kd.fresh' (Kd.Q_lt ba.o) k_ hk⟩)); (case aO => exact (by exact Kd.R_mono bE.o (fun _ hk => ⟨hk.1.1, ⟨hk.1.2.1, ⟨hk.1.2.2, hk.2⟩⟩⟩))); (case aS => exact (qAf HB.o)); (case aL => have := eI.o; omega); intro hQ hu ho hb hg ak; rw [← eW.o] at ho; have n_ := a2 (qAI (g := aN) (o := .cells #[.string a0_0, .slice ab l0_1.length a4, .slice aa l0_2.length a5, .slice (some bK) l0_3.length a6] 26 (0, 0)) aA.o hg (Kd.R_ne bE.o aA.o (by decide))) (a2 (hb) (am (ho))); clear aA aD aE aI ah ba HB bE; obtain ⟨aA, HB, dw⟩ := n_; clear ho hb hg ak))
          go_roundg k3
          case measure => have := da.o; have := el.o; have := gg.o; omega
          case rel => exact ⟨(ek), (wrap64 (aC + 1)), (by rfl), H', ⟨by have := da.o; have := el.o; have := gg.o; omega⟩, ⟨by exact Kd.R_mono dw.o (fun _ hk => trivial)⟩, ⟨by exact aA.o⟩, ⟨by exact HB.o⟩⟩
   ·rw [if_neg c7] at H
    exact absurd H (by simp)
  ·rw [if_neg c5] at H
   exact absurd H (by simp)
 ·rw [if_neg c3] at H
  have e0 : (ar != 0) = true := bne_iff_ne.mpr c3
  simp only [Option.some.injEq, Prod.mk.injEq] at H
  obtain ⟨rfl, rfl⟩ := H
  go_enter Tryz.func14, Tryz.ntmps14
  go_wp2_with (first | ((with_reducible refine qAK (N := 1) rfl ?_); refine bx 1 #[.string a0_0, .slice ab l0_1.length a4, .slice aa l0_2.length a5, .slice al l0_3.length a6] 26 ?_; intro aN hg g9 hbox hb; have n_ := a2 (qAe HB.o hb) (am (hbox)); clear HB; obtain ⟨HB, aA⟩ := n_; clear hb hbox hg; obtain ⟨e5, e6, e7, e8⟩ := c4_ g9 aA.o; have ed := qAx aA.o 3) | ((with_reducible refine qAi (f := 11) rfl ?_); refine gL 11 Tryz.func11 #[.agg #[.string a0_0, .slice ab l0_1.length a4, .slice aa l0_2.length a5, .slice al l0_3.length a6]] ?_; (with_reducible refine (qAd.calls k a0_0 _ _ l0_1 _ _ l0_2 _ _ l0_3 ar _ ?side1 ?side2 ?side3 ?side4 ?side5 ?side6 A2.o).mono ?_); (case side1 => exact (Kd.C_below b1.o HB.o)); (case side2 => exact dD.o); (case side3 => exact (Kd.C_below bb.o HB.o)); (case side4 => exact dE.o); (case side5 => exact (Kd.C_below bl.o HB.o)); (case side6 => exact dF.o); rintro e hR ⟨rfl, hb⟩; refine ⟨_, rfl, ?_⟩; have n_ := am (qAe HB.o hb); clear aA HB; have HB := n_; clear n_; (skip)))
  go_ret2
  exact ⟨_, by rfl, by (exact Kd.R_nil _ _ _ _ _), by exact HB.o⟩
def foundrylaw15_ObjectPacks.f (k : Nat) (a0_0 : ByteArray) (l0_1 : List (S95)) (l0_2 : List (S100)) (l0_3 : List (S103)) : Option (Bool) := (qAq.f k a0_0 l0_1 l0_2 l0_3).bind fun aG => ((qBg.f aG.1 aG.2.1 aG.2.2.1 aG.2.2.2).bind fun aQ => ((qAg.f k a0_0 l0_1 l0_2 l0_3).bind fun aL => (if (strOfNums aQ.1).toList = (strOfNums aL.1).toList then (if aQ.2 = aL.2 then ((qBs.f aG.1 aG.2.1 aG.2.2.1 aG.2.2.2 a0_0 l0_1 l0_2 l0_3).bind fun aT => (if aT = true then ((qBj.f k).bind fun aN => (some aN)) else (none))) else (none)) else (none))))
theorem foundrylaw15_ObjectPacks.calls (k : Nat) (a0_0 : ByteArray) (aU : Option Addr) (aY : Nat) (l0_1 : List (S95)) (aV : Option Addr) (aZ : Nat) (l0_2 : List (S100)) (aW : Option Addr) (a4 : Nat) (l0_3 : List (S103)) (r : Bool) (w : World) (hr0_1 : Kd.C k95 w aU l0_1.length l0_1) (hc0_1 : l0_1.length ≤ aY) (hr0_2 : Kd.C k100 w aV l0_2.length l0_2) (hc0_2 : l0_2.length ≤ aZ) (hr0_3 : Kd.C k103 w aW l0_3.length l0_3) (hc0_3 : l0_3.length ≤ a4) (h : foundrylaw15_ObjectPacks.f k a0_0 l0_1 l0_2 l0_3 = some r) :
  Calls Tryz.prog 4 #[.agg #[.string a0_0, .slice aU l0_1.length aY, .slice aV l0_2.length aZ, .slice aW l0_3.length a4]] w fun e w' => e = .returned (.bool r) ∧ Below w.heap.size w w' := by
 have ad := am hr0_1
 have aa := am hc0_1
 clear hr0_1 hc0_1
 have ae := am hr0_2
 have ab := am hc0_2
 clear hr0_2 hc0_2
 have af := am hr0_3
 have ac := am hc0_3
 clear hr0_3 hc0_3
 have HB := am (Below.refl w.heap.size w)
 have H : ((qAq.f k a0_0 l0_1 l0_2 l0_3).bind fun aG => ((qBg.f aG.1 aG.2.1 aG.2.2.1 aG.2.2.2).bind fun aQ => ((qAg.f k a0_0 l0_1 l0_2 l0_3).bind fun aL => (if (strOfNums aQ.1).toList = (strOfNums aL.1).toList then (if aQ.2 = aL.2 then ((qBs.f aG.1 aG.2.1 aG.2.2.1 aG.2.2.2 a0_0 l0_1 l0_2 l0_3).bind fun aT => (if aT = true then ((qBj.f k).bind fun aN => (some aN)) else (none))) else (none)) else (none))))) = some r := h
 clear h
 replace H := bm H
 obtain ⟨⟨aH, aI, aJ, aK⟩, bS, H⟩ := H
 replace H : ((qBg.f aH aI aJ aK).bind fun aQ => ((qAg.f k a0_0 l0_1 l0_2 l0_3).bind fun aL => (if (strOfNums aQ.1).toList = (strOfNums aL.1).toList then (if aQ.2 = aL.2 then ((qBs.f aH aI aJ aK a0_0 l0_1 l0_2 l0_3).bind fun aT => (if aT = true then ((qBj.f k).bind fun aN => (some aN)) else (none))) else (none)) else (none)))) = some r := H
 have A2 := am bS
 clear bS
 replace H := bm H
 obtain ⟨⟨a9, ag⟩, bT, H⟩ := H
 replace H : ((qAg.f k a0_0 l0_1 l0_2 l0_3).bind fun aL => (if (strOfNums a9).toList = (strOfNums aL.1).toList then (if ag = aL.2 then ((qBs.f aH aI aJ aK a0_0 l0_1 l0_2 l0_3).bind fun aT => (if aT = true then ((qBj.f k).bind fun aN => (some aN)) else (none))) else (none)) else (none))) = some r := H
 have A3 := am bT
 clear bT
 replace H := bm H
 obtain ⟨⟨ah, aj⟩, bU, H⟩ := H
 replace H : (if (strOfNums a9).toList = (strOfNums ah).toList then (if ag = aj then ((qBs.f aH aI aJ aK a0_0 l0_1 l0_2 l0_3).bind fun aT => (if aT = true then ((qBj.f k).bind fun aN => (some aN)) else (none))) else (none)) else (none)) = some r := H
 have A4 := am bU
 clear bU
 by_cases c5 : (strOfNums a9).toList = (strOfNums ah).toList
 ·rw [if_pos c5] at H
  have b0 : ((strOfNums a9).toList == (strOfNums ah).toList) = true := beq_iff_eq.mpr c5
  have b1 : ((strOfNums a9).toList != (strOfNums ah).toList) = false := bn c5
  clear c5
  by_cases c6 : ag = aj
  ·rw [if_pos c6] at H
   have b2 : (ag == aj) = true := beq_iff_eq.mpr c6
   clear c6
   replace H := bm H
   obtain ⟨aT, bV, H⟩ := H
   replace H : (if aT = true then ((qBj.f k).bind fun aN => (some aN)) else (none)) = some r := H
   have A7 := am bV
   clear bV
   by_cases c8 : aT = true
   ·subst c8
    replace H : ((qBj.f k).bind fun aN => (some aN)) = some r := by rw [if_pos rfl] at H; exact H
    replace H := bm H
    obtain ⟨aN, bW, H⟩ := H
    replace H : (some aN) = some r := H
    have A9 := am bW
    clear bW
    obtain rfl := Option.some.inj H
    go_enter Tryz.func4, Tryz.ntmps4
    go_wp2_with (first | ((with_reducible refine qAK (N := 1) rfl ?_); refine bx 1 #[.string a0_0, .slice aU l0_1.length aY, .slice aV l0_2.length aZ, .slice aW l0_3.length a4] 26 ?_; intro a6 hg b8 hbox hb; have n_ := a2 (qAe HB.o hb) (am (hbox)); clear HB; obtain ⟨HB, aB⟩ := n_; clear hb hbox hg; obtain ⟨al, an, ao, ap⟩ := c4_ b8 aB.o; have bI := qAx aB.o 3) | ((with_reducible refine qAi (f := 10) rfl ?_); refine gL 9 Tryz.func10 #[.agg #[.string a0_0, .slice aU l0_1.length aY, .slice aV l0_2.length aZ, .slice aW l0_3.length a4]] ?_; (with_reducible refine (qAq.calls k a0_0 _ _ l0_1 _ _ l0_2 _ _ l0_3 aH aI aJ aK _ ?side1 ?side2 ?side3 ?side4 ?side5 ?side6 A2.o).mono ?_); (case side1 => exact (Kd.C_below ad.o HB.o)); (case side2 => exact aa.o); (case side3 => exact (Kd.C_below ae.o HB.o)); (case side4 => exact ab.o); (case side5 => exact (Kd.C_below af.o HB.o)); (case side6 => exact ac.o); rintro e bb ⟨b3, b4, b5, rfl, ai, bX, bY, hb⟩; refine ⟨_, rfl, ?_⟩; have n_ := a2 (Kd.R_lower ai (qAf HB.o)) (a2 (Kd.S_lower bX (qAf HB.o)) (a2 (Kd.R_lower bY (qAf HB.o)) (a2 (qAk (g := a6) (o := .cells #[.string a0_0, .slice aU l0_1.length aY, .slice aV l0_2.length aZ, .slice aW l0_3.length a4] 26 (0, 0)) aB.o hb) (am (qAe HB.o hb))))); clear aB HB; obtain ⟨aD, aE, aF, aB, HB⟩ := n_) | ((with_reducible refine qAK (N := 3) rfl ?_); refine bx 3 #[.string ⟨#[]⟩, .slice none 0 0, .slice none 0 0, .slice none 0 0] 33 ?_; intro aA hg b9 hbox hb; have n_ := a2 (Kd.R_below aD.o hb) (a2 (Kd.S_below aE.o hb) (a2 (Kd.R_below aF.o hb) (a2 (qAk (g := a6) (o := .cells #[.string a0_0, .slice aU l0_1.length aY, .slice aV l0_2.length aZ, .slice aW l0_3.length a4] 26 (0, 0)) aB.o hb) (a2 (qAe HB.o hb) (a2 (hbox) (a2 (by rw [hg]; exact (qAf HB.o) : w.heap.size ≤ aA) (am (by rw [hg]; exact Nat.ne_of_lt (qBd (g := a6) (o := .cells #[.string a0_0, .slice aU l0_1.length aY, .slice aV l0_2.length aZ, .slice aW l0_3.length a4] 26 (0, 0)) aB.o) : a6 ≠ aA)))))))); clear aD aE aF aB HB; obtain ⟨aD, aE, aF, aB, HB, aC, ak, aM⟩ := n_; clear hb hbox hg; obtain ⟨aq, ar, au, av⟩ := c4_ b9 aC.o; obtain ⟨bJ, bK, bL, bM⟩ := z4_ aC.o; obtain ⟨aR, aP, bP⟩ := Kd.R_slice aD.o; subst bP; obtain ⟨aX, aS, bQ⟩ := Kd.S_slice aE.o; subst bQ; obtain ⟨a7, a5, bR⟩ := Kd.R_slice aF.o; subst bR) | ((with_reducible refine qAi (f := 13) rfl ?_); refine gL 12 Tryz.func13 #[.agg #[.string aH, .slice aR aI.length aP, .slice aX aJ.length aS, .slice a7 aK.length a5]] ?_; (with_reducible refine (qBg.calls aH _ _ aI _ _ aJ _ _ aK a9 ag _ ?side1 ?side2 ?side3 ?side4 ?side5 ?side6 A3.o).mono ?_); (case side1 => refine (Kd.R_reads' (e := 85) (base := w.heap.size) (ok := fun k_ => True) (n := aI.length) (c := aP) ?_).2.2; exact (by exact (Kd.R_mono (Kd.R_far (p := ⟨aA, 3, none⟩) (Kd.R_far (p := ⟨aA, 2, none⟩) (Kd.R_far (p := ⟨aA, 1, none⟩) (Kd.R_far (p := ⟨aA, 0, none⟩) (Kd.R_types aD.o aC.o (by decide)) (fun _ hk => hk.2) (.string aH)) (fun _ hk => hk.2) (.slice aR aI.length aP)) (fun _ hk => hk.2) (.slice aX aJ.length aS)) (fun _ hk => hk.2) (.slice a7 aK.length a5)) (fun _ h_ => h_.1)))); (case side2 => exact (Kd.R_reads' aD.o).2.1); (case side3 => refine (Kd.S_reads' (e := 92) (base := w.heap.size) (ok := fun k_ => True) (n := aJ.length) (c := aS) ?_).2.2; exact (by exact (Kd.S_mono (Kd.S_far (p := ⟨aA, 3, none⟩) (Kd.S_far (p := ⟨aA, 2, none⟩) (Kd.S_far (p := ⟨aA, 1, none⟩) (Kd.S_far (p := ⟨aA, 0, none⟩) (Kd.S_types aE.o aC.o (by decide)) (fun _ hk => hk.2) (.string aH)) (fun _ hk => hk.2) (.slice aR aI.length aP)) (fun _ hk => hk.2) (.slice aX aJ.length aS)) (fun _ hk => hk.2) (.slice a7 aK.length a5)) (fun _ h_ => h_.1)))); (case side4 => exact (Kd.S_reads' aE.o).2.1); (case side5 => refine (Kd.R_reads' (e := 104) (base := w.heap.size) (ok := fun k_ => True) (n := aK.length) (c := a5) ?_).2.2; exact (by exact (Kd.R_mono (Kd.R_far (p := ⟨aA, 3, none⟩) (Kd.R_far (p := ⟨aA, 2, none⟩) (Kd.R_far (p := ⟨aA, 1, none⟩) (Kd.R_far (p := ⟨aA, 0, none⟩) (Kd.R_types aF.o aC.o (by decide)) (fun _ hk => hk.2) (.string aH)) (fun _ hk => hk.2) (.slice aR aI.length aP)) (fun _ hk => hk.2) (.slice aX aJ.length aS)) (fun _ hk => hk.2) (.slice a7 aK.length a5)) (fun _ h_ => h_.1)))); (case side6 => exact (Kd.R_reads' aF.o).2.1); rintro e ba ⟨b6, rfl, ai, hb⟩; refine ⟨_, rfl, ?_⟩; have n_ := a2 (Kd.R_below (by exact (Kd.R_mono (Kd.R_far (p := ⟨aA, 3, none⟩) (Kd.R_far (p := ⟨aA, 2, none⟩) (Kd.R_far (p := ⟨aA, 1, none⟩) (Kd.R_far (p := ⟨aA, 0, none⟩) (Kd.R_types aD.o aC.o (by decide)) (fun _ hk => hk.2) (.string aH)) (fun _ hk => hk.2) (.slice aR aI.length aP)) (fun _ hk => hk.2) (.slice aX aJ.length aS)) (fun _ hk => hk.2) (.slice a7 aK.length a5)) (fun _ h_ => h_.1))) hb) (a2 (Kd.S_below (by exact (Kd.S_mono (Kd.S_far (p := ⟨aA, 3, none⟩) (Kd.S_far (p := ⟨aA, 2, none⟩) (Kd.S_far (p := ⟨aA, 1, none⟩) (Kd.S_far (p := ⟨aA, 0, none⟩) (Kd.S_types aE.o aC.o (by decide)) (fun _ hk => hk.2) (.string aH)) (fun _ hk => hk.2) (.slice aR aI.length aP)) (fun _ hk => hk.2) (.slice aX aJ.length aS)) (fun _ hk => hk.2) (.slice a7 aK.length a5)) (fun _ h_ => h_.1))) hb) (a2 (Kd.R_below (by exact (Kd.R_mono (Kd.R_far (p := ⟨aA, 3, none⟩) (Kd.R_far (p := ⟨aA, 2, none⟩) (Kd.R_far (p := ⟨aA, 1, none⟩) (Kd.R_far (p := ⟨aA, 0, none⟩) (Kd.R_types aF.o aC.o (by decide)) (fun _ hk => hk.2) (.string aH)) (fun _ hk => hk.2) (.slice aR aI.length aP)) (fun _ hk => hk.2) (.slice aX aJ.length aS)) (fun _ hk => hk.2) (.slice a7 aK.length a5)) (fun _ h_ => h_.1))) hb) (a2 (Kd.R_lower ai (qAf (by repeat (with_reducible first | exact HB.o | refine qA1 ?_ ak.o)))) (a2 (qAk (g := a6) (o := .cells #[.string a0_0, .slice aU l0_1.length aY, .slice aV l0_2.length aZ, .slice aW l0_3.length a4] 26 (0, 0)) (by refine qA2 ?_ aM.o _; refine qA2 ?_ aM.o _; refine qA2 ?_ aM.o _; refine qA2 ?_ aM.o _; exact aB.o) hb) (a2 (qAk (g := aA) (o := .cells #[.string aH, .slice aR aI.length aP, .slice aX aJ.length aS, .slice a7 aK.length a5] 33 (0, 0)) (by refine qA5 (cs := #[.string aH, .slice aR aI.length aP, .slice aX aJ.length aS, .slice none 0 0]) ?_ 3 _ rfl; refine qA5 (cs := #[.string aH, .slice aR aI.length aP, .slice none 0 0, .slice none 0 0]) ?_ 2 _ rfl; refine qA5 (cs := #[.string aH, .slice none 0 0, .slice none 0 0, .slice none 0 0]) ?_ 1 _ rfl; refine qA5 (cs := #[.string ⟨#[]⟩, .slice none 0 0, .slice none 0 0, .slice none 0 0]) ?_ 0 _ rfl; exact aC.o) hb) (am (qAe (by repeat (with_reducible first | exact HB.o | refine qA1 ?_ ak.o)) hb))))))); clear aD aE aF aB aC HB; obtain ⟨aD, aE, aF, aO, aB, aC, HB⟩ := n_; obtain ⟨aw, ax, ay, az⟩ := c4_ ba aB.o; have bN := qAx aB.o 3) | ((with_reducible refine qAi (f := 14) rfl ?_); refine gL 17 Tryz.func14 #[.agg #[.string a0_0, .slice aU l0_1.length aY, .slice aV l0_2.length aZ, .slice aW l0_3.length a4]] ?_; (with_reducible refine (qAg.calls k a0_0 _ _ l0_1 _ _ l0_2 _ _ l0_3 ah aj _ ?side1 ?side2 ?side3 ?side4 ?side5 ?side6 A4.o).mono ?_); (case side1 => exact (Kd.C_below ad.o HB.o)); (case side2 => exact aa.o); (case side3 => exact (Kd.C_below ae.o HB.o)); (case side4 => exact ab.o); (case side5 => exact (Kd.C_below af.o HB.o)); (case side6 => exact ac.o); rintro e bZ ⟨b7, rfl, ai, hb⟩; refine ⟨_, rfl, ?_⟩; have n_ := a2 (Kd.R_below aD.o hb) (a2 (Kd.S_below aE.o hb) (a2 (Kd.R_below aF.o hb) (a2 (Kd.R_elder' aO.o (Kd.R_base ai) hb) (a2 (Kd.R_lower (Kd.R_new' ai (Kd.R_lt aO.o)) (qAf HB.o)) (a2 (qAk (g := a6) (o := .cells #[.string a0_0, .slice aU l0_1.length aY, .slice aV l0_2.length aZ, .slice aW l0_3.length a4] 26 (0, 0)) aB.o hb) (a2 (qAk (g := aA) (o := .cells #[.string aH, .slice aR aI.length aP, .slice aX aJ.length aS, .slice a7 aK.length a5] 33 (0, 0)) aC.o hb) (am (qAe HB.o hb)))))))); clear aD aE aF aO aB aC HB; obtain ⟨aD, aE, aF, aO, a8, aB, aC, HB⟩ := n_; have hcv22 := qEB (P := Tryz.prog) Tryz.underlying38 Tryz.underlying5 Tryz.underlying9 (Kd.own_of_R aO.o); have hcv23 := qEB (P := Tryz.prog) Tryz.underlying38 Tryz.underlying5 Tryz.underlying9 (Kd.own_of_R a8.o); obtain ⟨bA, bB, bC, bD⟩ := c4_ bZ aC.o; obtain ⟨bE, bF, bG, bH⟩ := c4_ bZ aB.o; have bO := qAx aB.o 3) | (go_at_call 15; (with_reducible refine (qBs.calls aH _ _ aI _ _ aJ _ _ aK a0_0 _ _ l0_1 _ _ l0_2 _ _ l0_3 true _ ?side1 ?side2 ?side3 ?side4 ?side5 ?side6 ?side7 ?side8 ?side9 ?side10 ?side11 ?side12 A7.o).mono ?_); (case side1 => exact (Kd.R_reads' aD.o).2.2); (case side2 => exact (Kd.R_reads' aD.o).2.1); (case side3 => exact (Kd.S_reads' aE.o).2.2); (case side4 => exact (Kd.S_reads' aE.o).2.1); (case side5 => exact (Kd.R_reads' aF.o).2.2); (case side6 => exact (Kd.R_reads' aF.o).2.1); (case side7 => exact (Kd.C_below ad.o HB.o)); (case side8 => exact aa.o); (case side9 => exact (Kd.C_below ae.o HB.o)); (case side10 => exact ab.o); (case side11 => exact (Kd.C_below af.o HB.o)); (case side12 => exact ac.o); rintro e bc ⟨rfl, hb⟩; have n_ := a2 (Kd.R_below aD.o hb) (a2 (Kd.S_below aE.o hb) (a2 (Kd.R_below aF.o hb) (a2 (Kd.R_below aO.o hb) (a2 (Kd.R_below a8.o hb) (a2 (qAk (g := a6) (o := .cells #[.string a0_0, .slice aU l0_1.length aY, .slice aV l0_2.length aZ, .slice aW l0_3.length a4] 26 (0, 0)) aB.o hb) (a2 (qAk (g := aA) (o := .cells #[.string aH, .slice aR aI.length aP, .slice aX aJ.length aS, .slice a7 aK.length a5] 33 (0, 0)) aC.o hb) (am (qAe HB.o hb)))))))); clear aD aE aF aO a8 aB aC HB; obtain ⟨aD, aE, aF, aO, a8, aB, aC, HB⟩ := n_; (skip)) | (go_at_call 12; (with_reducible refine (qBj.calls k  aN _ A9.o).mono ?_); rintro e bd ⟨rfl, hb⟩; have n_ := am (qAe HB.o hb); clear aD aE aF aO a8 aB aC HB; have HB := n_; clear n_; (skip)))
    go_ret
    exact ⟨by rfl, by exact HB.o⟩
   ·replace c8 := Bool.eq_false_iff.mpr c8
    subst c8
    replace H : (none) = some r := by rw [if_neg (show ¬ (false = true) by decide)] at H; exact H
    exact absurd H (by simp)
  ·rw [if_neg c6] at H
   exact absurd H (by simp)
 ·rw [if_neg c5] at H
  exact absurd H (by simp)
end Q
end
section
namespace Q
open Go.RowKit PA PC PB
open Val Ins DecLaw Wr Enc
theorem rkinds_ev (l : List Int) (hl : l.length ≤ 1048576) : Ev (fun k => qAH.f k l) ([(l.length : Int) % 256] ++ byB l) := by
 have loop : ∀ (n : Nat) (i : Int) (acc : List Int), 0 ≤ i → (l.length : Int) - i = n → acc.length ≤ i + 1 → Ev (fun k => qAH.l0 k l acc i) (acc ++ byB (l.drop i.toNat)) := by
  intro n
  induction n with
  | zero =>
   intro i acc h0 hn hacc
   rw [List.drop_eq_nil_of_le (by omega), show byB [] = [] from rfl, List.append_nil]
   refine Ev.step (f := fun _ => some acc) (fun k => ?_) (Ev.now _)
   simp only [qAH.l0]
   rw [if_neg (by omega)]
  | succ n ih =>
   intro i acc h0 hn hacc
   have hw := qB1 (n := l.length) h0 (by omega) (by omega)
   have hrec := ih (i + 1) (acc ++ [rd l i % 256]) (by omega) (by omega) (by rw [List.length_append]; simp; omega)
   have hc := qAV l 0 i h0 (by omega)
   have hr : rd l i = l.getD i.toNat 0 := rfl
   rw [hc, show byB (l.getD i.toNat 0 :: l.drop (i + 1).toNat) = [rd l i % 256] ++ byB (l.drop (i + 1).toNat) from rfl, ← List.append_assoc]
   refine Ev.step (fun k => ?_) hrec
   simp only [qAH.l0]
   rw [if_pos (by omega), if_pos h0, if_pos (by omega), hw]
 have h := loop l.length 0 [(l.length : Int) % 256] (by omega) (by omega) (by simp)
 exact h
theorem width_ev (op : Int) (h1 : op ≠ 1) : Ev (fun k => qAs.f k op) (wid op) := by
 have hj : ∀ b : Bool, Ev (fun k => qAs.j0 k op b) (if b = true then 1 else if op = 4 ∨ op = 5 ∨ op = 8 ∨ op = 9 ∨ op = 10 ∨ op = 15 then 2 else 0) := fun b =>
  Ev.step (f := fun _ => some (if b = true then 1 else if op = 4 ∨ op = 5 ∨ op = 8 ∨ op = 9 ∨ op = 10 ∨ op = 15 then 2 else 0)) (fun k => by
    simp only [qAs.j0]
    (repeat' split) <;> first | rfl | (exfalso; omega)) (Ev.now _)
 have e : ∀ k, qAs.f k op = qAs.j0 k op (decide (op = 2 ∨ op = 3 ∨ op = 6 ∨ op = 7)) := fun k => by
  unfold qAs.f
  by_cases a : op = 2
  ·subst a; rfl
  by_cases b : op = 3
  ·subst b; rfl
  by_cases c : op = 6
  ·subst c; rfl
  rw [if_neg a, if_neg b, if_neg c]
  congr 1
  by_cases d : op = 7
  ·subst d; rfl
  rw [beq_eq_false_iff_ne.mpr d]; symm; exact decide_eq_false (by omega)
 have h := Ev.congr e (hj (decide (op = 2 ∨ op = 3 ∨ op = 6 ∨ op = 7)))
 have hv : (if decide (op = 2 ∨ op = 3 ∨ op = 6 ∨ op = 7) = true then (1 : Int) else if op = 4 ∨ op = 5 ∨ op = 8 ∨ op = 9 ∨ op = 10 ∨ op = 15 then 2 else 0) = wid op := by
  unfold wid
  rw [if_neg h1]
  simp only [decide_eq_true_eq]
 rw [hv] at h
 exact h
theorem be_one (n : Int) : be n 1 1 = [n % 256] := by simp [be, List.range_succ]
theorem be_two (n : Int) : be n 2 2 = [n / 256 % 256, n % 256] := by simp [be, List.range_succ]
theorem rins_loop (n x0 x1 x2 : Int) (pre : List Int) (hp : pre.length ≤ 2) : ∀ (d j : Nat), j + d = 8 → Ev (fun k => qAD.l0 k (pre ++ be n 8 j) (56 - 8 * (j : Int)) x0 x1 x2 n) (pre ++ be n 8 8) := by
 intro d
 induction d with
 | zero =>
  intro j hj
  obtain rfl : j = 8 := by omega
  refine Ev.step (f := fun _ => some (pre ++ be n 8 8)) (fun k => ?_) (Ev.now _)
  simp only [qAD.l0]
  rw [if_neg (by omega)]
 | succ d ih =>
  intro j hj
  have hw : IntKind.u64.wrap (56 - 8 * (j : Int)) = 56 - 8 * (j : Int) := by simp [IntKind.wrap, IntKind.bits, IntKind.signed]; omega
  have hs : shr .u64 n (56 - 8 * (j : Int)) % 256 = n / 2 ^ (8 * (8 - 1 - j)) % 256 := by
   unfold shr
   rw [show min (56 - 8 * (j : Int)).toNat IntKind.u64.bits = 8 * (8 - 1 - j) from by simp [IntKind.bits]; omega]
  refine Ev.step (fun k => ?_) (ih (j + 1) (by omega))
  simp only [qAD.l0]
  rw [if_pos (by omega), hw, if_pos (by omega), if_pos (by rw [List.length_append, qAQ]; omega), hs, List.append_assoc, ← be_succ, show wrap64 (56 - 8 * (j : Int) - 8) = 56 - 8 * ((j + 1 : Nat) : Int) from by unfold wrap64; omega]
theorem rins_ev (x : S144) (hok : okS x = true) : Ev (fun k => qAD.f k x.f0 x.f1 x.f2.f0 x.f2.f1) (insB (toD x)) := by
 unfold insB
 show Ev _ ((x.f0 % 256) :: (if x.f0 = 1 then (x.f2.f0 % 256) :: be x.f2.f1 8 8 else be x.f1 (widN x.f0) (widN x.f0)))
 by_cases h1 : x.f0 = 1
 ·rw [if_pos h1]
  refine Ev.congr (fun k => ?_) (rins_loop x.f2.f1 x.f0 x.f1 x.f2.f0 [x.f0 % 256, x.f2.f0 % 256] (by simp) 8 0 rfl)
  unfold qAD.f
  rw [Option.bind_some, if_pos h1, if_pos (by simp)]
  rfl
 rw [if_neg h1]
 have hw := width_ev x.f0 h1
 have hw3 : wid x.f0 = 0 ∨ wid x.f0 = 1 ∨ wid x.f0 = 2 := by
  unfold wid
  rw [if_neg h1]
  (repeat' split) <;> simp
 have hun : ∀ k, qAD.f k x.f0 x.f1 x.f2.f0 x.f2.f1 = (qAs.f k x.f0).bind fun t451 => (if t451 = 2 then ((qAs.f k x.f0).bind fun t455 => (if t455 > 0 then some ([x.f0 % 256] ++ [(x.f1 / 256) % 256] ++ [x.f1 % 256]) else some ([x.f0 % 256] ++ [(x.f1 / 256) % 256]))) else ((qAs.f k x.f0).bind fun t459 => (if t459 > 0 then some ([x.f0 % 256] ++ [x.f1 % 256]) else some [x.f0 % 256]))) := fun k => by
  unfold qAD.f
  rw [Option.bind_some, if_neg h1]
  simp only [List.length_append, List.length_cons, List.length_nil, Option.bind_some, show (0 + 1 < 140737488355328) = True from by simp, show (0 + 1 + (0 + 1) < 140737488355328) = True from by simp, if_true]
 refine Ev.congr hun (Ev.bind hw ?_)
 rcases hw3 with e | e | e
 ·have e2 : widN x.f0 = 0 := by unfold widN; rw [e]; rfl
  rw [e2, show be x.f1 0 0 = [] from rfl]
  simp only [e, show ¬ ((0 : Int) = 2) from by decide, if_false]
  refine Ev.bind hw ?_
  simp only [e]
  exact Ev.now _
 ·have e2 : widN x.f0 = 1 := by unfold widN; rw [e]; rfl
  rw [e2, be_one]
  simp only [e, show ¬ ((1 : Int) = 2) from by decide, if_false]
  refine Ev.bind hw ?_
  simp only [e]
  exact Ev.now _
 have e2 : widN x.f0 = 2 := by unfold widN; rw [e]; rfl
 rw [e2, be_two]
 simp only [e, if_true]
 refine Ev.bind hw ?_
 simp only [e]
 exact Ev.now _
theorem renc_ev (l : List S144) (hok : l.all okS = true) (hu : l.all u64S = true) (hl : l.length ≤ 4096) : Ev (fun k => qA8.f k (l.map toRI)) (encB (l.map toD), 0) := by
 have loop : ∀ (n : Nat) (j : Nat) (acc : List Int), j + n = l.length → acc.length ≤ 10 * j → Ev (fun k => qA8.l0 k (l.map toRI) acc (j : Int)) (acc ++ encB ((l.drop j).map toD), 0) := by
  intro n
  induction n with
  | zero =>
   intro j acc hn hacc
   rw [List.drop_eq_nil_of_le (by omega), show encB (([] : List S144).map toD) = [] from rfl, List.append_nil]
   refine Ev.step (f := fun _ => some (acc, 0)) (fun k => ?_) (Ev.now _)
   simp only [qA8.l0]
   rw [if_neg (by rw [List.length_map]; omega)]
  | succ n ih =>
   intro j acc hn hacc
   have hj : j < l.length := by omega
   have hx : qAv (l.map toRI) (j : Int) = toRI (l.getD j z144) := qCR toRI l _ _ (j : Int) (by omega) (by omega)
   have hm := qCc l z144 (j : Int) (by omega) (by omega)
   rw [Int.toNat_natCast] at hm
   have hc := qAV l z144 (j : Int) (by omega) (by omega)
   rw [Int.toNat_natCast, show ((j : Int) + 1).toNat = j + 1 from by omega] at hc
   rw [hc]
   generalize l.getD j z144 = x at hx hm
   have ho : okS x = true := List.all_eq_true.1 hok x hm
   have hux : u64S x = true := List.all_eq_true.1 hu x hm
   have hux' : 0 ≤ x.f2.f1 ∧ x.f2.f1 < 18446744073709551616 := of_decide_eq_true hux
   have hr : qBh.f x.f0 x.f1 x.f2.f0 x.f2.f1 = some true := by
    unfold qBh.f
    rw [if_pos hux']
    exact congrArg some ho
   have hil := qFr (toD x)
   have hrec := ih (j + 1) (acc ++ insB (toD x)) (by omega) (by rw [List.length_append]; omega)
   rw [show encB ((x :: l.drop (j + 1)).map toD) = insB (toD x) ++ encB ((l.drop (j + 1)).map toD) from rfl, ← List.append_assoc]
   refine Ev.step (f := fun k => (qAD.f k x.f0 x.f1 x.f2.f0 x.f2.f1).bind fun t => if acc.length + t.length < 140737488355328 then qA8.l0 k (l.map toRI) (acc ++ t) (((j + 1 : Nat) : Int)) else none) (fun k => ?_) (Ev.bind (rins_ev x ho) ?_)
   ·simp only [qA8.l0]
    rw [if_pos (by rw [List.length_map]; omega), if_pos (by omega), hx]
    simp only [toRI]
    rw [hr, Option.bind_some, if_pos rfl, show wrap64 ((j : Int) + 1) = ((j + 1 : Nat) : Int) from by unfold wrap64; omega]
   have : acc.length + (insB (toD x)).length < 140737488355328 := by omega
   simp only [this, if_true]
   exact hrec
 refine Ev.congr (fun k => ?_) (loop l.length 0 [] (by omega) (by simp))
 unfold qA8.f
 rw [if_neg (by rw [List.length_map]; omega)]
 rfl
theorem rfn_ev (a : List Int) (b : Int) (c : List Int) (d : List S144) (ha : a.length ≤ 8) (hc : c.length ≤ 64) (hok : d.all okS = true) (hu : d.all u64S = true) (hd : d.length ≤ 4096) : Ev (fun k => qAN.f k a b c (d.map toRI)) (fnB a b c d) := by
 have he := encB_len (d.map toD)
 rw [List.length_map] at he
 have hb1 : ∀ l : List Int, (byB l).length = l.length := fun l => List.length_map _
 unfold qAN.f
 refine Ev.bind (rkinds_ev a (by omega)) ?_
 have c1 : ([(a.length : Int) % 256] ++ byB a).length + [b % 256].length < 140737488355328 := by simp only [List.length_append, List.length_cons, List.length_nil, hb1]; omega
 simp only [Option.bind_some, c1, if_true]
 refine Ev.bind (rkinds_ev c (by omega)) ?_
 have c2 : ([(a.length : Int) % 256] ++ byB a ++ [b % 256]).length + ([(c.length : Int) % 256] ++ byB c).length < 140737488355328 := by simp only [List.length_append, List.length_cons, List.length_nil, hb1]; omega
 simp only [c2, if_true]
 refine Ev.bind (renc_ev d hok hu hd) ?_
 have hraw : qBp.f (encB (d.map toD)) = some (rawB (encB (d.map toD))) := if_pos (by omega)
 have c3 : ([(a.length : Int) % 256] ++ byB a ++ [b % 256] ++ ([(c.length : Int) % 256] ++ byB c)).length + (rawB (encB (d.map toD))).length < 140737488355328 := by simp only [List.length_append, List.length_cons, List.length_nil, hb1, rawB_len]; omega
 simp only [hraw, Option.bind_some, c3, if_true]
 rw [show [(a.length : Int) % 256] ++ byB a ++ [b % 256] ++ ([(c.length : Int) % 256] ++ byB c) ++ rawB (encB (d.map toD)) = fnB a b c d from by unfold fnB; simp only [List.append_assoc]]
 exact Ev.now _
theorem qEp (s : ByteArray) (h : s.size ≤ 32) : qA7.f s = some (rawB (qBu s)) := if_pos (by omega)
def finP (b : List Int) : List Int × Int := if 16384 < b.length then ([], 3) else (b, 0)
section
variable (m : ByteArray) (vs : List S85) (fs : List S92) (rs : List S104)
theorem rp2_ev (h : qD0 m vs fs rs) (hg : qDl m vs fs rs) : ∀ (n j : Nat) (acc : List Int), j + n = rs.length → acc.length + n * 77 ≤ 100000000 →
  Ev (fun k => qAg.l2 k acc (j : Int) m (vs.map toRV) (fs.map toRN) (rs.map toRR)) (finP (acc ++ (rs.drop j).flatMap relB)) := by
 have hrl := h.rels
 intro n
 induction n with
 | zero =>
  intro j acc hn hacc
  rw [List.drop_eq_nil_of_le (by omega), List.flatMap_nil, List.append_nil]
  refine Ev.step (f := fun _ => some (finP acc)) (fun k => ?_) (Ev.now _)
  simp only [qAg.l2]
  rw [if_neg (by rw [List.length_map]; omega)]
  unfold finP
  by_cases hb : 16384 < acc.length
  ·rw [if_pos hb, if_pos (by omega)]
  rw [if_neg hb, if_neg (by omega)]
 | succ n ih =>
  intro j acc hn hacc
  have hj : j < rs.length := by omega
  have hx : qAj (rs.map toRR) (j : Int) = toRR (rs.getD j z104) := qCR toRR rs _ _ (j : Int) (by omega) (by omega)
  have hm := qCc rs z104 (j : Int) (by omega) (by omega)
  rw [Int.toNat_natCast] at hm
  have hc := qAV rs z104 (j : Int) (by omega) (by omega)
  rw [Int.toNat_natCast, show ((j : Int) + 1).toNat = j + 1 from by omega] at hc
  rw [hc, List.flatMap_cons]
  generalize rs.getD j z104 = x at hx hm
  obtain ⟨a0, a1, a2, a3⟩ := h.at_ x hm
  obtain ⟨n3, n4⟩ := h.r x hm
  have s3 := Names.size_le_of_ok n3
  have s4 := Names.size_le_of_ok n4
  have l3 := qBS x.f3
  have l4 := qBS x.f4
  have hlen := relB_len x s3 s4
  have hrec := ih (j + 1) (acc ++ relB x) (by omega) (by rw [List.length_append]; omega)
  rw [← List.append_assoc]
  refine Ev.step (f := fun k => (qBl.f k x.f0).bind fun t567 => (if acc.length + t567.length < 140737488355328 then ((qBl.f k x.f1).bind fun t573 => (if (acc ++ t567).length + t573.length < 140737488355328 then (if (acc ++ t567 ++ t573).length < 140737488355328 then (if (acc ++ t567 ++ t573 ++ [x.f2 % 256]).length + (rawB (qBu x.f3)).length < 140737488355328 then (if (acc ++ t567 ++ t573 ++ [x.f2 % 256] ++ rawB (qBu x.f3)).length + (rawB (qBu x.f4)).length < 140737488355328 then (qAg.l2 k (acc ++ t567 ++ t573 ++ [x.f2 % 256] ++ rawB (qBu x.f3) ++ rawB (qBu x.f4)) ((j + 1 : Nat) : Int) m (vs.map toRV) (fs.map toRN) (rs.map toRR)) else none) else none) else none) else none)) else none)) (fun k => ?_) (Ev.bind (rshort_ev x.f0 a0 (by omega)) ?_)
  ·simp only [qAg.l2]
   rw [if_pos (by rw [List.length_map]; omega), if_pos (by omega), hx]
   simp only [toRR, Option.bind_some, qEp x.f3 s3, qEp x.f4 s4]
   rw [show wrap64 ((j : Int) + 1) = ((j + 1 : Nat) : Int) from by unfold wrap64; omega]
  have c1 : acc.length + (be x.f0 2 2).length < 140737488355328 := by rw [qAQ]; omega
  simp only [c1, if_true]
  refine Ev.bind (rshort_ev x.f1 a2 (by omega)) ?_
  have c2 : (acc ++ be x.f0 2 2).length + (be x.f1 2 2).length < 140737488355328 := by simp only [List.length_append, qAQ]; omega
  have c3 : (acc ++ be x.f0 2 2 ++ be x.f1 2 2).length < 140737488355328 := by simp only [List.length_append, qAQ]; omega
  have c4 : (acc ++ be x.f0 2 2 ++ be x.f1 2 2 ++ [x.f2 % 256]).length + (rawB (qBu x.f3)).length < 140737488355328 := by simp only [List.length_append, qAQ, List.length_cons, List.length_nil]; omega
  have c5 : (acc ++ be x.f0 2 2 ++ be x.f1 2 2 ++ [x.f2 % 256] ++ rawB (qBu x.f3)).length + (rawB (qBu x.f4)).length < 140737488355328 := by simp only [List.length_append, qAQ, List.length_cons, List.length_nil]; omega
  simp only [c2, c3, c4, c5, if_true]
  rw [show acc ++ be x.f0 2 2 ++ be x.f1 2 2 ++ [x.f2 % 256] ++ rawB (qBu x.f3) ++ rawB (qBu x.f4) = acc ++ relB x from by unfold relB; simp only [List.append_assoc]]
  exact hrec
theorem rp1_ev (h : qD0 m vs fs rs) (hg : qDl m vs fs rs) : ∀ (n j : Nat) (acc : List Int), j + n = fs.length → acc.length + n * 41100 ≤ 10000000 →
  Ev (fun k => qAg.l1 k acc (j : Int) m (vs.map toRV) (fs.map toRN) (rs.map toRR)) (finP (acc ++ ((fs.drop j).flatMap nfnB ++ (be rs.length 4 4 ++ rs.flatMap relB)))) := by
 have hrl := h.rels
 have hcn := h.n
 intro n
 induction n with
 | zero =>
  intro j acc hn hacc
  rw [List.drop_eq_nil_of_le (by omega), List.flatMap_nil, List.nil_append, ← List.append_assoc]
  have h2 := rp2_ev m vs fs rs h hg rs.length 0 (acc ++ be rs.length 4 4) (by omega) (by rw [List.length_append, qAQ]; omega)
  rw [List.drop_zero] at h2
  refine Ev.step (f := fun k => (qBb.f k (rs.length : Int)).bind fun t => (if acc.length + t.length < 140737488355328 then qAg.l2 k (acc ++ t) 0 m (vs.map toRV) (fs.map toRN) (rs.map toRR) else none)) (fun k => ?_) (Ev.bind (qF6 rs.length (by omega) (by omega)) ?_)
  ·simp only [qAg.l1]
   rw [if_neg (by rw [List.length_map]; omega), List.length_map]
  have c1 : acc.length + (be (rs.length : Int) 4 4).length < 140737488355328 := by rw [qAQ]; omega
  simp only [c1, if_true]
  exact h2
 | succ n ih =>
  intro j acc hn hacc
  have hj : j < fs.length := by omega
  have hx : qAz (fs.map toRN) (j : Int) = toRN (fs.getD j z92) := qCR toRN fs _ _ (j : Int) (by omega) (by omega)
  have hm := qCc fs z92 (j : Int) (by omega) (by omega)
  rw [Int.toNat_natCast] at hm
  have hc := qAV fs z92 (j : Int) (by omega) (by omega)
  rw [Int.toNat_natCast, show ((j : Int) + 1).toNat = j + 1 from by omega] at hc
  rw [hc, List.flatMap_cons]
  generalize fs.getD j z92 = x at hx hm
  obtain ⟨n0, n1⟩ := h.f x hm
  obtain ⟨_, _, _, _, g5⟩ := hg.f x hm
  have s0 := Names.size_le_of_ok n0
  have l0 := qBS x.f0
  have hk : fnOk x = true := n1
  unfold fnOk okFn at hk
  simp only [Bool.and_eq_true, Bool.or_eq_true, decide_eq_true_eq, beq_iff_eq] at hk
  obtain ⟨⟨⟨⟨⟨⟨k0, k1⟩, k2⟩, k3⟩, k4⟩, k5⟩, k6⟩ := hk
  have hlen := nfnB_len x s0 ⟨k0, k3, k5, k6, g5⟩
  have hfl := fnB_len x.f1.f0.f0 x.f1.f0.f1 x.f1.f1 x.f1.f2 k0 k3 k5
  have hrec := ih (j + 1) (acc ++ nfnB x) (by omega) (by rw [List.length_append]; omega)
  rw [List.append_assoc, ← List.append_assoc acc]
  refine Ev.step (f := fun k => (if acc.length + (rawB (qBu x.f0)).length < 140737488355328 then ((qAN.f k x.f1.f0.f0 x.f1.f0.f1 x.f1.f1 (x.f1.f2.map toRI)).bind fun t => (if (acc ++ rawB (qBu x.f0)).length + t.length < 140737488355328 then qAg.l1 k (acc ++ rawB (qBu x.f0) ++ t) ((j + 1 : Nat) : Int) m (vs.map toRV) (fs.map toRN) (rs.map toRR) else none)) else none)) (fun k => ?_) ?_
  ·simp only [qAg.l1]
   rw [if_pos (by rw [List.length_map]; omega), if_pos (by omega), hx]
   simp only [toRN, Option.bind_some, qEp x.f0 s0]
   rw [show wrap64 ((j : Int) + 1) = ((j + 1 : Nat) : Int) from by unfold wrap64; omega]
  have c1 : acc.length + (rawB (qBu x.f0)).length < 140737488355328 := by omega
  simp only [c1, if_true]
  refine Ev.bind (rfn_ev _ _ _ _ k0 k3 k6 g5 k5) ?_
  have c2 : (acc ++ rawB (qBu x.f0)).length + (fnB x.f1.f0.f0 x.f1.f0.f1 x.f1.f1 x.f1.f2).length < 140737488355328 := by simp only [List.length_append]; omega
  simp only [c2, if_true]
  rw [List.append_assoc acc]
  exact hrec
theorem rp0_ev (h : qD0 m vs fs rs) (hg : qDl m vs fs rs) : ∀ (n j : Nat) (acc : List Int), j + n = vs.length → acc.length + n * 45 ≤ 1000000 →
  Ev (fun k => qAg.l0 k acc (j : Int) m (vs.map toRV) (fs.map toRN) (rs.map toRR)) (finP (acc ++ ((vs.drop j).flatMap varB ++ ((be fs.length 4 4 ++ fs.flatMap nfnB) ++ (be rs.length 4 4 ++ rs.flatMap relB))))) := by
 have hcn := h.n
 intro n
 induction n with
 | zero =>
  intro j acc hn hacc
  rw [List.drop_eq_nil_of_le (by omega), List.flatMap_nil, List.nil_append, List.append_assoc (be fs.length 4 4), ← List.append_assoc acc]
  have h2 := rp1_ev m vs fs rs h hg fs.length 0 (acc ++ be fs.length 4 4) (by omega) (by rw [List.length_append, qAQ]; omega)
  rw [List.drop_zero] at h2
  refine Ev.step (f := fun k => (qBb.f k (fs.length : Int)).bind fun t => (if acc.length + t.length < 140737488355328 then qAg.l1 k (acc ++ t) 0 m (vs.map toRV) (fs.map toRN) (rs.map toRR) else none)) (fun k => ?_) (Ev.bind (qF6 fs.length (by omega) (by omega)) ?_)
  ·simp only [qAg.l0]
   rw [if_neg (by rw [List.length_map]; omega), List.length_map]
  have c1 : acc.length + (be (fs.length : Int) 4 4).length < 140737488355328 := by rw [qAQ]; omega
  simp only [c1, if_true]
  exact h2
 | succ n ih =>
  intro j acc hn hacc
  have hj : j < vs.length := by omega
  have hx : qBq (vs.map toRV) (j : Int) = toRV (vs.getD j z85) := qCR toRV vs _ _ (j : Int) (by omega) (by omega)
  have hm := qCc vs z85 (j : Int) (by omega) (by omega)
  rw [Int.toNat_natCast] at hm
  have hc := qAV vs z85 (j : Int) (by omega) (by omega)
  rw [Int.toNat_natCast, show ((j : Int) + 1).toNat = j + 1 from by omega] at hc
  rw [hc, List.flatMap_cons]
  generalize vs.getD j z85 = x at hx hm
  obtain ⟨n0, _⟩ := h.v x hm
  have s0 := Names.size_le_of_ok n0
  have l0 := qBS x.f0
  have hlen := varB_len x s0
  have hrec := ih (j + 1) (acc ++ varB x) (by omega) (by rw [List.length_append]; omega)
  rw [List.append_assoc, ← List.append_assoc acc]
  refine Ev.step (f := fun k => (if acc.length + (rawB (qBu x.f0)).length < 140737488355328 then (if (acc ++ rawB (qBu x.f0)).length < 140737488355328 then ((qAA.f k x.f1.f1).bind fun t => (if (acc ++ rawB (qBu x.f0) ++ [x.f1.f0 % 256]).length + t.length < 140737488355328 then qAg.l0 k (acc ++ rawB (qBu x.f0) ++ [x.f1.f0 % 256] ++ t) ((j + 1 : Nat) : Int) m (vs.map toRV) (fs.map toRN) (rs.map toRR) else none)) else none) else none)) (fun k => ?_) ?_
  ·simp only [qAg.l0]
   rw [if_pos (by rw [List.length_map]; omega), if_pos (by omega), hx]
   simp only [toRV, Option.bind_some, qEp x.f0 s0]
   rw [show wrap64 ((j : Int) + 1) = ((j + 1 : Nat) : Int) from by unfold wrap64; omega]
  have c1 : acc.length + (rawB (qBu x.f0)).length < 140737488355328 := by omega
  have c2 : (acc ++ rawB (qBu x.f0)).length < 140737488355328 := by rw [List.length_append]; omega
  simp only [c1, c2, if_true]
  refine Ev.bind (rlong_ev x.f1.f1) ?_
  have c3 : (acc ++ rawB (qBu x.f0) ++ [x.f1.f0 % 256]).length + (be x.f1.f1 8 8).length < 140737488355328 := by simp only [List.length_append, qAQ, List.length_cons, List.length_nil]; omega
  simp only [c3, if_true]
  rw [show acc ++ rawB (qBu x.f0) ++ [x.f1.f0 % 256] ++ be x.f1.f1 8 8 = acc ++ varB x from by unfold varB; simp only [List.append_assoc]]
  exact hrec
theorem rpack_ev (hg : qDl m vs fs rs) : Ev (fun k => qAg.f k m (vs.map toRV) (fs.map toRN) (rs.map toRR)) (if qBR m vs fs rs ≠ 0 then ([], qBR m vs fs rs) else finP (qCo m vs fs rs)) := by
 unfold qAg.f
 refine Ev.bind (rright_ev m vs fs rs hg) ?_
 by_cases h0 : qBR m vs fs rs = 0
 rotate_left
 ·rw [if_pos h0]
  simp only [h0, if_false]
  exact Ev.now _
 rw [if_neg (fun q => q h0)]
 simp only [h0, if_true, Option.bind_some]
 have h := qD0.of h0
 have hcn := h.n
 have s0 := Names.size_le_of_ok h.m
 have l0 := qBS m
 have c1 : ([102, 111, 98, 106] : List Int).length + (rawB (qBu m)).length < 140737488355328 := by simp only [List.length_cons, List.length_nil]; omega
 simp only [qEp m s0, Option.bind_some, c1, if_true, List.length_map]
 refine Ev.bind (qF6 vs.length (by omega) (by omega)) ?_
 have c2 : (([102, 111, 98, 106] : List Int) ++ rawB (qBu m)).length + (be (vs.length : Int) 4 4).length < 140737488355328 := by simp only [List.length_append, qAQ, List.length_cons, List.length_nil]; omega
 simp only [c2, if_true]
 have h2 := rp0_ev m vs fs rs h hg vs.length 0 (([102, 111, 98, 106] : List Int) ++ rawB (qBu m) ++ be vs.length 4 4) (by omega) (by simp only [List.length_append, qAQ, List.length_cons, List.length_nil]; omega)
 rw [List.drop_zero] at h2
 rw [show qCo m vs fs rs = ([102, 111, 98, 106] : List Int) ++ rawB (qBu m) ++ be vs.length 4 4 ++ (vs.flatMap varB ++ ((be fs.length 4 4 ++ fs.flatMap nfnB) ++ (be rs.length 4 4 ++ rs.flatMap relB))) from by unfold qCo; simp only [List.append_assoc]]
 exact h2
end
theorem packs_ev (m : ByteArray) (vs : List S95) (fs : List S100) (rs : List S103) (g : qBT 1048576 ⟨m, vs, fs, rs⟩) : Ev (fun k => foundrylaw15_ObjectPacks.f k m vs fs rs) true := by
 have hg := own_good m vs fs rs g
 have hx : ∀ x ∈ fs, x.f1.f0.f0.length ≤ 1048576 ∧ x.f1.f1.length ≤ 1048576 ∧ x.f1.f2.length ≤ 1048576 := fun x hx => by
  obtain ⟨_, ⟨⟨h1, _⟩, _⟩, ⟨h2, _⟩, ⟨h3, _⟩⟩ := g.2.2.1.2 x hx
  exact ⟨h1, h2, h3⟩
 have ho := own_ev m vs fs rs g.2.2.2.1 g.2.2.1.1 g.2.1.1 hx
 have h2 := rpack_ev m (vs.map ofRV) (fs.map ofRN) (rs.map ofRR) hg
 have hl := like_same m (vs.map ofRV) (fs.map ofRN) (rs.map ofRR) hg
 rw [to_ofV, to_ofN, to_ofR] at h2 hl
 have hp : qBg.f m (vs.map ofRV) (fs.map ofRN) (rs.map ofRR) = some (if qBR m (vs.map ofRV) (fs.map ofRN) (rs.map ofRR) ≠ 0 then ([], qBR m (vs.map ofRV) (fs.map ofRN) (rs.map ofRR)) else finP (qCo m (vs.map ofRV) (fs.map ofRN) (rs.map ofRR))) := by
  unfold qBg.f finP
  rw [if_pos hg]
  (repeat' split) <;> rfl
 unfold foundrylaw15_ObjectPacks.f
 refine Ev.bind ho ?_
 simp only [hp, Option.bind_some]
 refine Ev.bind h2 ?_
 simp only [if_true, hl, Option.bind_some]
 exact Ev.bind alive_ev (Ev.now _)
end Q
end
section
namespace objectPacks
open Go.ChangeShapes Go.WideShapes Go.ChangeAt Go.RowKit
theorem own : ownKnob Tryz.prog.godebug = none := by kernel_rfl
theorem laidOut : laidOutB Tryz.prog = true := by kernel_rfl
theorem lifted (os : Os) (started : os.Started) (H : Type) (enc : TypeId × Value → H) (F : Stop.Interp) :
  ReturnsInHanded {} Tryz.checked os 4 .any ((Rows.OpenSpec.upto Rows.objectPacksSpec).pre6 enc Tryz.prog Tryz.f4 Rows.objectPacksUptoRow.domain false) (((Rows.OpenSpec.upto Rows.objectPacksSpec).at F).post enc Tryz.prog Tryz.f4 false true false false) := by
 refine returnsInHanded_of_cond (C := Tryz.checked) (s := Rows.OpenSpec.upto Rows.objectPacksSpec) (k := Rows.uptoSmall) rfl own started (by kernel_rfl) Tryz.func4
  (OpenSpec.witness (enc := enc) (C := Tryz.checked) (s := Rows.OpenSpec.upto Rows.objectPacksSpec) (k := Rows.uptoSmall) rfl false ⟨#[], #[.agg #[.string ⟨#[]⟩, .slice none 0 0, .slice none 0 0, .slice none 0 0]], []⟩ 8 (by kernel_rfl) (by kernel_rfl) (by kernel_rfl)
    (x := ([.agg [.lit (.string []), .nil, .nil, .nil]], [], [])) (by kernel_rfl) rfl (by kernel_rfl)) ?_
 intro W base args ds gs before hval0 hW hcnd hk0 _
 have hval : ∀ (j : Nat) t v, Tryz.f4.params[j]? = some t → args[j]? = some v → Value.okWide Tryz.prog W .any base t v := hval0
 have hW' := hW
 obtain ⟨p, q, hA0, hV, rfl, hfz, hnd⟩ := hW
 have hA : DataW.TrodAll enc Tryz.prog W 0 (fun _ => true) true Tryz.f4.params.toList args.toList ds p := hA0
 rw [Tryz.params4] at hA hval
 obtain ⟨v0, vs0, d0, ds0, p0, q0, hargs, rfl, rfl, h0, r0⟩ := trodAll_cons hA
 obtain ⟨rfl, rfl, rfl⟩ := trodAll_nil r0
 obtain rfl : args = #[v0] := by cases args; simp_all
 obtain ⟨rfl, rfl⟩ := trodVars_none hV
 have hk : Rows.uptoBulkAll ([d0] ++ []) ≤ 1048576 := of_decide_eq_true hk0
 simp only [List.append_nil, Rows.uptoBulkAll] at hk
 have k0 := h0
 have lt0 : ∀ x ∈ p0, x.block < W.heap.size := by obtain ⟨m, hm⟩ := k0; exact DataW.trod_lt m _ _ _ hm
 obtain ⟨cs, rfl, hsz⟩ := okWide_struct Tryz.underlying26 (hval 0 26 v0 rfl rfl)
 obtain ⟨fuel, hf⟩ := h0
 obtain ⟨x, hK, hG⟩ := Q.opens_foundryref15_Object W 1048576 H enc 0 (fun _ => true) true fuel _ _ hf (by show Rows.uptoBulk d0 ≤ _; omega)
 obtain ⟨A1, c1, A2, c2, A3, c3, he, l1, g1, l2, g2, l3, g3⟩ := Q.k26_open hK
 obtain rfl : cs = #[.string x.f0, .slice A1 x.f1.length c1, .slice A2 x.f2.length c2, .slice A3 x.f3.length c3] := Array.ext' he
 obtain ⟨k, hkk⟩ := (Q.packs_ev x.f0 x.f1 x.f2 x.f3 hG).rounds
 clear hA0 hval0 hf hK
 refine (Q.foundrylaw15_ObjectPacks.calls k x.f0 A1 c1 x.f1 A2 c2 x.f2 A3 c3 x.f3 true W g1 l1 g2 l2 g3 l3 hkk).mono fun e W' ⟨he', bel⟩ => ?_
 subst he'
 exact ⟨_, rfl, _, _, _, [], _, [], hW', trodAll_mk1 (shut_bool Tryz.underlying4 _), (trodAll_cons_mk (Below.trod laidOut (by kernel_rfl) (of_decide_eq_true (by kernel_rfl)) k0 bel lt0) trodAll_mk0), rfl, bel.frame _, fun h => by cases h⟩
theorem over : Rows.objectPacksUptoRow.holds Tryz.pinned (Rows.OpenSpec.upto Rows.objectPacksSpec) :=
 OpenClaim.holds_of_cond 4 Tryz.f4 rfl rfl rfl rfl rfl rfl rfl ⟨rfl, rfl, rfl, rfl, rfl⟩ rfl rfl rfl rfl rfl (by kernel_rfl) Tryz.func4 (by kernel_rfl)
  (of_decide_eq_true (by kernel_rfl)) (by unfold Func.isWrapper; first | (rw [if_pos (by decide +kernel)]; kernel_rfl) | (rw [if_neg (by decide +kernel)]; exact ⟨rfl, rfl⟩))
  (fun os started H enc _ F => lifted os started H enc F)
theorem proved : Rows.ObjectPacksUptoSaid := over
end objectPacks

theorem objectPacks_holds : Rows.ObjectPacksUptoSaid := objectPacks.proved
end
end Go.Proofs.YtfjpnjbinbhcfaaGreat
