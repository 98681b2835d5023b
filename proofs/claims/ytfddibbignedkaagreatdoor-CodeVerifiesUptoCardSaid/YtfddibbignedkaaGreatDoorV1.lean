/- CodeVerifies, where what it reads is of bulk at most 1048576: any function in any program: the program's Verify and the document's tell the same place and the same error. -/
import Derived.Test.YtfddibbignedkaaGreatDoorB4
import Derived.Test.YtfddibbignedkaaGreatDoorR2
import Derived.Test.YtfddibbignedkaaGreatDoorCards
import Derived.Test.YtfddibbignedkaaGreatDoorTie
import Derived.WalkKit
import Derived.ProofKit
import Derived.OpenShut
import Derived.ShutString
import Derived.Below
import Derived.LaidMore
import Derived.Lay
import Derived.SevenTiedAt
import Derived.Stop.Joined
import Derived.MakeChecks
import Derived.JoinedCond
import Derived.Deep.DeepHandedRow
set_option maxHeartbeats 8000000
set_option maxRecDepth 100000
set_option linter.unusedVariables false
set_option linter.unusedSimpArgs false
namespace Go.Proofs.YtfddibbignedkaaGreatDoor
section
namespace Q
open Go.RowKit YA YC YB
attribute [local go_sem] max2_int min2_int max_two min_two max_three min_three max_four min_four
def foundrylaw14_CodeVerifies.f (k : Nat) (l0_0 : List Int) (a0_1 : Int) (l0_2 : List Int) (l0_3 : List (S50)) (l1_0 : List (S24)) (l1_1 : List Int) : Option (Bool) := (qAG.f k l0_0 a0_1 l0_2 l0_3).bind fun aO => ((qAx.f k l1_0 l1_1).bind fun aT => ((qAN.f aO.1 aO.2.1 aO.2.2.1 aO.2.2.2 aT.1 aT.2).bind fun aJ => ((qAO.f l0_0 a0_1 l0_2 l0_3 l1_0 l1_1).bind fun aG => (if aJ.1 = aG.1 then (if aJ.2 = aG.2 then ((qAz.f).bind fun aS => (some aS)) else (none)) else (none)))))
def foundrylaw14_CodeVerifies.T1 : Bool × List (List Nat × List Nat) := (true, [([], []), ([0], [0]), ([], []), ([2, 1], [2]), ([1, 3, 3], [1, 3]), ([4], [4]), ([5], [5]), ([5], [5]), ([6, 4, 0, 1, 2, 3, 4, 5, 6], [6]), ([7, 8, 0, 1, 2, 3, 4, 5, 6, 7, 8], [7])])
def foundrylaw14_CodeVerifies.B1 : List Nat := [0, 1, 0, 7, 15, 31, 63, 63, 127, 511]
theorem foundrylaw14_CodeVerifies.tab1 : rtab .any (opsOf Tryz.f3 1) = foundrylaw14_CodeVerifies.T1 := by kernel_rfl
theorem foundrylaw14_CodeVerifies.bits1 : qCd foundrylaw14_CodeVerifies.T1.2 foundrylaw14_CodeVerifies.B1 = true := by kernel_rfl
theorem foundrylaw14_CodeVerifies.calls (k : Nat) (aL : Option Addr) (aP : Nat) (l0_0 : List Int) (a0_1 : Int) (aM : Option Addr) (aQ : Nat) (l0_2 : List Int) (aN : Option Addr) (aR : Nat) (l0_3 : List (S50)) (aU : Option Addr) (aW : Nat) (l1_0 : List (S24)) (aV : Option Addr) (aX : Nat) (l1_1 : List Int) (r : Bool) (w : World) (hr0_0 : Kd.C (Kd.int .i64) w aL l0_0.length l0_0) (hc0_0 : l0_0.length ≤ aP) (hr0_2 : Kd.C (Kd.int .i64) w aM l0_2.length l0_2) (hc0_2 : l0_2.length ≤ aQ) (hr0_3 : Kd.C k50 w aN l0_3.length l0_3) (hc0_3 : l0_3.length ≤ aR) (hr1_0 : Kd.C k24 w aU l1_0.length l1_0) (hc1_0 : l1_0.length ≤ aW) (hr1_1 : Kd.C (Kd.int .i64) w aV l1_1.length l1_1) (hc1_1 : l1_1.length ≤ aX) (h : foundrylaw14_CodeVerifies.f k l0_0 a0_1 l0_2 l0_3 l1_0 l1_1 = some r) :
  Calls Tryz.prog 3 #[.agg #[.slice aL l0_0.length aP, .int .i64 a0_1, .slice aM l0_2.length aQ, .slice aN l0_3.length aR], .agg #[.slice aU l1_0.length aW, .slice aV l1_1.length aX]] w fun e w' => e = .returned (.bool r) ∧ Below w.heap.size w w' := by
 have aj := am hr0_0
 have ae := am hc0_0
 clear hr0_0 hc0_0
 have ak := am hr0_2
 have af := am hc0_2
 clear hr0_2 hc0_2
 have al := am hr0_3
 have ag := am hc0_3
 clear hr0_3 hc0_3
 have an := am hr1_0
 have ah := am hc1_0
 clear hr1_0 hc1_0
 have ao := am hr1_1
 have ai := am hc1_1
 clear hr1_1 hc1_1
 have HB := am (Below.refl w.heap.size w)
 have H : ((qAG.f k l0_0 a0_1 l0_2 l0_3).bind fun aO => ((qAx.f k l1_0 l1_1).bind fun aT => ((qAN.f aO.1 aO.2.1 aO.2.2.1 aO.2.2.2 aT.1 aT.2).bind fun aJ => ((qAO.f l0_0 a0_1 l0_2 l0_3 l1_0 l1_1).bind fun aG => (if aJ.1 = aG.1 then (if aJ.2 = aG.2 then ((qAz.f).bind fun aS => (some aS)) else (none)) else (none)))))) = some r := h
 clear h
 replace H := bm H
 obtain ⟨⟨aZ, a6, a7, a8⟩, bI, H⟩ := H
 replace H : ((qAx.f k l1_0 l1_1).bind fun aT => ((qAN.f aZ a6 a7 a8 aT.1 aT.2).bind fun aJ => ((qAO.f l0_0 a0_1 l0_2 l0_3 l1_0 l1_1).bind fun aG => (if aJ.1 = aG.1 then (if aJ.2 = aG.2 then ((qAz.f).bind fun aS => (some aS)) else (none)) else (none))))) = some r := H
 have A3 := am bI
 clear bI
 replace H := bm H
 obtain ⟨⟨ab, ac⟩, bJ, H⟩ := H
 replace H : ((qAN.f aZ a6 a7 a8 ab ac).bind fun aJ => ((qAO.f l0_0 a0_1 l0_2 l0_3 l1_0 l1_1).bind fun aG => (if aJ.1 = aG.1 then (if aJ.2 = aG.2 then ((qAz.f).bind fun aS => (some aS)) else (none)) else (none)))) = some r := H
 have A4 := am bJ
 clear bJ
 replace H := bm H
 obtain ⟨⟨aY, a9⟩, bK, H⟩ := H
 replace H : ((qAO.f l0_0 a0_1 l0_2 l0_3 l1_0 l1_1).bind fun aG => (if aY = aG.1 then (if a9 = aG.2 then ((qAz.f).bind fun aS => (some aS)) else (none)) else (none))) = some r := H
 have A5 := am bK
 clear bK
 replace H := bm H
 obtain ⟨⟨aa, ad⟩, bL, H⟩ := H
 replace H : (if aY = aa then (if a9 = ad then ((qAz.f).bind fun aS => (some aS)) else (none)) else (none)) = some r := H
 have A6 := am bL
 clear bL
 by_cases c7 : aY = aa
 ·rw [if_pos c7] at H
  have bO : (aY == aa) = true := beq_iff_eq.mpr c7
  have bP : (aY != aa) = false := bn c7
  clear c7
  by_cases c8 : a9 = ad
  ·rw [if_pos c8] at H
   have bQ : (a9 == ad) = true := beq_iff_eq.mpr c8
   clear c8
   replace H := bm H
   obtain ⟨aS, bM, H⟩ := H
   replace H : (some aS) = some r := H
   have A9 := am bM
   clear bM
   obtain rfl := Option.some.inj H
   go_enter Tryz.func3, Tryz.ntmps3
   try go_wp2_with (first | ((with_reducible refine qAV (N := 2) rfl ?_); refine bx 2 #[.slice aL l0_0.length aP, .int .i64 a0_1, .slice aM l0_2.length aQ, .slice aN l0_3.length aR] 27 ?_; intro aE hg bX hbox hb; have n0_ := am (qAq (by repeat ((with_reducible (exact HB.o)))) hb); have n1_ := am (hbox); have n2_ := am ((by rw [hg]; exact (qAm (by repeat ((with_reducible (exact HB.o))))) : w.heap.size ≤ aE)); have n3_ := am ((by rw [hg]; exact (qAm (by repeat ((with_reducible (exact HB.o))))) : w.heap.size ≤ aE)); clear HB; have HB := n0_; have aA := n1_; clear n0_ n1_ n2_ n3_; clear hb hbox hg) | ((with_reducible refine qAV (N := 3) rfl ?_); refine bx 3 #[.slice aU l1_0.length aW, .slice aV l1_1.length aX] 30 ?_; intro aK hg bW hbox hb; have n0_ := am (qAk (g := aE) (o := .cells #[.slice aL l0_0.length aP, .int .i64 a0_1, .slice aM l0_2.length aQ, .slice aN l0_3.length aR] 27 (0, 0)) (by (with_reducible repeat (fail)); exact aA.o) hb); have n1_ := am (qAq (by repeat ((with_reducible (exact HB.o)))) hb); have n2_ := am (hbox); have n3_ := am ((by rw [hg]; exact (qAm (by repeat ((with_reducible (exact HB.o))))) : w.heap.size ≤ aK)); have n4_ := am ((by rw [hg]; exact (qAm (by repeat ((with_reducible (exact HB.o))))) : w.heap.size ≤ aK)); have n5_ := am ((by rw [hg]; exact Nat.ne_of_lt (qAZ (g := aE) (o := .cells #[.slice aL l0_0.length aP, .int .i64 a0_1, .slice aM l0_2.length aQ, .slice aN l0_3.length aR] 27 (0, 0)) (by (with_reducible repeat (fail)); exact aA.o)) : aE ≠ aK)); have n6_ := am ((by rw [hg]; exact Nat.ne_of_gt (qAZ (g := aE) (o := .cells #[.slice aL l0_0.length aP, .int .i64 a0_1, .slice aM l0_2.length aQ, .slice aN l0_3.length aR] 27 (0, 0)) (by (with_reducible repeat (fail)); exact aA.o)) : aK ≠ aE)); clear aA; clear HB; have aA := n0_; have HB := n1_; have aB := n2_; clear n0_ n1_ n2_ n3_ n4_ n5_ n6_; clear hb hbox hg))
   have n0_ := am (qAt aA.o)
   have n1_ := am (qAt aB.o)
   have n2_ := am (qAj HB.o)
   clear aA
   clear aB
   clear HB
   have aA := n0_
   have aB := n1_
   have HB := n2_
   clear n0_ n1_ n2_
   refine qCi (n := 10) (S := fun w' => w'.cell? ⟨aE, 0, none⟩ = some (.slice aL l0_0.length aP) ∧ w'.cell? ⟨aE, 1, none⟩ = some (.int .i64 a0_1) ∧ w'.cell? ⟨aE, 2, none⟩ = some (.slice aM l0_2.length aQ) ∧ w'.cell? ⟨aE, 3, none⟩ = some (.slice aN l0_3.length aR) ∧ w'.cell? ⟨aK, 0, none⟩ = some (.slice aU l1_0.length aW) ∧ w'.cell? ⟨aK, 1, none⟩ = some (.slice aV l1_1.length aX)) (ds := []) (mK 10 0) (by kernel_rfl) rfl rfl ⟨(qAa aA.o 0).trans rfl, (qAa aA.o 1).trans rfl, (qAa aA.o 2).trans rfl, (qAa aA.o 3).trans rfl, (qAa aB.o 0).trans rfl, (qAa aB.o 1).trans rfl⟩ (fun hHeld => ?_); refine qBn foundrylaw14_CodeVerifies.tab1 foundrylaw14_CodeVerifies.bits1 (fun HT_ HW_ => ?_)
   generalize bW.drew = bY at aA aB HB hHeld ⊢
   refine tk 0 10 (mK 10 1) (qA6 HT_.o HW_.o (by kernel_rfl)) hHeld ?_
   refine tk 2 12 (mK 10 5) (qA6 HT_.o HW_.o (by kernel_rfl)) hHeld ?_
   refine one_ (i := 1) (N := some 11) (mK 10 7) rfl rfl (qBp HT_.o (by kernel_rfl)) (by decide) (fun K hK => ?_)
   refine qCs Tryz.func14 (by kernel_rfl) rfl #[.agg #[.slice aL l0_0.length aP, .int .i64 a0_1, .slice aM l0_2.length aQ, .slice aN l0_3.length aR]] (by rfl) rfl rfl (by (try simp only [List.map_toArray, List.map_cons, List.map_nil]); (rfl)) ?_
   with_reducible refine (qAG.calls k _ _ l0_0 a0_1 _ _ l0_2 _ _ l0_3 aZ a6 a7 a8 _ ?side1 ?side2 ?side3 ?side4 ?side5 ?side6 A3.o).mono ?_
   (case side1 => repeat ((exact (Kd.C_below aj.o HB.o))))
   (case side2 => exact ae.o)
   (case side3 => repeat ((exact (Kd.C_below ak.o HB.o))))
   (case side4 => exact af.o)
   (case side5 => repeat ((exact (Kd.C_below al.o HB.o))))
   (case side6 => exact ag.o)
   rintro e bZ ⟨bR, bS, bT, rfl, aq, ap, bN, hb⟩
   refine ⟨_, rfl, ?_⟩
   have n0_ := am (Kd.R_lower aq (qAm (by repeat ((with_reducible (exact HB.o))))))
   have n1_ := am (Kd.R_lower ap (qAm (by repeat ((with_reducible (exact HB.o))))))
   have n2_ := am (Kd.R_lower bN (qAm (by repeat ((with_reducible (exact HB.o))))))
   have n3_ := am (qAk (g := aE) (o := .cells #[.slice aL l0_0.length aP, .int .i64 a0_1, .slice aM l0_2.length aQ, .slice aN l0_3.length aR] 27 (0, 0)) (by (with_reducible repeat (fail)); exact aA.o) hb)
   have n4_ := am (qAk (g := aK) (o := .cells #[.slice aU l1_0.length aW, .slice aV l1_1.length aX] 30 (0, 0)) (by (with_reducible repeat (fail)); exact aB.o) hb)
   have n5_ := am (qAq (by repeat ((with_reducible (exact HB.o)))) hb)
   clear aA
   clear aB
   clear HB
   have aC := n0_
   have aD := n1_
   have aF := n2_
   have aA := n3_
   have aB := n4_
   have HB := n5_
   clear n0_ n1_ n2_ n3_ n4_ n5_
   (try clear hb)
   (skip)
   (skip)
   (skip)
   (try clear aq)
   (try clear ap)
   (try clear bN)
   refine hK.o _ _ ⟨(qAa aA.o 0).trans rfl, (qAa aA.o 1).trans rfl, (qAa aA.o 2).trans rfl, (qAa aA.o 3).trans rfl, (qAa aB.o 0).trans rfl, (qAa aB.o 1).trans rfl⟩ (fun hHeld => ?_)
   clear hK K
   refine nm ?_
   refine one_ (i := 3) (N := some 13) (mK 10 15) rfl rfl (qBp HT_.o (by kernel_rfl)) (by decide) (fun K hK => ?_)
   refine qCs Tryz.func15 (by kernel_rfl) rfl #[.agg #[.slice aU l1_0.length aW, .slice aV l1_1.length aX]] (by rfl) rfl rfl (by (try simp only [List.map_toArray, List.map_cons, List.map_nil]); (rfl)) ?_
   with_reducible refine (qAx.calls k _ _ l1_0 _ _ l1_1 ab ac _ ?side1 ?side2 ?side3 ?side4 A4.o).mono ?_
   (case side1 => repeat ((exact (Kd.C_below an.o HB.o))))
   (case side2 => exact ah.o)
   (case side3 => repeat ((exact (Kd.C_below ao.o HB.o))))
   (case side4 => exact ai.o)
   rintro e b0 ⟨bU, bV, rfl, aq, ap, hb⟩
   refine ⟨_, rfl, ?_⟩
   have n0_ := am (Kd.R_elder' (by (with_reducible repeat (fail)); exact aC.o) (Kd.R_base ap) hb)
   have n1_ := am (Kd.R_elder' (by (with_reducible repeat (fail)); exact aD.o) (Kd.R_base ap) hb)
   have n2_ := am (Kd.R_below (by (with_reducible repeat (fail)); exact aF.o) hb)
   have n3_ := am (Kd.S_lower (Kd.S_new' (Kd.S_new' aq (Kd.R_lt (by (with_reducible repeat (fail)); exact aC.o))) (Kd.R_lt (by (with_reducible repeat (fail)); exact aD.o))) (qAm (by repeat ((with_reducible (exact HB.o))))))
   have n4_ := am (Kd.R_lower (Kd.R_new' (Kd.R_new' ap (Kd.R_lt (by (with_reducible repeat (fail)); exact aC.o))) (Kd.R_lt (by (with_reducible repeat (fail)); exact aD.o))) (qAm (by repeat ((with_reducible (exact HB.o))))))
   have n5_ := am (qAk (g := aE) (o := .cells #[.slice aL l0_0.length aP, .int .i64 a0_1, .slice aM l0_2.length aQ, .slice aN l0_3.length aR] 27 (0, 0)) (by (with_reducible repeat (fail)); exact aA.o) hb)
   have n6_ := am (qAk (g := aK) (o := .cells #[.slice aU l1_0.length aW, .slice aV l1_1.length aX] 30 (0, 0)) (by (with_reducible repeat (fail)); exact aB.o) hb)
   have n7_ := am (qAq (by repeat ((with_reducible (exact HB.o)))) hb)
   clear aC
   clear aD
   clear aF
   clear aA
   clear aB
   clear HB
   have aC := n0_
   have aD := n1_
   have aF := n2_
   have aH := n3_
   have aI := n4_
   have aA := n5_
   have aB := n6_
   have HB := n7_
   clear n0_ n1_ n2_ n3_ n4_ n5_ n6_ n7_
   (try clear hb)
   (skip)
   (skip)
   (skip)
   (try clear aq)
   (try clear ap)
   obtain ⟨ar, ay, bD⟩ := Kd.R_slice aC.o
   ((subst bD))
   obtain ⟨au, az, bE⟩ := Kd.R_slice aD.o
   ((subst bE))
   obtain ⟨av, bA, bF⟩ := Kd.R_slice aF.o
   ((subst bF))
   obtain ⟨aw, bB, bG⟩ := Kd.S_slice aH.o
   ((subst bG))
   obtain ⟨ax, bC, bH⟩ := Kd.R_slice aI.o
   ((subst bH))
   refine hK.o _ _ ⟨(qAa aA.o 0).trans rfl, (qAa aA.o 1).trans rfl, (qAa aA.o 2).trans rfl, (qAa aA.o 3).trans rfl, (qAa aB.o 0).trans rfl, (qAa aB.o 1).trans rfl⟩ (fun hHeld => ?_)
   clear hK K
   refine nm ?_
   refine one_ (i := 4) (N := some 14) (mK 10 31) rfl rfl (qBp HT_.o (by kernel_rfl)) (by decide) (fun K hK => ?_)
   refine qCs Tryz.func13 (by kernel_rfl) rfl #[.agg #[.slice ar aZ.length ay, .int .i64 a6, .slice au a7.length az, .slice av a8.length bA], .agg #[.slice aw ab.length bB, .slice ax ac.length bC]] (by rfl) rfl rfl (by (try simp only [List.map_toArray, List.map_cons, List.map_nil]); (rfl)) ?_
   with_reducible refine (qAN.calls _ _ aZ a6 _ _ a7 _ _ a8 _ _ ab _ _ ac aY a9 _ ?side1 ?side2 ?side3 ?side4 ?side5 ?side6 ?side7 ?side8 ?side9 ?side10 A5.o).mono ?_
   (case side1 => repeat ((exact (Kd.R_reads' aC.o).2.2)))
   (case side2 => exact (Kd.R_reads' aC.o).2.1)
   (case side3 => repeat ((exact (Kd.R_reads' aD.o).2.2)))
   (case side4 => exact (Kd.R_reads' aD.o).2.1)
   (case side5 => repeat ((exact (Kd.R_reads' aF.o).2.2)))
   (case side6 => exact (Kd.R_reads' aF.o).2.1)
   (case side7 => repeat ((exact (Kd.S_reads' aH.o).2.2)))
   (case side8 => exact (Kd.S_reads' aH.o).2.1)
   (case side9 => repeat ((exact (Kd.R_reads' aI.o).2.2)))
   (case side10 => exact (Kd.R_reads' aI.o).2.1)
   rintro e b1 ⟨rfl, hb⟩
   refine ⟨_, rfl, ?_⟩
   have n0_ := am (Kd.R_below (by (with_reducible repeat (fail)); exact aC.o) hb)
   have n1_ := am (Kd.R_below (by (with_reducible repeat (fail)); exact aD.o) hb)
   have n2_ := am (Kd.R_below (by (with_reducible repeat (fail)); exact aF.o) hb)
   have n3_ := am (Kd.S_below (by (with_reducible repeat (fail)); exact aH.o) hb)
   have n4_ := am (Kd.R_below (by (with_reducible repeat (fail)); exact aI.o) hb)
   have n5_ := am (qAk (g := aE) (o := .cells #[.slice aL l0_0.length aP, .int .i64 a0_1, .slice aM l0_2.length aQ, .slice aN l0_3.length aR] 27 (0, 0)) (by (with_reducible repeat (fail)); exact aA.o) hb)
   have n6_ := am (qAk (g := aK) (o := .cells #[.slice aU l1_0.length aW, .slice aV l1_1.length aX] 30 (0, 0)) (by (with_reducible repeat (fail)); exact aB.o) hb)
   have n7_ := am (qAq (by repeat ((with_reducible (exact HB.o)))) hb)
   clear aC
   clear aD
   clear aF
   clear aH
   clear aI
   clear aA
   clear aB
   clear HB
   have aC := n0_
   have aD := n1_
   have aF := n2_
   have aH := n3_
   have aI := n4_
   have aA := n5_
   have aB := n6_
   have HB := n7_
   clear n0_ n1_ n2_ n3_ n4_ n5_ n6_ n7_
   (try clear hb)
   (skip)
   (skip)
   (skip)
   refine hK.o _ _ ⟨(qAa aA.o 0).trans rfl, (qAa aA.o 1).trans rfl, (qAa aA.o 2).trans rfl, (qAa aA.o 3).trans rfl, (qAa aB.o 0).trans rfl, (qAa aB.o 1).trans rfl⟩ (fun hHeld => ?_)
   clear hK K
   refine nm ?_
   refine pu 5 9 (mK 10 63) (qAh HT_.o (by kernel_rfl)) ?_
   refine pu 6 15 (mK 10 127) (qAh HT_.o (by kernel_rfl)) ?_
   refine pu 7 16 (mK 10 255) (qAh HT_.o (by kernel_rfl)) ?_
   refine pu 8 5 (mK 10 511) (qAh HT_.o (by kernel_rfl)) ?_
   refine pu 9 6 (mK 10 1023) (qAh HT_.o (by kernel_rfl)) ?_
   refine qCS (qBA HT_.o (by kernel_rfl)) ?_
   try go_wp2_with (first | ((with_reducible refine qA7 (f := 16) rfl ?_); refine gL 20 Tryz.func16 #[.agg #[.slice aL l0_0.length aP, .int .i64 a0_1, .slice aM l0_2.length aQ, .slice aN l0_3.length aR], .agg #[.slice aU l1_0.length aW, .slice aV l1_1.length aX]] ?_; (with_reducible refine (qAO.calls _ _ l0_0 a0_1 _ _ l0_2 _ _ l0_3 _ _ l1_0 _ _ l1_1 aa ad _ ?side1 ?side2 ?side3 ?side4 ?side5 ?side6 ?side7 ?side8 ?side9 ?side10 A6.o).mono ?_); (case side1 => repeat ((exact (Kd.C_below aj.o HB.o)))); (case side2 => exact ae.o); (case side3 => repeat ((exact (Kd.C_below ak.o HB.o)))); (case side4 => exact af.o); (case side5 => repeat ((exact (Kd.C_below al.o HB.o)))); (case side6 => exact ag.o); (case side7 => repeat ((exact (Kd.C_below an.o HB.o)))); (case side8 => exact ah.o); (case side9 => repeat ((exact (Kd.C_below ao.o HB.o)))); (case side10 => exact ai.o); rintro e b2 ⟨rfl, hb⟩; refine ⟨_, rfl, ?_⟩; have n0_ := am (Kd.R_below (by (with_reducible repeat (fail)); exact aC.o) hb); have n1_ := am (Kd.R_below (by (with_reducible repeat (fail)); exact aD.o) hb); have n2_ := am (Kd.R_below (by (with_reducible repeat (fail)); exact aF.o) hb); have n3_ := am (Kd.S_below (by (with_reducible repeat (fail)); exact aH.o) hb); have n4_ := am (Kd.R_below (by (with_reducible repeat (fail)); exact aI.o) hb); have n5_ := am (qAk (g := aE) (o := .cells #[.slice aL l0_0.length aP, .int .i64 a0_1, .slice aM l0_2.length aQ, .slice aN l0_3.length aR] 27 (0, 0)) (by (with_reducible repeat (fail)); exact aA.o) hb); have n6_ := am (qAk (g := aK) (o := .cells #[.slice aU l1_0.length aW, .slice aV l1_1.length aX] 30 (0, 0)) (by (with_reducible repeat (fail)); exact aB.o) hb); have n7_ := am (qAq (by repeat ((with_reducible (exact HB.o)))) hb); clear aC; clear aD; clear aF; clear aH; clear aI; clear aA; clear aB; clear HB; have aC := n0_; have aD := n1_; have aF := n2_; have aH := n3_; have aI := n4_; have aA := n5_; have aB := n6_; have HB := n7_; clear n0_ n1_ n2_ n3_ n4_ n5_ n6_ n7_; (skip); (skip); (skip)) | (go_at_call 17; (with_reducible refine (qAz.calls  aS _ A9.o).mono ?_); rintro e b3 ⟨rfl, hb⟩; have n0_ := am (Kd.R_below (by (with_reducible repeat (fail)); exact aC.o) hb); have n1_ := am (Kd.R_below (by (with_reducible repeat (fail)); exact aD.o) hb); have n2_ := am (Kd.R_below (by (with_reducible repeat (fail)); exact aF.o) hb); have n3_ := am (Kd.S_below (by (with_reducible repeat (fail)); exact aH.o) hb); have n4_ := am (Kd.R_below (by (with_reducible repeat (fail)); exact aI.o) hb); have n5_ := am (qAk (g := aE) (o := .cells #[.slice aL l0_0.length aP, .int .i64 a0_1, .slice aM l0_2.length aQ, .slice aN l0_3.length aR] 27 (0, 0)) (by (with_reducible repeat (fail)); exact aA.o) hb); have n6_ := am (qAk (g := aK) (o := .cells #[.slice aU l1_0.length aW, .slice aV l1_1.length aX] 30 (0, 0)) (by (with_reducible repeat (fail)); exact aB.o) hb); have n7_ := am (qAq (by repeat ((with_reducible (exact HB.o)))) hb); clear aC; clear aD; clear aF; clear aH; clear aI; clear aA; clear aB; clear HB; have HB := n7_; clear n0_ n1_ n2_ n3_ n4_ n5_ n6_ n7_; (skip); (skip); (skip)))
   go_ret
   exact ⟨by (rfl), by repeat ((with_reducible (exact HB.o)))⟩
  ·rw [if_neg c8] at H
   exact absurd H (by simp)
 ·rw [if_neg c7] at H
  exact absurd H (by simp)
end Q
end
section
namespace Q
open Go.RowKit YA YC YB
open Val Ins
namespace C14
theorem Good.rver {ps ls : List Int} {code : List S50} {fs : List S24} {vs : List Int} (g : Good ps ls code fs vs) (res : Int) : qAO.f ps res ls code fs vs = some (qAS ps res ls (code.map ofI) (fs.map ofS) vs).2 := by
 have h1 := g.p; have h2 := g.l; have h3 := g.c; have h4 := g.f; have h5 := g.v
 unfold qAO.f
 rw [if_pos]
 ·rfl
 unfold vfSz
 simp only [Bool.and_eq_true, decide_eq_true_eq, List.all_eq_true]
 refine ⟨by omega, by omega, by omega, by omega, by omega, fun x hx => decide_eq_true (g.u x hx), fun x hx => ?_⟩
 have := g.s x hx
 omega
theorem verifies_ev (a0 : List Int) (a1 : Int) (a2 : List Int) (a3 : List S50) (b0 : List S24) (b1 : List Int) (hg : qBH 1048576 ⟨⟨a0, a1⟩, a2, a3⟩) (hh : qB7 1048576 ⟨b0, b1⟩) : Ev (fun k => foundrylaw14_CodeVerifies.f k a0 a1 a2 a3 b0 b1) true := by
 have g := good_of hg hh
 unfold foundrylaw14_CodeVerifies.f
 refine Ev.bind (fn_ev a0 a1 a2 a3 g.p g.l g.c) ?_
 refine Ev.bind (frame_ev b0 b1 g.f g.v g.s) ?_
 simp only [g.ver, g.rver, Option.bind_some, if_true, live_eq]
 exact Ev.now _
end C14
end Q
end
section
namespace codeVerifies
open Go.ChangeShapes Go.WideShapes Go.ChangeAt Go.RowKit
theorem own : ownKnob Tryz.prog.godebug = none := by kernel_rfl
theorem laidOut : laidOutB Tryz.prog = true := by kernel_rfl
theorem contract (H : Type) (enc : TypeId × Value → H) (W : World) (base : Nat) (args : Array Value) (ds gs : List (DataW H)) (before : List MemPlace)
  (hval0 : ∀ (j : Nat) t v, Tryz.f3.params[j]? = some t → args[j]? = some v → Value.okWide Tryz.prog W .any base t v)
  (hW : DataW.Whole enc Tryz.prog Tryz.f3.params.toList Rows.codeVerifiesSpec.vars false W args.toList ds gs before) (hk0 : decide (Rows.uptoBulkAll (ds ++ gs) ≤ 1048576) = true) :
  Calls Tryz.prog 3 args W fun e W' => ∃ v, e = .returned v ∧ Rows.codeVerifiesSpec.post enc Tryz.prog Tryz.f3 false true false false W args v W' := by
 have hval : ∀ (j : Nat) t v, Tryz.f3.params[j]? = some t → args[j]? = some v → Value.okWide Tryz.prog W .any base t v := hval0
 have hW' := hW
 obtain ⟨p, q, hA0, hV, rfl, hfz, hnd⟩ := hW
 have hA : DataW.TrodAll enc Tryz.prog W 0 (fun _ => true) true Tryz.f3.params.toList args.toList ds p := hA0
 rw [Tryz.params3] at hA hval
 obtain ⟨v0, vs0, d0, ds0, p0, q0, hargs, rfl, rfl, h0, r0⟩ := trodAll_cons hA
 obtain ⟨v1, vs1, d1, ds1, p1, q1, rfl, rfl, rfl, h1, r1⟩ := trodAll_cons r0
 obtain ⟨rfl, rfl, rfl⟩ := trodAll_nil r1
 obtain rfl : args = #[v0, v1] := by cases args; simp_all
 obtain ⟨rfl, rfl⟩ := trodVars_none hV
 have hk := of_decide_eq_true hk0
 simp only [List.append_nil, Rows.uptoBulkAll] at hk
 have k0 := h0
 have lt0 : ∀ x ∈ p0, x.block < W.heap.size := by obtain ⟨m, hm⟩ := k0; exact DataW.trod_lt m _ _ _ hm
 obtain ⟨cs0, rfl, hsz0⟩ := okWide_struct Tryz.underlying27 (hval 0 27 v0 rfl rfl)
 obtain ⟨fuel0, hf0⟩ := h0
 obtain ⟨x0, hK0, hG0⟩ := Q.opens_foundryref14_Fn W 1048576 H enc 0 (fun _ => true) true fuel0 _ _ hf0 (by show Rows.uptoBulk d0 ≤ _; omega)
 obtain ⟨A0, c0, A1, c1, A2, c2, he0, l0, g0, l1, g1, l2, g2⟩ := Q.k27_open hK0
 obtain rfl : cs0 = #[.slice A0 x0.f0.f0.length c0, .int .i64 x0.f0.f1, .slice A1 x0.f1.length c1, .slice A2 x0.f2.length c2] := Array.ext' he0
 clear hf0 hK0
 have k1 := h1
 have lt1 : ∀ x ∈ p1, x.block < W.heap.size := by obtain ⟨m, hm⟩ := k1; exact DataW.trod_lt m _ _ _ hm
 obtain ⟨cs1, rfl, hsz1⟩ := okWide_struct Tryz.underlying30 (hval 1 30 v1 rfl rfl)
 obtain ⟨fuel1, hf1⟩ := h1
 obtain ⟨x1, hK1, hG1⟩ := Q.opens_foundryref14_Frame W 1048576 H enc 0 (fun _ => true) true fuel1 _ _ hf1 (by show Rows.uptoBulk d1 ≤ _; omega)
 obtain ⟨A3, c3, A4, c4, he1, l3, g3, l4, g4⟩ := Q.k30_open hK1
 obtain rfl : cs1 = #[.slice A3 x1.f0.length c3, .slice A4 x1.f1.length c4] := Array.ext' he1
 clear hf1 hK1
 obtain ⟨k, hkk⟩ := (Q.C14.verifies_ev (x0.f0.f0) (x0.f0.f1) (x0.f1) (x0.f2) (x1.f0) (x1.f1) hG0 hG1).rounds
 clear hA0 hval0
 refine (Q.foundrylaw14_CodeVerifies.calls k A0 c0 x0.f0.f0 (x0.f0.f1) A1 c1 x0.f1 A2 c2 x0.f2 A3 c3 x1.f0 A4 c4 x1.f1 true W g0 l0 g1 l1 g2 l2 g3 l3 g4 l4 hkk).mono fun e W' ⟨he', bel⟩ => ?_
 subst he'
 exact ⟨_, rfl, _, _, _, [], _, [], hW', trodAll_mk1 (shut_bool Tryz.underlying4 _), (trodAll_cons_mk (Below.trod laidOut (by kernel_rfl) (of_decide_eq_true (by kernel_rfl)) k0 bel lt0) (trodAll_cons_mk (Below.trod laidOut (by kernel_rfl) (of_decide_eq_true (by kernel_rfl)) k1 bel lt1) trodAll_mk0)), rfl, bel.frame _, fun h => by cases h⟩
theorem row_shaped {H : Type} {enc : TypeId × Value → H} {C : Checked} {os : Os} {f : FuncId} {fn : Func} {s : OpenSpec} {conds : List PathCond} {apart : Bool} {laid : List (String × DataW Unit)} (modest : Bool) (w0 : World) (args : Array Value) (hos : w0.os = os)
  (hsh : (w0.forCall (fun _ _ => 0) ⟨#[], args, []⟩).Shaped C.prog)
  (hok : Input.okWideB C.prog (w0.forCall (fun _ _ => 0) ⟨#[], args, []⟩) f ⟨#[], args, []⟩ = true)
  (hrow : s.preRow enc C.prog fn conds apart laid (w0.forCall (fun _ _ => 0) ⟨#[], args, []⟩).memory args) :
  ∃ (w : World) (tape : Tape) (i : Input), w.os = os ∧ (w.forCall tape i).Shaped C.prog ∧ i.vars = [] ∧ Input.okWide C.prog (w.forCall tape i) .any w.heap.size f i ∧
   s.preRow enc C.prog fn conds apart laid (w.forCall tape i).memory i.args ∧ ({ modest := modest } : Assume).holds C.prog (lone (Frame.enter C.prog f i.args .normal) [] (w.forCall tape i)) :=
 ⟨w0, fun _ _ => 0, ⟨#[], args, []⟩, hos, hsh, (Input.okWide_of_okWideB (base := 0) hok).1, (Input.okWide_of_okWideB hok).2, hrow, by
   simp only [Assume.holds]
   exact ⟨by simp, by simp, fun _ => Modest.zero, by simp, by simp⟩⟩
theorem laid_met (os : Os) : laidMet Tryz.prog Rows.codeVerifiesUptoRow.laid (((World.laidAll Tryz.prog os Rows.codeVerifiesUptoRow.laid)).forCall (fun _ _ => 0) ⟨#[], #[.agg #[.slice none 0 0, .int .i64 0, .slice none 0 0, .slice none 0 0], .agg #[.slice none 0 0, .slice none 0 0]], []⟩).memory := laidMet_laidAll _ (by kernel_rfl) (by kernel_rfl)
theorem reads (os : Os) {H : Type} (enc : TypeId × Value → H) : ∃ places, DataW.whole enc Tryz.prog ((World.laidAll Tryz.prog os Rows.codeVerifiesUptoRow.laid).forCall (fun _ _ => 0) ⟨#[], #[.agg #[.slice none 0 0, .int .i64 0, .slice none 0 0, .slice none 0 0], .agg #[.slice none 0 0, .slice none 0 0]], []⟩).memory Tryz.f3.params.toList Rows.codeVerifiesSpec.vars false (#[.agg #[.slice none 0 0, .int .i64 0, .slice none 0 0, .slice none 0 0], .agg #[.slice none 0 0, .slice none 0 0]] : Array Value).toList 8 = some ([.agg [.agg [.nil, .lit (.int .i64 0)], .nil, .nil], .agg [.nil, .nil]], [], places) :=
 ⟨[], by kernel_rfl⟩
theorem lifted (os : Os) (started : os.Started) (H : Type) (enc : TypeId × Value → H) (F : Stop.Interp) :
  ReturnsInHanded {} Tryz.checked os 3 .any ((Rows.OpenSpec.upto Rows.codeVerifiesSpec).preRow enc Tryz.prog Tryz.f3 Rows.codeVerifiesUptoRow.domain false Rows.codeVerifiesUptoRow.laid) (((Rows.OpenSpec.upto Rows.codeVerifiesSpec).at F).post enc Tryz.prog Tryz.f3 false true false false) := by
 obtain ⟨places, hx⟩ := reads os enc
 refine returnsInHanded_of_row (C := Tryz.checked) (s := Rows.OpenSpec.upto Rows.codeVerifiesSpec) own started (by kernel_rfl) Tryz.func3
  (row_shaped (enc := enc) (C := Tryz.checked) false (World.laidAll Tryz.prog os Rows.codeVerifiesUptoRow.laid) #[.agg #[.slice none 0 0, .int .i64 0, .slice none 0 0, .slice none 0 0], .agg #[.slice none 0 0, .slice none 0 0]] (World.laidAll_os _ _ _) (World.shaped_of_ZipB (by kernel_rfl) (by kernel_rfl)) (by kernel_rfl)
    (OpenSpec.preRow_of_cond (s := Rows.OpenSpec.upto Rows.codeVerifiesSpec) 8 hx (by kernel_rfl) (fun k hk => by cases hk; kernel_rfl) (by kernel_rfl) (laid_met os))) ?_
 intro W base args ds gs before hval hW _ hcond _ hL _ _
 exact contract H enc W base args ds gs before hval hW (hcond _ rfl)
theorem saidUpto : Rows.CodeVerifiesUptoSaid :=
 OpenClaim.holds_of_cond 3 Tryz.f3 rfl rfl rfl rfl rfl rfl rfl ⟨rfl, rfl, rfl, rfl, rfl⟩ rfl rfl rfl rfl rfl (by kernel_rfl) Tryz.func3 (by kernel_rfl)
  (of_decide_eq_true (by kernel_rfl)) (by unfold Func.isWrapper; first | (rw [if_pos (by decide +kernel)]; kernel_rfl) | (rw [if_neg (by decide +kernel)]; exact ⟨rfl, rfl⟩))
  (fun os started H enc _ F => by rw [OpenClaim.pre_eq_preRow]; exact lifted os started H enc F)
theorem plain (f : FuncId) (fn : Func) (hf : Tryz.pinned.checked.prog.funcNamed "foundry/foundrylaw14.CodeVerifies" = some f) (hfn : Tryz.pinned.checked.prog.funcs[f]? = some fn) :
  false = Tryz.pinned.checked.prog.looks [] ∧ ∀ (j : Nat) t, fn.params[j]? = some t → Tryz.pinned.checked.prog.wantsStandIn t = false := by
 obtain rfl : f = 3 := Option.some.inj ((show Tryz.prog.funcNamed "foundry/foundrylaw14.CodeVerifies" = some 3 by kernel_rfl).symm.trans hf) |>.symm
 obtain rfl : fn = Tryz.f3 := (Option.some.inj (Tryz.func3.symm.trans hfn)).symm
 refine ⟨by kernel_rfl, fun j t ht => ?_⟩
 rw [Tryz.params3] at ht
 have hm : t = 27 ∨ t = 30 := by simpa using Array.mem_of_getElem? ht
 rcases hm with rfl | rfl
 ·exact (show Tryz.prog.wantsStandIn 27 = false by kernel_rfl)
 ·exact (show Tryz.prog.wantsStandIn 30 = false by kernel_rfl)
theorem card : Rows.CodeVerifiesUptoCardSaid :=
 Claim7.holds_tied_plain_at .later [] _ _ _ _ saidUpto (fun _ h => by cases h) (by kernel_rfl) (fun _ h => by cases h) codeVerifiesUpto_row_tie rfl ⟨rfl, rfl⟩ (by kernel_rfl) rfl plain (by kernel_rfl)
end codeVerifies

theorem codeVerifies_card : Rows.CodeVerifiesUptoCardSaid := codeVerifies.card
end
end Go.Proofs.YtfddibbignedkaaGreatDoor
