/- There and back; unlike objects have unlike bytes. Part 7 of 8. -/
import Derived.Test.YtfjpnjbinbhcfaaK6
set_option maxHeartbeats 8000000
set_option maxRecDepth 100000
set_option linter.unusedVariables false
set_option linter.unusedSimpArgs false
namespace Go.Proofs.Ytfjpnjbinbhcfaa
section
namespace Q
open Go.RowKit PA PB PC
attribute [local go_sem] qBd min2_int qBn min_two max_three min_three max_four min_four
noncomputable def foundrylaw15_ObjectBack.f (k : Nat) (a0_0 : ByteArray) (l0_1 : List (S94)) (l0_2 : List (S100)) (l0_3 : List (S102)) (a1_0 : ByteArray) (l1_1 : List (S94)) (l1_2 : List (S100)) (l1_3 : List (S102)) : Option (Bool) := (qAh.f k a0_0 l0_1 l0_2 l0_3).bind fun bR => ((qAh.f k a1_0 l1_1 l1_2 l1_3).bind fun bW => ((qA9.f bR.1 bR.2.1 bR.2.2.1 bR.2.2.2).bind fun b4 => ((qA9.f bW.1 bW.2.1 bW.2.2.1 bW.2.2.2).bind fun bs => (if b4.2 = 0 then ((qAc.f k b4.1).bind fun aw => (if aw.2.2.2.2 = 0 then ((qAK.f aw.1 aw.2.1 aw.2.2.1 aw.2.2.2.1 bR.1 bR.2.1 bR.2.2.1 bR.2.2.2).bind fun cF => (if cF = true then ((qAn.f k aw.1 aw.2.1 aw.2.2.1 aw.2.2.2.1).bind fun bj => (if bj = 0 then ((qAt.f k).bind fun br => (if br = true then (if bs.2 = 0 then ((qAK.f bR.1 bR.2.1 bR.2.2.1 bR.2.2.2 bW.1 bW.2.1 bW.2.2.1 bW.2.2.2).bind fun bc => (some (bc == ((strOfNums b4.1).toList == (strOfNums bs.1).toList)))) else (some true)) else (none))) else (none))) else (none))) else (none))) else (if (b4.1.length : Int) = 0 then ((qAn.f k bR.1 bR.2.1 bR.2.2.1 bR.2.2.2).bind fun bw => (if bw = 0 then (if b4.2 = 3 then ((qAt.f k).bind fun cD => (some cD)) else (none)) else ((qAt.f k).bind fun cE => (some cE)))) else (none))))))
def foundrylaw15_ObjectBack.T1 : Bool × List (List Nat × List Nat) := (true, [([], []), ([0], [0]), ([], []), ([2, 1], [2]), ([], []), ([], []), ([4, 1, 3, 0, 1, 4, 5], [1, 4]), ([5, 3, 6, 0, 1, 2, 3, 4, 5, 6], [3, 5])])
def foundrylaw15_ObjectBack.B1 : List Nat := [0, 1, 0, 7, 0, 0, 63, 127]
theorem foundrylaw15_ObjectBack.tab1 : rtab .any (opsOf Try.f4 1) = foundrylaw15_ObjectBack.T1 := by kernel_rfl
theorem foundrylaw15_ObjectBack.bits1 : qBQ foundrylaw15_ObjectBack.T1.2 foundrylaw15_ObjectBack.B1 = true := by kernel_rfl
def foundrylaw15_ObjectBack.T9 : Bool × List (List Nat × List Nat) := (true, [([], []), ([0], [0]), ([1], [1]), ([2], [2]), ([2], [2]), ([3, 4, 2, 2], [2, 3, 4]), ([2], [2]), ([6, 2], [2, 6]), ([2], [2]), ([8, 2], [2, 8]), ([7, 9, 2], [2, 7, 9]), ([5, 10, 2], [2, 5, 10]), ([2, 11], [2, 11]), ([12, 5, 0, 1, 2, 3, 4, 5, 6, 7, 8, 9, 10, 11, 12], [12])])
def foundrylaw15_ObjectBack.B9 : List Nat := [0, 1, 3, 7, 7, 31, 7, 71, 7, 263, 967, 2047, 4095, 8191]
theorem foundrylaw15_ObjectBack.tab9 : rtab .any (opsOf Try.f4 9) = foundrylaw15_ObjectBack.T9 := by kernel_rfl
theorem foundrylaw15_ObjectBack.bits9 : qBQ foundrylaw15_ObjectBack.T9.2 foundrylaw15_ObjectBack.B9 = true := by kernel_rfl
theorem foundrylaw15_ObjectBack.calls (k : Nat) (a0_0 : ByteArray) (a8 : Option Addr) (ab : Nat) (l0_1 : List (S94)) (a9 : Option Addr) (ac : Nat) (l0_2 : List (S100)) (aa : Option Addr) (ad : Nat) (l0_3 : List (S102)) (a1_0 : ByteArray) (af : Option Addr) (ai : Nat) (l1_1 : List (S94)) (ag : Option Addr) (aj : Nat) (l1_2 : List (S100)) (ah : Option Addr) (ak : Nat) (l1_3 : List (S102)) (r : Bool) (w : World) (hr0_1 : Kd.C k94 w a8 l0_1.length l0_1) (hc0_1 : l0_1.length ≤ ab) (hr0_2 : Kd.C k100 w a9 l0_2.length l0_2) (hc0_2 : l0_2.length ≤ ac) (hr0_3 : Kd.C k102 w aa l0_3.length l0_3) (hc0_3 : l0_3.length ≤ ad) (hr1_1 : Kd.C k94 w af l1_1.length l1_1) (hc1_1 : l1_1.length ≤ ai) (hr1_2 : Kd.C k100 w ag l1_2.length l1_2) (hc1_2 : l1_2.length ≤ aj) (hr1_3 : Kd.C k102 w ah l1_3.length l1_3) (hc1_3 : l1_3.length ≤ ak) (h : foundrylaw15_ObjectBack.f k a0_0 l0_1 l0_2 l0_3 a1_0 l1_1 l1_2 l1_3 = some r) :
  Calls Try.prog 4 #[.agg #[.string a0_0, .slice a8 l0_1.length ab, .slice a9 l0_2.length ac, .slice aa l0_3.length ad], .agg #[.string a1_0, .slice af l1_1.length ai, .slice ag l1_2.length aj, .slice ah l1_3.length ak]] w fun e w' => e = .returned (.bool r) ∧ Below w.heap.size w w' := by
 have cS := am hr0_1
 have cM := am hc0_1
 clear hr0_1 hc0_1
 have cT := am hr0_2
 have cN := am hc0_2
 clear hr0_2 hc0_2
 have cU := am hr0_3
 have cO := am hc0_3
 clear hr0_3 hc0_3
 have cV := am hr1_1
 have cP := am hc1_1
 clear hr1_1 hc1_1
 have cW := am hr1_2
 have cQ := am hc1_2
 clear hr1_2 hc1_2
 have cX := am hr1_3
 have cR := am hc1_3
 clear hr1_3 hc1_3
 have HB := am (Below.refl w.heap.size w)
 have H : ((qAh.f k a0_0 l0_1 l0_2 l0_3).bind fun bR => ((qAh.f k a1_0 l1_1 l1_2 l1_3).bind fun bW => ((qA9.f bR.1 bR.2.1 bR.2.2.1 bR.2.2.2).bind fun b4 => ((qA9.f bW.1 bW.2.1 bW.2.2.1 bW.2.2.2).bind fun bs => (if b4.2 = 0 then ((qAc.f k b4.1).bind fun aw => (if aw.2.2.2.2 = 0 then ((qAK.f aw.1 aw.2.1 aw.2.2.1 aw.2.2.2.1 bR.1 bR.2.1 bR.2.2.1 bR.2.2.2).bind fun cF => (if cF = true then ((qAn.f k aw.1 aw.2.1 aw.2.2.1 aw.2.2.2.1).bind fun bj => (if bj = 0 then ((qAt.f k).bind fun br => (if br = true then (if bs.2 = 0 then ((qAK.f bR.1 bR.2.1 bR.2.2.1 bR.2.2.2 bW.1 bW.2.1 bW.2.2.1 bW.2.2.2).bind fun bc => (some (bc == ((strOfNums b4.1).toList == (strOfNums bs.1).toList)))) else (some true)) else (none))) else (none))) else (none))) else (none))) else (if (b4.1.length : Int) = 0 then ((qAn.f k bR.1 bR.2.1 bR.2.2.1 bR.2.2.2).bind fun bw => (if bw = 0 then (if b4.2 = 3 then ((qAt.f k).bind fun cD => (some cD)) else (none)) else ((qAt.f k).bind fun cE => (some cE)))) else (none))))))) = some r := h
 clear h
 replace H := bm H
 obtain ⟨⟨aY, aV, aW, aX⟩, er, H⟩ := H
 replace H : ((qAh.f k a1_0 l1_1 l1_2 l1_3).bind fun bW => ((qA9.f aY aV aW aX).bind fun b4 => ((qA9.f bW.1 bW.2.1 bW.2.2.1 bW.2.2.2).bind fun bs => (if b4.2 = 0 then ((qAc.f k b4.1).bind fun aw => (if aw.2.2.2.2 = 0 then ((qAK.f aw.1 aw.2.1 aw.2.2.1 aw.2.2.2.1 aY aV aW aX).bind fun cF => (if cF = true then ((qAn.f k aw.1 aw.2.1 aw.2.2.1 aw.2.2.2.1).bind fun bj => (if bj = 0 then ((qAt.f k).bind fun br => (if br = true then (if bs.2 = 0 then ((qAK.f aY aV aW aX bW.1 bW.2.1 bW.2.2.1 bW.2.2.2).bind fun bc => (some (bc == ((strOfNums b4.1).toList == (strOfNums bs.1).toList)))) else (some true)) else (none))) else (none))) else (none))) else (none))) else (if (b4.1.length : Int) = 0 then ((qAn.f k aY aV aW aX).bind fun bw => (if bw = 0 then (if b4.2 = 3 then ((qAt.f k).bind fun cD => (some cD)) else (none)) else ((qAt.f k).bind fun cE => (some cE)))) else (none)))))) = some r := H
 have A3 := am er
 clear er
 replace H := bm H
 obtain ⟨⟨aq, ae, al, ar⟩, es, H⟩ := H
 replace H : ((qA9.f aY aV aW aX).bind fun b4 => ((qA9.f aq ae al ar).bind fun bs => (if b4.2 = 0 then ((qAc.f k b4.1).bind fun aw => (if aw.2.2.2.2 = 0 then ((qAK.f aw.1 aw.2.1 aw.2.2.1 aw.2.2.2.1 aY aV aW aX).bind fun cF => (if cF = true then ((qAn.f k aw.1 aw.2.1 aw.2.2.1 aw.2.2.2.1).bind fun bj => (if bj = 0 then ((qAt.f k).bind fun br => (if br = true then (if bs.2 = 0 then ((qAK.f aY aV aW aX aq ae al ar).bind fun bc => (some (bc == ((strOfNums b4.1).toList == (strOfNums bs.1).toList)))) else (some true)) else (none))) else (none))) else (none))) else (none))) else (if (b4.1.length : Int) = 0 then ((qAn.f k aY aV aW aX).bind fun bw => (if bw = 0 then (if b4.2 = 3 then ((qAt.f k).bind fun cD => (some cD)) else (none)) else ((qAt.f k).bind fun cE => (some cE)))) else (none))))) = some r := H
 have A4 := am es
 clear es
 replace H := bm H
 obtain ⟨⟨bd, cG⟩, et, H⟩ := H
 replace H : ((qA9.f aq ae al ar).bind fun bs => (if cG = 0 then ((qAc.f k bd).bind fun aw => (if aw.2.2.2.2 = 0 then ((qAK.f aw.1 aw.2.1 aw.2.2.1 aw.2.2.2.1 aY aV aW aX).bind fun cF => (if cF = true then ((qAn.f k aw.1 aw.2.1 aw.2.2.1 aw.2.2.2.1).bind fun bj => (if bj = 0 then ((qAt.f k).bind fun br => (if br = true then (if bs.2 = 0 then ((qAK.f aY aV aW aX aq ae al ar).bind fun bc => (some (bc == ((strOfNums bd).toList == (strOfNums bs.1).toList)))) else (some true)) else (none))) else (none))) else (none))) else (none))) else (if (bd.length : Int) = 0 then ((qAn.f k aY aV aW aX).bind fun bw => (if bw = 0 then (if cG = 3 then ((qAt.f k).bind fun cD => (some cD)) else (none)) else ((qAt.f k).bind fun cE => (some cE)))) else (none)))) = some r := H
 have A5 := am et
 clear et
 replace H := bm H
 obtain ⟨⟨cK, cI⟩, eu, H⟩ := H
 replace H : (if cG = 0 then ((qAc.f k bd).bind fun aw => (if aw.2.2.2.2 = 0 then ((qAK.f aw.1 aw.2.1 aw.2.2.1 aw.2.2.2.1 aY aV aW aX).bind fun cF => (if cF = true then ((qAn.f k aw.1 aw.2.1 aw.2.2.1 aw.2.2.2.1).bind fun bj => (if bj = 0 then ((qAt.f k).bind fun br => (if br = true then (if cI = 0 then ((qAK.f aY aV aW aX aq ae al ar).bind fun bc => (some (bc == ((strOfNums bd).toList == (strOfNums cK).toList)))) else (some true)) else (none))) else (none))) else (none))) else (none))) else (if (bd.length : Int) = 0 then ((qAn.f k aY aV aW aX).bind fun bw => (if bw = 0 then (if cG = 3 then ((qAt.f k).bind fun cD => (some cD)) else (none)) else ((qAt.f k).bind fun cE => (some cE)))) else (none))) = some r := H
 have A6 := am eu
 clear eu
 go_enter Try.func4, Try.ntmps4
 try go_wp2_with (first | ((with_reducible refine qAJ (N := 2) rfl ?_); refine bx 2 #[.string a0_0, .slice a8 l0_1.length ab, .slice a9 l0_2.length ac, .slice aa l0_3.length ad] 39 ?_; intro aE hg f7 hbox hb; have n_ := a2 (qAj HB.o hb) (a2 (hbox) (a2 (by rw [hg]; exact (qAe HB.o) : w.heap.size ≤ aE) (am (by rw [hg]; exact (qAe HB.o) : w.heap.size ≤ aE)))); clear HB; obtain ⟨HB, aC, fA, ey⟩ := n_; clear hb hbox hg) | ((with_reducible refine qAJ (N := 3) rfl ?_); refine bx 3 #[.string a1_0, .slice af l1_1.length ai, .slice ag l1_2.length aj, .slice ah l1_3.length ak] 39 ?_; intro aF hg fZ hbox hb; have n_ := a2 (qAd (g := aE) (o := .cells #[.string a0_0, .slice a8 l0_1.length ab, .slice a9 l0_2.length ac, .slice aa l0_3.length ad] 39 (0, 0)) aC.o hb) (a2 (qAj HB.o hb) (a2 (hbox) (a2 (by rw [hg]; exact (qAe HB.o) : w.heap.size ≤ aF) (a2 (by rw [hg]; exact (qAe HB.o) : w.heap.size ≤ aF) (a2 (by rw [hg]; exact Nat.ne_of_lt (qAw (g := aE) (o := .cells #[.string a0_0, .slice a8 l0_1.length ab, .slice a9 l0_2.length ac, .slice aa l0_3.length ad] 39 (0, 0)) aC.o) : aE ≠ aF) (am (by rw [hg]; exact Nat.ne_of_gt (qAw (g := aE) (o := .cells #[.string a0_0, .slice a8 l0_1.length ab, .slice a9 l0_2.length ac, .slice aa l0_3.length ad] 39 (0, 0)) aC.o) : aF ≠ aE))))))); clear aC HB; obtain ⟨aC, HB, aD, fB, ez, ci, cj⟩ := n_; clear hb hbox hg))
 have n_ := a2 (qAU aC.o) (a2 (qAU aD.o) (am (qBi HB.o)))
 clear aC aD HB
 obtain ⟨aC, aD, HB⟩ := n_
 refine qCY (n := 8) (S := fun w' => w'.cell? ⟨aE, 0, none⟩ = some (.string a0_0) ∧ w'.cell? ⟨aE, 1, none⟩ = some (.slice a8 l0_1.length ab) ∧ w'.cell? ⟨aE, 2, none⟩ = some (.slice a9 l0_2.length ac) ∧ w'.cell? ⟨aE, 3, none⟩ = some (.slice aa l0_3.length ad) ∧ w'.cell? ⟨aF, 0, none⟩ = some (.string a1_0) ∧ w'.cell? ⟨aF, 1, none⟩ = some (.slice af l1_1.length ai) ∧ w'.cell? ⟨aF, 2, none⟩ = some (.slice ag l1_2.length aj) ∧ w'.cell? ⟨aF, 3, none⟩ = some (.slice ah l1_3.length ak)) (ds := []) (mK 8 0) (by kernel_rfl) rfl rfl ⟨(qAb aC.o 0).trans rfl, (qAb aC.o 1).trans rfl, (qAb aC.o 2).trans rfl, (qAb aC.o 3).trans rfl, (qAb aD.o 0).trans rfl, (qAb aD.o 1).trans rfl, (qAb aD.o 2).trans rfl, (qAb aD.o 3).trans rfl⟩ (fun hHeld => ?_); refine qB8 foundrylaw15_ObjectBack.tab1 foundrylaw15_ObjectBack.bits1 (fun HT_ HW_ => ?_)
 generalize fZ.drew = f8 at aC aD HB hHeld ⊢
 refine tk 0 13 (mK 8 1) (qAQ HT_.o HW_.o (by kernel_rfl)) hHeld ?_
 refine tk 2 15 (mK 8 5) (qAQ HT_.o HW_.o (by kernel_rfl)) hHeld ?_
 refine qCc (σ := Value × Value × Value × Value × Value × Value × Nat × Nat) 2 (mK 8 63) (fun s_ => [(14, .agg #[.string aY, s_.1, s_.2.1, s_.2.2.1]), (16, .agg #[.string aq, s_.2.2.2.1, s_.2.2.2.2.1, s_.2.2.2.2.2.1]), (5, .pointer (some ⟨s_.2.2.2.2.2.2.1, 0, none⟩)), (6, .pointer (some ⟨s_.2.2.2.2.2.2.2, 0, none⟩))]) (fun s_ w' => (w'.cell? ⟨aE, 0, none⟩ = some (.string a0_0) ∧ w'.cell? ⟨aE, 1, none⟩ = some (.slice a8 l0_1.length ab) ∧ w'.cell? ⟨aE, 2, none⟩ = some (.slice a9 l0_2.length ac) ∧ w'.cell? ⟨aE, 3, none⟩ = some (.slice aa l0_3.length ad) ∧ w'.cell? ⟨aF, 0, none⟩ = some (.string a1_0) ∧ w'.cell? ⟨aF, 1, none⟩ = some (.slice af l1_1.length ai) ∧ w'.cell? ⟨aF, 2, none⟩ = some (.slice ag l1_2.length aj) ∧ w'.cell? ⟨aF, 3, none⟩ = some (.slice ah l1_3.length ak)) ∧ (Kd.R k71 71 w' w.heap.size (fun k_ => some k_ ≠ (s_.2.2.2.1 : Value).ownBlock) s_.1 aV) ∧ (Kd.S k80 80 w' w.heap.size (fun k_ => some k_ ≠ (s_.2.2.2.2.1 : Value).ownBlock) s_.2.1 aW) ∧ (Kd.R k82 82 w' w.heap.size (fun k_ => some k_ ≠ (s_.2.2.2.2.2.1 : Value).ownBlock) s_.2.2.1 aX) ∧ (Kd.R k71 71 w' w.heap.size (fun k_ => some k_ ≠ (s_.1 : Value).ownBlock) s_.2.2.2.1 ae) ∧ (Kd.S k80 80 w' w.heap.size (fun k_ => some k_ ≠ (s_.2.1 : Value).ownBlock) s_.2.2.2.2.1 al) ∧ (Kd.R k82 82 w' w.heap.size (fun k_ => some k_ ≠ (s_.2.2.1 : Value).ownBlock) s_.2.2.2.2.2.1 ar) ∧ (w'.heap[aE]? = some (.cells #[.string a0_0, .slice a8 l0_1.length ab, .slice a9 l0_2.length ac, .slice aa l0_3.length ad] 39 (0, 0))) ∧ (w'.heap[aF]? = some (.cells #[.string a1_0, .slice af l1_1.length ai, .slice ag l1_2.length aj, .slice ah l1_3.length ak] 39 (0, 0))) ∧ (w'.heap[s_.2.2.2.2.2.2.1]? = some (.cells #[.string ⟨#[]⟩, .slice none 0 0, .slice none 0 0, .slice none 0 0] 27 (0, 0))) ∧ (w'.heap[s_.2.2.2.2.2.2.2]? = some (.cells #[.string ⟨#[]⟩, .slice none 0 0, .slice none 0 0, .slice none 0 0] 27 (0, 0))) ∧ (w.heap.size ≤ s_.2.2.2.2.2.2.1) ∧ (w.heap.size ≤ s_.2.2.2.2.2.2.1) ∧ (aE ≠ s_.2.2.2.2.2.2.1) ∧ (s_.2.2.2.2.2.2.1 ≠ aE) ∧ (aF ≠ s_.2.2.2.2.2.2.1) ∧ (s_.2.2.2.2.2.2.1 ≠ aF) ∧ (s_.2.2.2.2.2.2.2 ≠ s_.2.2.2.2.2.2.1) ∧ (s_.2.2.2.2.2.2.1 ≠ s_.2.2.2.2.2.2.2) ∧ (w.heap.size ≤ s_.2.2.2.2.2.2.2) ∧ (w.heap.size ≤ s_.2.2.2.2.2.2.2) ∧ (aE ≠ s_.2.2.2.2.2.2.2) ∧ (s_.2.2.2.2.2.2.2 ≠ aE) ∧ (aF ≠ s_.2.2.2.2.2.2.2) ∧ (s_.2.2.2.2.2.2.2 ≠ aF) ∧ (Below w.heap.size w w')) ?_ ?_
 rotate_left
 ·intro hJ1_3_4_5
  refine qCc (σ := Value × Value × Value × Value × Value × Value × Nat) 3 (mK 8 31) (fun s_ => [(14, .agg #[.string aY, s_.1, s_.2.1, s_.2.2.1]), (16, .agg #[.string aq, s_.2.2.2.1, s_.2.2.2.2.1, s_.2.2.2.2.2.1]), (5, .pointer (some ⟨s_.2.2.2.2.2.2, 0, none⟩))]) (fun s_ w' => (w'.cell? ⟨aE, 0, none⟩ = some (.string a0_0) ∧ w'.cell? ⟨aE, 1, none⟩ = some (.slice a8 l0_1.length ab) ∧ w'.cell? ⟨aE, 2, none⟩ = some (.slice a9 l0_2.length ac) ∧ w'.cell? ⟨aE, 3, none⟩ = some (.slice aa l0_3.length ad) ∧ w'.cell? ⟨aF, 0, none⟩ = some (.string a1_0) ∧ w'.cell? ⟨aF, 1, none⟩ = some (.slice af l1_1.length ai) ∧ w'.cell? ⟨aF, 2, none⟩ = some (.slice ag l1_2.length aj) ∧ w'.cell? ⟨aF, 3, none⟩ = some (.slice ah l1_3.length ak)) ∧ (Kd.R k71 71 w' w.heap.size (fun k_ => some k_ ≠ (s_.2.2.2.1 : Value).ownBlock) s_.1 aV) ∧ (Kd.S k80 80 w' w.heap.size (fun k_ => some k_ ≠ (s_.2.2.2.2.1 : Value).ownBlock) s_.2.1 aW) ∧ (Kd.R k82 82 w' w.heap.size (fun k_ => some k_ ≠ (s_.2.2.2.2.2.1 : Value).ownBlock) s_.2.2.1 aX) ∧ (Kd.R k71 71 w' w.heap.size (fun k_ => some k_ ≠ (s_.1 : Value).ownBlock) s_.2.2.2.1 ae) ∧ (Kd.S k80 80 w' w.heap.size (fun k_ => some k_ ≠ (s_.2.1 : Value).ownBlock) s_.2.2.2.2.1 al) ∧ (Kd.R k82 82 w' w.heap.size (fun k_ => some k_ ≠ (s_.2.2.1 : Value).ownBlock) s_.2.2.2.2.2.1 ar) ∧ (w'.heap[aE]? = some (.cells #[.string a0_0, .slice a8 l0_1.length ab, .slice a9 l0_2.length ac, .slice aa l0_3.length ad] 39 (0, 0))) ∧ (w'.heap[aF]? = some (.cells #[.string a1_0, .slice af l1_1.length ai, .slice ag l1_2.length aj, .slice ah l1_3.length ak] 39 (0, 0))) ∧ (w'.heap[s_.2.2.2.2.2.2]? = some (.cells #[.string ⟨#[]⟩, .slice none 0 0, .slice none 0 0, .slice none 0 0] 27 (0, 0))) ∧ (w.heap.size ≤ s_.2.2.2.2.2.2) ∧ (w.heap.size ≤ s_.2.2.2.2.2.2) ∧ (aE ≠ s_.2.2.2.2.2.2) ∧ (s_.2.2.2.2.2.2 ≠ aE) ∧ (aF ≠ s_.2.2.2.2.2.2) ∧ (s_.2.2.2.2.2.2 ≠ aF) ∧ (Below w.heap.size w w')) ?_ ?_
  rotate_left
  ·intro hJ1_3_4
   refine qCc (σ := Value × Value × Value × Value × Value × Value × Nat) 3 (mK 8 47) (fun s_ => [(14, .agg #[.string aY, s_.1, s_.2.1, s_.2.2.1]), (16, .agg #[.string aq, s_.2.2.2.1, s_.2.2.2.2.1, s_.2.2.2.2.2.1]), (6, .pointer (some ⟨s_.2.2.2.2.2.2, 0, none⟩))]) (fun s_ w' => (w'.cell? ⟨aE, 0, none⟩ = some (.string a0_0) ∧ w'.cell? ⟨aE, 1, none⟩ = some (.slice a8 l0_1.length ab) ∧ w'.cell? ⟨aE, 2, none⟩ = some (.slice a9 l0_2.length ac) ∧ w'.cell? ⟨aE, 3, none⟩ = some (.slice aa l0_3.length ad) ∧ w'.cell? ⟨aF, 0, none⟩ = some (.string a1_0) ∧ w'.cell? ⟨aF, 1, none⟩ = some (.slice af l1_1.length ai) ∧ w'.cell? ⟨aF, 2, none⟩ = some (.slice ag l1_2.length aj) ∧ w'.cell? ⟨aF, 3, none⟩ = some (.slice ah l1_3.length ak)) ∧ (Kd.R k71 71 w' w.heap.size (fun k_ => some k_ ≠ (s_.2.2.2.1 : Value).ownBlock) s_.1 aV) ∧ (Kd.S k80 80 w' w.heap.size (fun k_ => some k_ ≠ (s_.2.2.2.2.1 : Value).ownBlock) s_.2.1 aW) ∧ (Kd.R k82 82 w' w.heap.size (fun k_ => some k_ ≠ (s_.2.2.2.2.2.1 : Value).ownBlock) s_.2.2.1 aX) ∧ (Kd.R k71 71 w' w.heap.size (fun k_ => some k_ ≠ (s_.1 : Value).ownBlock) s_.2.2.2.1 ae) ∧ (Kd.S k80 80 w' w.heap.size (fun k_ => some k_ ≠ (s_.2.1 : Value).ownBlock) s_.2.2.2.2.1 al) ∧ (Kd.R k82 82 w' w.heap.size (fun k_ => some k_ ≠ (s_.2.2.1 : Value).ownBlock) s_.2.2.2.2.2.1 ar) ∧ (w'.heap[aE]? = some (.cells #[.string a0_0, .slice a8 l0_1.length ab, .slice a9 l0_2.length ac, .slice aa l0_3.length ad] 39 (0, 0))) ∧ (w'.heap[aF]? = some (.cells #[.string a1_0, .slice af l1_1.length ai, .slice ag l1_2.length aj, .slice ah l1_3.length ak] 39 (0, 0))) ∧ (w'.heap[s_.2.2.2.2.2.2]? = some (.cells #[.string ⟨#[]⟩, .slice none 0 0, .slice none 0 0, .slice none 0 0] 27 (0, 0))) ∧ (w.heap.size ≤ s_.2.2.2.2.2.2) ∧ (w.heap.size ≤ s_.2.2.2.2.2.2) ∧ (aE ≠ s_.2.2.2.2.2.2) ∧ (s_.2.2.2.2.2.2 ≠ aE) ∧ (aF ≠ s_.2.2.2.2.2.2) ∧ (s_.2.2.2.2.2.2 ≠ aF) ∧ (Below w.heap.size w w')) ?_ ?_
   rotate_left
   ·intro hJ1_3_5
    refine qCc (σ := Value × Value × Value × Nat × Nat) 3 (mK 8 55) (fun s_ => [(14, .agg #[.string aY, s_.1, s_.2.1, s_.2.2.1]), (5, .pointer (some ⟨s_.2.2.2.1, 0, none⟩)), (6, .pointer (some ⟨s_.2.2.2.2, 0, none⟩))]) (fun s_ w' => (w'.cell? ⟨aE, 0, none⟩ = some (.string a0_0) ∧ w'.cell? ⟨aE, 1, none⟩ = some (.slice a8 l0_1.length ab) ∧ w'.cell? ⟨aE, 2, none⟩ = some (.slice a9 l0_2.length ac) ∧ w'.cell? ⟨aE, 3, none⟩ = some (.slice aa l0_3.length ad) ∧ w'.cell? ⟨aF, 0, none⟩ = some (.string a1_0) ∧ w'.cell? ⟨aF, 1, none⟩ = some (.slice af l1_1.length ai) ∧ w'.cell? ⟨aF, 2, none⟩ = some (.slice ag l1_2.length aj) ∧ w'.cell? ⟨aF, 3, none⟩ = some (.slice ah l1_3.length ak)) ∧ (Kd.R k71 71 w' w.heap.size (fun _ => True) s_.1 aV) ∧ (Kd.S k80 80 w' w.heap.size (fun _ => True) s_.2.1 aW) ∧ (Kd.R k82 82 w' w.heap.size (fun _ => True) s_.2.2.1 aX) ∧ (w'.heap[aE]? = some (.cells #[.string a0_0, .slice a8 l0_1.length ab, .slice a9 l0_2.length ac, .slice aa l0_3.length ad] 39 (0, 0))) ∧ (w'.heap[aF]? = some (.cells #[.string a1_0, .slice af l1_1.length ai, .slice ag l1_2.length aj, .slice ah l1_3.length ak] 39 (0, 0))) ∧ (w'.heap[s_.2.2.2.1]? = some (.cells #[.string ⟨#[]⟩, .slice none 0 0, .slice none 0 0, .slice none 0 0] 27 (0, 0))) ∧ (w'.heap[s_.2.2.2.2]? = some (.cells #[.string ⟨#[]⟩, .slice none 0 0, .slice none 0 0, .slice none 0 0] 27 (0, 0))) ∧ (w.heap.size ≤ s_.2.2.2.1) ∧ (w.heap.size ≤ s_.2.2.2.1) ∧ (aE ≠ s_.2.2.2.1) ∧ (s_.2.2.2.1 ≠ aE) ∧ (aF ≠ s_.2.2.2.1) ∧ (s_.2.2.2.1 ≠ aF) ∧ (s_.2.2.2.2 ≠ s_.2.2.2.1) ∧ (s_.2.2.2.1 ≠ s_.2.2.2.2) ∧ (w.heap.size ≤ s_.2.2.2.2) ∧ (w.heap.size ≤ s_.2.2.2.2) ∧ (aE ≠ s_.2.2.2.2) ∧ (s_.2.2.2.2 ≠ aE) ∧ (aF ≠ s_.2.2.2.2) ∧ (s_.2.2.2.2 ≠ aF) ∧ (Below w.heap.size w w')) ?_ ?_
    rotate_left
    ·intro hJ1_4_5
     refine qCc (σ := Value × Value × Value × Value × Value × Value) 4 (mK 8 15) (fun s_ => [(14, .agg #[.string aY, s_.1, s_.2.1, s_.2.2.1]), (16, .agg #[.string aq, s_.2.2.2.1, s_.2.2.2.2.1, s_.2.2.2.2.2])]) (fun s_ w' => (w'.cell? ⟨aE, 0, none⟩ = some (.string a0_0) ∧ w'.cell? ⟨aE, 1, none⟩ = some (.slice a8 l0_1.length ab) ∧ w'.cell? ⟨aE, 2, none⟩ = some (.slice a9 l0_2.length ac) ∧ w'.cell? ⟨aE, 3, none⟩ = some (.slice aa l0_3.length ad) ∧ w'.cell? ⟨aF, 0, none⟩ = some (.string a1_0) ∧ w'.cell? ⟨aF, 1, none⟩ = some (.slice af l1_1.length ai) ∧ w'.cell? ⟨aF, 2, none⟩ = some (.slice ag l1_2.length aj) ∧ w'.cell? ⟨aF, 3, none⟩ = some (.slice ah l1_3.length ak)) ∧ (Kd.R k71 71 w' w.heap.size (fun k_ => some k_ ≠ (s_.2.2.2.1 : Value).ownBlock) s_.1 aV) ∧ (Kd.S k80 80 w' w.heap.size (fun k_ => some k_ ≠ (s_.2.2.2.2.1 : Value).ownBlock) s_.2.1 aW) ∧ (Kd.R k82 82 w' w.heap.size (fun k_ => some k_ ≠ (s_.2.2.2.2.2 : Value).ownBlock) s_.2.2.1 aX) ∧ (Kd.R k71 71 w' w.heap.size (fun k_ => some k_ ≠ (s_.1 : Value).ownBlock) s_.2.2.2.1 ae) ∧ (Kd.S k80 80 w' w.heap.size (fun k_ => some k_ ≠ (s_.2.1 : Value).ownBlock) s_.2.2.2.2.1 al) ∧ (Kd.R k82 82 w' w.heap.size (fun k_ => some k_ ≠ (s_.2.2.1 : Value).ownBlock) s_.2.2.2.2.2 ar) ∧ (w'.heap[aE]? = some (.cells #[.string a0_0, .slice a8 l0_1.length ab, .slice a9 l0_2.length ac, .slice aa l0_3.length ad] 39 (0, 0))) ∧ (w'.heap[aF]? = some (.cells #[.string a1_0, .slice af l1_1.length ai, .slice ag l1_2.length aj, .slice ah l1_3.length ak] 39 (0, 0))) ∧ (Below w.heap.size w w')) ?_ ?_
     rotate_left
     ·intro hJ1_3
      refine qCc (σ := Value × Value × Value × Nat) 4 (mK 8 23) (fun s_ => [(14, .agg #[.string aY, s_.1, s_.2.1, s_.2.2.1]), (5, .pointer (some ⟨s_.2.2.2, 0, none⟩))]) (fun s_ w' => (w'.cell? ⟨aE, 0, none⟩ = some (.string a0_0) ∧ w'.cell? ⟨aE, 1, none⟩ = some (.slice a8 l0_1.length ab) ∧ w'.cell? ⟨aE, 2, none⟩ = some (.slice a9 l0_2.length ac) ∧ w'.cell? ⟨aE, 3, none⟩ = some (.slice aa l0_3.length ad) ∧ w'.cell? ⟨aF, 0, none⟩ = some (.string a1_0) ∧ w'.cell? ⟨aF, 1, none⟩ = some (.slice af l1_1.length ai) ∧ w'.cell? ⟨aF, 2, none⟩ = some (.slice ag l1_2.length aj) ∧ w'.cell? ⟨aF, 3, none⟩ = some (.slice ah l1_3.length ak)) ∧ (Kd.R k71 71 w' w.heap.size (fun _ => True) s_.1 aV) ∧ (Kd.S k80 80 w' w.heap.size (fun _ => True) s_.2.1 aW) ∧ (Kd.R k82 82 w' w.heap.size (fun _ => True) s_.2.2.1 aX) ∧ (w'.heap[aE]? = some (.cells #[.string a0_0, .slice a8 l0_1.length ab, .slice a9 l0_2.length ac, .slice aa l0_3.length ad] 39 (0, 0))) ∧ (w'.heap[aF]? = some (.cells #[.string a1_0, .slice af l1_1.length ai, .slice ag l1_2.length aj, .slice ah l1_3.length ak] 39 (0, 0))) ∧ (w'.heap[s_.2.2.2]? = some (.cells #[.string ⟨#[]⟩, .slice none 0 0, .slice none 0 0, .slice none 0 0] 27 (0, 0))) ∧ (w.heap.size ≤ s_.2.2.2) ∧ (w.heap.size ≤ s_.2.2.2) ∧ (aE ≠ s_.2.2.2) ∧ (s_.2.2.2 ≠ aE) ∧ (aF ≠ s_.2.2.2) ∧ (s_.2.2.2 ≠ aF) ∧ (Below w.heap.size w w')) ?_ ?_
      rotate_left
      ·intro hJ1_4
       refine qCc (σ := Value × Value × Value × Nat) 4 (mK 8 39) (fun s_ => [(14, .agg #[.string aY, s_.1, s_.2.1, s_.2.2.1]), (6, .pointer (some ⟨s_.2.2.2, 0, none⟩))]) (fun s_ w' => (w'.cell? ⟨aE, 0, none⟩ = some (.string a0_0) ∧ w'.cell? ⟨aE, 1, none⟩ = some (.slice a8 l0_1.length ab) ∧ w'.cell? ⟨aE, 2, none⟩ = some (.slice a9 l0_2.length ac) ∧ w'.cell? ⟨aE, 3, none⟩ = some (.slice aa l0_3.length ad) ∧ w'.cell? ⟨aF, 0, none⟩ = some (.string a1_0) ∧ w'.cell? ⟨aF, 1, none⟩ = some (.slice af l1_1.length ai) ∧ w'.cell? ⟨aF, 2, none⟩ = some (.slice ag l1_2.length aj) ∧ w'.cell? ⟨aF, 3, none⟩ = some (.slice ah l1_3.length ak)) ∧ (Kd.R k71 71 w' w.heap.size (fun _ => True) s_.1 aV) ∧ (Kd.S k80 80 w' w.heap.size (fun _ => True) s_.2.1 aW) ∧ (Kd.R k82 82 w' w.heap.size (fun _ => True) s_.2.2.1 aX) ∧ (w'.heap[aE]? = some (.cells #[.string a0_0, .slice a8 l0_1.length ab, .slice a9 l0_2.length ac, .slice aa l0_3.length ad] 39 (0, 0))) ∧ (w'.heap[aF]? = some (.cells #[.string a1_0, .slice af l1_1.length ai, .slice ag l1_2.length aj, .slice ah l1_3.length ak] 39 (0, 0))) ∧ (w'.heap[s_.2.2.2]? = some (.cells #[.string ⟨#[]⟩, .slice none 0 0, .slice none 0 0, .slice none 0 0] 27 (0, 0))) ∧ (w.heap.size ≤ s_.2.2.2) ∧ (w.heap.size ≤ s_.2.2.2) ∧ (aE ≠ s_.2.2.2) ∧ (s_.2.2.2 ≠ aE) ∧ (aF ≠ s_.2.2.2) ∧ (s_.2.2.2 ≠ aF) ∧ (Below w.heap.size w w')) ?_ ?_
       rotate_left
       ·intro hJ1_5
        refine qCc (σ := Nat × Nat) 4 (mK 8 53) (fun s_ => [(5, .pointer (some ⟨s_.1, 0, none⟩)), (6, .pointer (some ⟨s_.2, 0, none⟩))]) (fun s_ w' => (w'.cell? ⟨aE, 0, none⟩ = some (.string a0_0) ∧ w'.cell? ⟨aE, 1, none⟩ = some (.slice a8 l0_1.length ab) ∧ w'.cell? ⟨aE, 2, none⟩ = some (.slice a9 l0_2.length ac) ∧ w'.cell? ⟨aE, 3, none⟩ = some (.slice aa l0_3.length ad) ∧ w'.cell? ⟨aF, 0, none⟩ = some (.string a1_0) ∧ w'.cell? ⟨aF, 1, none⟩ = some (.slice af l1_1.length ai) ∧ w'.cell? ⟨aF, 2, none⟩ = some (.slice ag l1_2.length aj) ∧ w'.cell? ⟨aF, 3, none⟩ = some (.slice ah l1_3.length ak)) ∧ (w'.heap[aE]? = some (.cells #[.string a0_0, .slice a8 l0_1.length ab, .slice a9 l0_2.length ac, .slice aa l0_3.length ad] 39 (0, 0))) ∧ (w'.heap[aF]? = some (.cells #[.string a1_0, .slice af l1_1.length ai, .slice ag l1_2.length aj, .slice ah l1_3.length ak] 39 (0, 0))) ∧ (w'.heap[s_.1]? = some (.cells #[.string ⟨#[]⟩, .slice none 0 0, .slice none 0 0, .slice none 0 0] 27 (0, 0))) ∧ (w'.heap[s_.2]? = some (.cells #[.string ⟨#[]⟩, .slice none 0 0, .slice none 0 0, .slice none 0 0] 27 (0, 0))) ∧ (w.heap.size ≤ s_.1) ∧ (w.heap.size ≤ s_.1) ∧ (aE ≠ s_.1) ∧ (s_.1 ≠ aE) ∧ (aF ≠ s_.1) ∧ (s_.1 ≠ aF) ∧ (s_.2 ≠ s_.1) ∧ (s_.1 ≠ s_.2) ∧ (w.heap.size ≤ s_.2) ∧ (w.heap.size ≤ s_.2) ∧ (aE ≠ s_.2) ∧ (s_.2 ≠ aE) ∧ (aF ≠ s_.2) ∧ (s_.2 ≠ aF) ∧ (Below w.heap.size w w')) ?_ ?_
        rotate_left
        ·intro hJ4_5
         refine qCc (σ := Value × Value × Value) 5 (mK 8 7) (fun s_ => [(14, .agg #[.string aY, s_.1, s_.2.1, s_.2.2])]) (fun s_ w' => (w'.cell? ⟨aE, 0, none⟩ = some (.string a0_0) ∧ w'.cell? ⟨aE, 1, none⟩ = some (.slice a8 l0_1.length ab) ∧ w'.cell? ⟨aE, 2, none⟩ = some (.slice a9 l0_2.length ac) ∧ w'.cell? ⟨aE, 3, none⟩ = some (.slice aa l0_3.length ad) ∧ w'.cell? ⟨aF, 0, none⟩ = some (.string a1_0) ∧ w'.cell? ⟨aF, 1, none⟩ = some (.slice af l1_1.length ai) ∧ w'.cell? ⟨aF, 2, none⟩ = some (.slice ag l1_2.length aj) ∧ w'.cell? ⟨aF, 3, none⟩ = some (.slice ah l1_3.length ak)) ∧ (Kd.R k71 71 w' w.heap.size (fun _ => True) s_.1 aV) ∧ (Kd.S k80 80 w' w.heap.size (fun _ => True) s_.2.1 aW) ∧ (Kd.R k82 82 w' w.heap.size (fun _ => True) s_.2.2 aX) ∧ (w'.heap[aE]? = some (.cells #[.string a0_0, .slice a8 l0_1.length ab, .slice a9 l0_2.length ac, .slice aa l0_3.length ad] 39 (0, 0))) ∧ (w'.heap[aF]? = some (.cells #[.string a1_0, .slice af l1_1.length ai, .slice ag l1_2.length aj, .slice ah l1_3.length ak] 39 (0, 0))) ∧ (Below w.heap.size w w')) ?_ ?_
         rotate_left
         ·intro hJ1
          refine qCc (σ := Nat) 5 (mK 8 21) (fun s_ => [(5, .pointer (some ⟨s_, 0, none⟩))]) (fun s_ w' => (w'.cell? ⟨aE, 0, none⟩ = some (.string a0_0) ∧ w'.cell? ⟨aE, 1, none⟩ = some (.slice a8 l0_1.length ab) ∧ w'.cell? ⟨aE, 2, none⟩ = some (.slice a9 l0_2.length ac) ∧ w'.cell? ⟨aE, 3, none⟩ = some (.slice aa l0_3.length ad) ∧ w'.cell? ⟨aF, 0, none⟩ = some (.string a1_0) ∧ w'.cell? ⟨aF, 1, none⟩ = some (.slice af l1_1.length ai) ∧ w'.cell? ⟨aF, 2, none⟩ = some (.slice ag l1_2.length aj) ∧ w'.cell? ⟨aF, 3, none⟩ = some (.slice ah l1_3.length ak)) ∧ (w'.heap[aE]? = some (.cells #[.string a0_0, .slice a8 l0_1.length ab, .slice a9 l0_2.length ac, .slice aa l0_3.length ad] 39 (0, 0))) ∧ (w'.heap[aF]? = some (.cells #[.string a1_0, .slice af l1_1.length ai, .slice ag l1_2.length aj, .slice ah l1_3.length ak] 39 (0, 0))) ∧ (w'.heap[s_]? = some (.cells #[.string ⟨#[]⟩, .slice none 0 0, .slice none 0 0, .slice none 0 0] 27 (0, 0))) ∧ (w.heap.size ≤ s_) ∧ (w.heap.size ≤ s_) ∧ (aE ≠ s_) ∧ (s_ ≠ aE) ∧ (aF ≠ s_) ∧ (s_ ≠ aF) ∧ (Below w.heap.size w w')) ?_ ?_
          rotate_left
          ·intro hJ4
           refine qCc (σ := Nat) 5 (mK 8 37) (fun s_ => [(6, .pointer (some ⟨s_, 0, none⟩))]) (fun s_ w' => (w'.cell? ⟨aE, 0, none⟩ = some (.string a0_0) ∧ w'.cell? ⟨aE, 1, none⟩ = some (.slice a8 l0_1.length ab) ∧ w'.cell? ⟨aE, 2, none⟩ = some (.slice a9 l0_2.length ac) ∧ w'.cell? ⟨aE, 3, none⟩ = some (.slice aa l0_3.length ad) ∧ w'.cell? ⟨aF, 0, none⟩ = some (.string a1_0) ∧ w'.cell? ⟨aF, 1, none⟩ = some (.slice af l1_1.length ai) ∧ w'.cell? ⟨aF, 2, none⟩ = some (.slice ag l1_2.length aj) ∧ w'.cell? ⟨aF, 3, none⟩ = some (.slice ah l1_3.length ak)) ∧ (w'.heap[aE]? = some (.cells #[.string a0_0, .slice a8 l0_1.length ab, .slice a9 l0_2.length ac, .slice aa l0_3.length ad] 39 (0, 0))) ∧ (w'.heap[aF]? = some (.cells #[.string a1_0, .slice af l1_1.length ai, .slice ag l1_2.length aj, .slice ah l1_3.length ak] 39 (0, 0))) ∧ (w'.heap[s_]? = some (.cells #[.string ⟨#[]⟩, .slice none 0 0, .slice none 0 0, .slice none 0 0] 27 (0, 0))) ∧ (w.heap.size ≤ s_) ∧ (w.heap.size ≤ s_) ∧ (aE ≠ s_) ∧ (s_ ≠ aE) ∧ (aF ≠ s_) ∧ (s_ ≠ aF) ∧ (Below w.heap.size w w')) ?_ ?_
           rotate_left
           ·intro hJ5
            refine three_ (i := 1) (j := 4) (k := 5) (Ni := some 14) (Nj := some 5) (Nk := some 6) (mK 8 7) (mK 8 21) (mK 8 37) rfl rfl rfl rfl rfl rfl (qEt HT_.o (by kernel_rfl)) (by decide) (by decide) (by decide) (fun K hK => ?_) (fun K hK => ?_) (fun K hK => ?_)
            ·skip
             refine qCy Try.func10 (by kernel_rfl) rfl #[.agg #[.string a0_0, .slice a8 l0_1.length ab, .slice a9 l0_2.length ac, .slice aa l0_3.length ad]] (by rfl) rfl rfl (by (try simp only [List.map_toArray, List.map_cons, List.map_nil]); (rfl)) ?_
             with_reducible refine (qAh.calls k a0_0 _ _ l0_1 _ _ l0_2 _ _ l0_3 aY aV aW aX _ ?side1 ?side2 ?side3 ?side4 ?side5 ?side6 A3.o).mono ?_
             (case side1 => exact (Kd.C_below cS.o HB.o))
             (case side2 => exact cM.o)
             (case side3 => exact (Kd.C_below cT.o HB.o))
             (case side4 => exact cN.o)
             (case side5 => exact (Kd.C_below cU.o HB.o))
             (case side6 => exact cO.o)
             rintro e fO ⟨bX, bY, bZ, rfl, bb, cA, cB, hb⟩
             refine ⟨_, rfl, ?_⟩
             have n_ := a2 (Kd.R_lower bb (qAe HB.o)) (a2 (Kd.S_lower cA (qAe HB.o)) (a2 (Kd.R_lower cB (qAe HB.o)) (a2 (qAd (g := aE) (o := .cells #[.string a0_0, .slice a8 l0_1.length ab, .slice a9 l0_2.length ac, .slice aa l0_3.length ad] 39 (0, 0)) aC.o hb) (a2 (qAd (g := aF) (o := .cells #[.string a1_0, .slice af l1_1.length ai, .slice ag l1_2.length aj, .slice ah l1_3.length ak] 39 (0, 0)) aD.o hb) (am (qAj HB.o hb))))))
             clear aC aD HB
             obtain ⟨aI, aJ, aK, aC, aD, HB⟩ := n_
             (try clear hb)
             (skip)
             (skip)
             (skip)
             (try clear bb)
             (try clear cA)
             (try clear cB)
             refine hK.o _ _ ⟨(qAb aC.o 0).trans rfl, (qAb aC.o 1).trans rfl, (qAb aC.o 2).trans rfl, (qAb aC.o 3).trans rfl, (qAb aD.o 0).trans rfl, (qAb aD.o 1).trans rfl, (qAb aD.o 2).trans rfl, (qAb aD.o 3).trans rfl⟩ (fun hHeld => ?_)
             clear hK K
             refine nm ?_
             exact nq (hJ1 (bX, bY, bZ) _ ⟨hHeld, aI.o, aJ.o, aK.o, aC.o, aD.o, HB.o⟩)
            ·skip
             refine qBp ?hg (N := 5) ?hd (cs := #[.string ⟨#[]⟩, .slice none 0 0, .slice none 0 0, .slice none 0 0]) (t := 27) ?hr ?_; (case hd => rfl); (case hg => rfl); (case hr => (go_simp; done))
             intro aB hg fO hbox hb
             have n_ := a2 (qAd (g := aE) (o := .cells #[.string a0_0, .slice a8 l0_1.length ab, .slice a9 l0_2.length ac, .slice aa l0_3.length ad] 39 (0, 0)) aC.o hb) (a2 (qAd (g := aF) (o := .cells #[.string a1_0, .slice af l1_1.length ai, .slice ag l1_2.length aj, .slice ah l1_3.length ak] 39 (0, 0)) aD.o hb) (a2 (qAj HB.o hb) (a2 (hbox) (a2 (by rw [hg]; exact (qAe HB.o) : w.heap.size ≤ aB) (a2 (by rw [hg]; exact (qAe HB.o) : w.heap.size ≤ aB) (a2 (by rw [hg]; exact Nat.ne_of_lt (qAw (g := aE) (o := .cells #[.string a0_0, .slice a8 l0_1.length ab, .slice a9 l0_2.length ac, .slice aa l0_3.length ad] 39 (0, 0)) aC.o) : aE ≠ aB) (a2 (by rw [hg]; exact Nat.ne_of_gt (qAw (g := aE) (o := .cells #[.string a0_0, .slice a8 l0_1.length ab, .slice a9 l0_2.length ac, .slice aa l0_3.length ad] 39 (0, 0)) aC.o) : aB ≠ aE) (a2 (by rw [hg]; exact Nat.ne_of_lt (qAw (g := aF) (o := .cells #[.string a1_0, .slice af l1_1.length ai, .slice ag l1_2.length aj, .slice ah l1_3.length ak] 39 (0, 0)) aD.o) : aF ≠ aB) (am (by rw [hg]; exact Nat.ne_of_gt (qAw (g := aF) (o := .cells #[.string a1_0, .slice af l1_1.length ai, .slice ag l1_2.length aj, .slice ah l1_3.length ak] 39 (0, 0)) aD.o) : aB ≠ aF))))))))))
             clear aC aD HB
             obtain ⟨aC, aD, HB, aG, b0, bS, aM, ao, aN, ap⟩ := n_
             clear hb hbox hg
             refine hK.o _ _ ⟨(qAb aC.o 0).trans rfl, (qAb aC.o 1).trans rfl, (qAb aC.o 2).trans rfl, (qAb aC.o 3).trans rfl, (qAb aD.o 0).trans rfl, (qAb aD.o 1).trans rfl, (qAb aD.o 2).trans rfl, (qAb aD.o 3).trans rfl⟩ (fun hHeld => ?_)
             clear hK K
             refine nm ?_
             exact nq (hJ4 (aB) _ ⟨hHeld, aC.o, aD.o, aG.o, b0.o, bS.o, aM.o, ao.o, aN.o, ap.o, HB.o⟩)
            ·skip
             refine qBp ?hg (N := 6) ?hd (cs := #[.string ⟨#[]⟩, .slice none 0 0, .slice none 0 0, .slice none 0 0]) (t := 27) ?hr ?_; (case hd => rfl); (case hg => rfl); (case hr => (go_simp; done))
             intro aA hg fO hbox hb
             have n_ := a2 (qAd (g := aE) (o := .cells #[.string a0_0, .slice a8 l0_1.length ab, .slice a9 l0_2.length ac, .slice aa l0_3.length ad] 39 (0, 0)) aC.o hb) (a2 (qAd (g := aF) (o := .cells #[.string a1_0, .slice af l1_1.length ai, .slice ag l1_2.length aj, .slice ah l1_3.length ak] 39 (0, 0)) aD.o hb) (a2 (qAj HB.o hb) (a2 (hbox) (a2 (by rw [hg]; exact (qAe HB.o) : w.heap.size ≤ aA) (a2 (by rw [hg]; exact (qAe HB.o) : w.heap.size ≤ aA) (a2 (by rw [hg]; exact Nat.ne_of_lt (qAw (g := aE) (o := .cells #[.string a0_0, .slice a8 l0_1.length ab, .slice a9 l0_2.length ac, .slice aa l0_3.length ad] 39 (0, 0)) aC.o) : aE ≠ aA) (a2 (by rw [hg]; exact Nat.ne_of_gt (qAw (g := aE) (o := .cells #[.string a0_0, .slice a8 l0_1.length ab, .slice a9 l0_2.length ac, .slice aa l0_3.length ad] 39 (0, 0)) aC.o) : aA ≠ aE) (a2 (by rw [hg]; exact Nat.ne_of_lt (qAw (g := aF) (o := .cells #[.string a1_0, .slice af l1_1.length ai, .slice ag l1_2.length aj, .slice ah l1_3.length ak] 39 (0, 0)) aD.o) : aF ≠ aA) (am (by rw [hg]; exact Nat.ne_of_gt (qAw (g := aF) (o := .cells #[.string a1_0, .slice af l1_1.length ai, .slice ag l1_2.length aj, .slice ah l1_3.length ak] 39 (0, 0)) aD.o) : aA ≠ aF))))))))))
             clear aC aD HB
             obtain ⟨aC, aD, HB, aH, b1, bT, aO, au, aP, av⟩ := n_
             clear hb hbox hg
             refine hK.o _ _ ⟨(qAb aC.o 0).trans rfl, (qAb aC.o 1).trans rfl, (qAb aC.o 2).trans rfl, (qAb aC.o 3).trans rfl, (qAb aD.o 0).trans rfl, (qAb aD.o 1).trans rfl, (qAb aD.o 2).trans rfl, (qAb aD.o 3).trans rfl⟩ (fun hHeld => ?_)
             clear hK K
             refine nm ?_
             exact nq (hJ5 (aA) _ ⟨hHeld, aC.o, aD.o, aH.o, b1.o, bT.o, aO.o, au.o, aP.o, av.o, HB.o⟩)
           ·skip
            rintro aA cL ⟨hS_, h0_, h1_, h2_, h3_, h4_, h5_, h6_, h7_, h8_, h9_⟩
            have n0_ : qAa (cL.heap[aE]? = some (.cells #[.string a0_0, .slice a8 l0_1.length ab, .slice a9 l0_2.length ac, .slice aa l0_3.length ad] 39 (0, 0))) := ⟨h0_⟩
            have n1_ : qAa (cL.heap[aF]? = some (.cells #[.string a1_0, .slice af l1_1.length ai, .slice ag l1_2.length aj, .slice ah l1_3.length ak] 39 (0, 0))) := ⟨h1_⟩
            have n2_ : qAa (cL.heap[aA]? = some (.cells #[.string ⟨#[]⟩, .slice none 0 0, .slice none 0 0, .slice none 0 0] 27 (0, 0))) := ⟨h2_⟩
            have n3_ : qAa (w.heap.size ≤ aA) := ⟨h3_⟩
            have n4_ : qAa (w.heap.size ≤ aA) := ⟨h4_⟩
            have n5_ : qAa (aE ≠ aA) := ⟨h5_⟩
            have n6_ : qAa (aA ≠ aE) := ⟨h6_⟩
            have n7_ : qAa (aF ≠ aA) := ⟨h7_⟩
            have n8_ : qAa (aA ≠ aF) := ⟨h8_⟩
            have n9_ : qAa (Below w.heap.size w cL) := ⟨h9_⟩
            clear aC aD HB h0_ h1_ h2_ h3_ h4_ h5_ h6_ h7_ h8_ h9_
            have aC := n0_
            have aD := n1_
            have aH := n2_
            have b1 := n3_
            have bT := n4_
            have aO := n5_
            have au := n6_
            have aP := n7_
            have av := n8_
            have HB := n9_
            clear n0_ n1_ n2_ n3_ n4_ n5_ n6_ n7_ n8_ n9_
            refine qBX (a' := ?_) ?_ ?_
            rotate_left
            ·simp only [qBx, Act.put, List.setIfInBounds_toArray, List.set_cons_zero, List.set_cons_succ]
             rfl
            refine two_ (i := 1) (j := 4) (Ni := some 14) (Nj := some 5) (mK 8 39) (mK 8 53) rfl rfl rfl rfl (qDb HT_.o (by kernel_rfl)) (by decide) (by decide) (fun K hK => ?_) (fun K hK => ?_)
            ·skip
             refine qCy Try.func10 (by kernel_rfl) rfl #[.agg #[.string a0_0, .slice a8 l0_1.length ab, .slice a9 l0_2.length ac, .slice aa l0_3.length ad]] (by rfl) rfl rfl (by (try simp only [List.map_toArray, List.map_cons, List.map_nil]); (rfl)) ?_
             with_reducible refine (qAh.calls k a0_0 _ _ l0_1 _ _ l0_2 _ _ l0_3 aY aV aW aX _ ?side1 ?side2 ?side3 ?side4 ?side5 ?side6 A3.o).mono ?_
             (case side1 => exact (Kd.C_below cS.o HB.o))
             (case side2 => exact cM.o)
             (case side3 => exact (Kd.C_below cT.o HB.o))
             (case side4 => exact cN.o)
             (case side5 => exact (Kd.C_below cU.o HB.o))
             (case side6 => exact cO.o)
             rintro e bz ⟨bX, bY, bZ, rfl, bb, cA, cB, hb⟩
             refine ⟨_, rfl, ?_⟩
             have n_ := a2 (Kd.R_lower bb (qAe HB.o)) (a2 (Kd.S_lower cA (qAe HB.o)) (a2 (Kd.R_lower cB (qAe HB.o)) (a2 (qAd (g := aE) (o := .cells #[.string a0_0, .slice a8 l0_1.length ab, .slice a9 l0_2.length ac, .slice aa l0_3.length ad] 39 (0, 0)) aC.o hb) (a2 (qAd (g := aF) (o := .cells #[.string a1_0, .slice af l1_1.length ai, .slice ag l1_2.length aj, .slice ah l1_3.length ak] 39 (0, 0)) aD.o hb) (a2 (qAd (g := aA) (o := .cells #[.string ⟨#[]⟩, .slice none 0 0, .slice none 0 0, .slice none 0 0] 27 (0, 0)) aH.o hb) (am (qAj HB.o hb)))))))
             clear aC aD aH HB
             obtain ⟨aI, aJ, aK, aC, aD, aH, HB⟩ := n_
             (try clear hb)
             (skip)
             (skip)
             (skip)
             (try clear bb)
             (try clear cA)
             (try clear cB)
             refine hK.o _ _ ⟨(qAb aC.o 0).trans rfl, (qAb aC.o 1).trans rfl, (qAb aC.o 2).trans rfl, (qAb aC.o 3).trans rfl, (qAb aD.o 0).trans rfl, (qAb aD.o 1).trans rfl, (qAb aD.o 2).trans rfl, (qAb aD.o 3).trans rfl⟩ (fun hHeld => ?_)
             clear hK K
             refine nm ?_
             exact nq (hJ1_5 (bX, bY, bZ, aA) _ ⟨hHeld, aI.o, aJ.o, aK.o, aC.o, aD.o, aH.o, b1.o, bT.o, aO.o, au.o, aP.o, av.o, HB.o⟩)
            ·skip
             refine qBp ?hg (N := 5) ?hd (cs := #[.string ⟨#[]⟩, .slice none 0 0, .slice none 0 0, .slice none 0 0]) (t := 27) ?hr ?_; (case hd => rfl); (case hg => rfl); (case hr => (go_simp; done))
             intro aB hg bz hbox hb
             have n_ := a2 (qAd (g := aE) (o := .cells #[.string a0_0, .slice a8 l0_1.length ab, .slice a9 l0_2.length ac, .slice aa l0_3.length ad] 39 (0, 0)) aC.o hb) (a2 (qAd (g := aF) (o := .cells #[.string a1_0, .slice af l1_1.length ai, .slice ag l1_2.length aj, .slice ah l1_3.length ak] 39 (0, 0)) aD.o hb) (a2 (qAd (g := aA) (o := .cells #[.string ⟨#[]⟩, .slice none 0 0, .slice none 0 0, .slice none 0 0] 27 (0, 0)) aH.o hb) (a2 (qAj HB.o hb) (a2 (hbox) (a2 (by rw [hg]; exact (qAe HB.o) : w.heap.size ≤ aB) (a2 (by rw [hg]; exact (qAe HB.o) : w.heap.size ≤ aB) (a2 (by rw [hg]; exact Nat.ne_of_lt (qAw (g := aE) (o := .cells #[.string a0_0, .slice a8 l0_1.length ab, .slice a9 l0_2.length ac, .slice aa l0_3.length ad] 39 (0, 0)) aC.o) : aE ≠ aB) (a2 (by rw [hg]; exact Nat.ne_of_gt (qAw (g := aE) (o := .cells #[.string a0_0, .slice a8 l0_1.length ab, .slice a9 l0_2.length ac, .slice aa l0_3.length ad] 39 (0, 0)) aC.o) : aB ≠ aE) (a2 (by rw [hg]; exact Nat.ne_of_lt (qAw (g := aF) (o := .cells #[.string a1_0, .slice af l1_1.length ai, .slice ag l1_2.length aj, .slice ah l1_3.length ak] 39 (0, 0)) aD.o) : aF ≠ aB) (a2 (by rw [hg]; exact Nat.ne_of_gt (qAw (g := aF) (o := .cells #[.string a1_0, .slice af l1_1.length ai, .slice ag l1_2.length aj, .slice ah l1_3.length ak] 39 (0, 0)) aD.o) : aB ≠ aF) (a2 (by rw [hg]; exact Nat.ne_of_lt (qAw (g := aA) (o := .cells #[.string ⟨#[]⟩, .slice none 0 0, .slice none 0 0, .slice none 0 0] 27 (0, 0)) aH.o) : aA ≠ aB) (am (by rw [hg]; exact Nat.ne_of_gt (qAw (g := aA) (o := .cells #[.string ⟨#[]⟩, .slice none 0 0, .slice none 0 0, .slice none 0 0] 27 (0, 0)) aH.o) : aB ≠ aA)))))))))))))
             clear aC aD aH HB
             obtain ⟨aC, aD, aH, HB, aG, b0, bS, aM, ao, aN, ap, aU, aT⟩ := n_
             clear hb hbox hg
             refine hK.o _ _ ⟨(qAb aC.o 0).trans rfl, (qAb aC.o 1).trans rfl, (qAb aC.o 2).trans rfl, (qAb aC.o 3).trans rfl, (qAb aD.o 0).trans rfl, (qAb aD.o 1).trans rfl, (qAb aD.o 2).trans rfl, (qAb aD.o 3).trans rfl⟩ (fun hHeld => ?_)
             clear hK K
             refine nm ?_
             exact nq (hJ4_5 (aB, aA) _ ⟨hHeld, aC.o, aD.o, aG.o, aH.o, b0.o, bS.o, aM.o, ao.o, aN.o, ap.o, aU.o, aT.o, b1.o, bT.o, aO.o, au.o, aP.o, av.o, HB.o⟩)
          ·skip
           rintro aB cL ⟨hS_, h0_, h1_, h2_, h3_, h4_, h5_, h6_, h7_, h8_, h9_⟩
           have n0_ : qAa (cL.heap[aE]? = some (.cells #[.string a0_0, .slice a8 l0_1.length ab, .slice a9 l0_2.length ac, .slice aa l0_3.length ad] 39 (0, 0))) := ⟨h0_⟩
           have n1_ : qAa (cL.heap[aF]? = some (.cells #[.string a1_0, .slice af l1_1.length ai, .slice ag l1_2.length aj, .slice ah l1_3.length ak] 39 (0, 0))) := ⟨h1_⟩
           have n2_ : qAa (cL.heap[aB]? = some (.cells #[.string ⟨#[]⟩, .slice none 0 0, .slice none 0 0, .slice none 0 0] 27 (0, 0))) := ⟨h2_⟩
           have n3_ : qAa (w.heap.size ≤ aB) := ⟨h3_⟩
           have n4_ : qAa (w.heap.size ≤ aB) := ⟨h4_⟩
           have n5_ : qAa (aE ≠ aB) := ⟨h5_⟩
           have n6_ : qAa (aB ≠ aE) := ⟨h6_⟩
           have n7_ : qAa (aF ≠ aB) := ⟨h7_⟩
           have n8_ : qAa (aB ≠ aF) := ⟨h8_⟩
           have n9_ : qAa (Below w.heap.size w cL) := ⟨h9_⟩
           clear aC aD HB h0_ h1_ h2_ h3_ h4_ h5_ h6_ h7_ h8_ h9_
           have aC := n0_
           have aD := n1_
           have aG := n2_
           have b0 := n3_
           have bS := n4_
           have aM := n5_
           have ao := n6_
           have aN := n7_
           have ap := n8_
           have HB := n9_
           clear n0_ n1_ n2_ n3_ n4_ n5_ n6_ n7_ n8_ n9_
           refine qBX (a' := ?_) ?_ ?_
           rotate_left
           ·simp only [qBx, Act.put, List.setIfInBounds_toArray, List.set_cons_zero, List.set_cons_succ]
            rfl
           refine two_ (i := 1) (j := 5) (Ni := some 14) (Nj := some 6) (mK 8 23) (mK 8 53) rfl rfl rfl rfl (qDb HT_.o (by kernel_rfl)) (by decide) (by decide) (fun K hK => ?_) (fun K hK => ?_)
           ·skip
            refine qCy Try.func10 (by kernel_rfl) rfl #[.agg #[.string a0_0, .slice a8 l0_1.length ab, .slice a9 l0_2.length ac, .slice aa l0_3.length ad]] (by rfl) rfl rfl (by (try simp only [List.map_toArray, List.map_cons, List.map_nil]); (rfl)) ?_
            with_reducible refine (qAh.calls k a0_0 _ _ l0_1 _ _ l0_2 _ _ l0_3 aY aV aW aX _ ?side1 ?side2 ?side3 ?side4 ?side5 ?side6 A3.o).mono ?_
            (case side1 => exact (Kd.C_below cS.o HB.o))
            (case side2 => exact cM.o)
            (case side3 => exact (Kd.C_below cT.o HB.o))
            (case side4 => exact cN.o)
            (case side5 => exact (Kd.C_below cU.o HB.o))
            (case side6 => exact cO.o)
            rintro e bz ⟨bX, bY, bZ, rfl, bb, cA, cB, hb⟩
            refine ⟨_, rfl, ?_⟩
            have n_ := a2 (Kd.R_lower bb (qAe HB.o)) (a2 (Kd.S_lower cA (qAe HB.o)) (a2 (Kd.R_lower cB (qAe HB.o)) (a2 (qAd (g := aE) (o := .cells #[.string a0_0, .slice a8 l0_1.length ab, .slice a9 l0_2.length ac, .slice aa l0_3.length ad] 39 (0, 0)) aC.o hb) (a2 (qAd (g := aF) (o := .cells #[.string a1_0, .slice af l1_1.length ai, .slice ag l1_2.length aj, .slice ah l1_3.length ak] 39 (0, 0)) aD.o hb) (a2 (qAd (g := aB) (o := .cells #[.string ⟨#[]⟩, .slice none 0 0, .slice none 0 0, .slice none 0 0] 27 (0, 0)) aG.o hb) (am (qAj HB.o hb)))))))
            clear aC aD aG HB
            obtain ⟨aI, aJ, aK, aC, aD, aG, HB⟩ := n_
            (try clear hb)
            (skip)
            (skip)
            (skip)
            (try clear bb)
            (try clear cA)
            (try clear cB)
            refine hK.o _ _ ⟨(qAb aC.o 0).trans rfl, (qAb aC.o 1).trans rfl, (qAb aC.o 2).trans rfl, (qAb aC.o 3).trans rfl, (qAb aD.o 0).trans rfl, (qAb aD.o 1).trans rfl, (qAb aD.o 2).trans rfl, (qAb aD.o 3).trans rfl⟩ (fun hHeld => ?_)
            clear hK K
            refine nm ?_
            exact nq (hJ1_4 (bX, bY, bZ, aB) _ ⟨hHeld, aI.o, aJ.o, aK.o, aC.o, aD.o, aG.o, b0.o, bS.o, aM.o, ao.o, aN.o, ap.o, HB.o⟩)
           ·skip
            refine qBp ?hg (N := 6) ?hd (cs := #[.string ⟨#[]⟩, .slice none 0 0, .slice none 0 0, .slice none 0 0]) (t := 27) ?hr ?_; (case hd => rfl); (case hg => rfl); (case hr => (go_simp; done))
            intro aA hg bz hbox hb
            have n_ := a2 (qAd (g := aE) (o := .cells #[.string a0_0, .slice a8 l0_1.length ab, .slice a9 l0_2.length ac, .slice aa l0_3.length ad] 39 (0, 0)) aC.o hb) (a2 (qAd (g := aF) (o := .cells #[.string a1_0, .slice af l1_1.length ai, .slice ag l1_2.length aj, .slice ah l1_3.length ak] 39 (0, 0)) aD.o hb) (a2 (qAd (g := aB) (o := .cells #[.string ⟨#[]⟩, .slice none 0 0, .slice none 0 0, .slice none 0 0] 27 (0, 0)) aG.o hb) (a2 (qAj HB.o hb) (a2 (hbox) (a2 (by rw [hg]; exact (qAe HB.o) : w.heap.size ≤ aA) (a2 (by rw [hg]; exact (qAe HB.o) : w.heap.size ≤ aA) (a2 (by rw [hg]; exact Nat.ne_of_lt (qAw (g := aE) (o := .cells #[.string a0_0, .slice a8 l0_1.length ab, .slice a9 l0_2.length ac, .slice aa l0_3.length ad] 39 (0, 0)) aC.o) : aE ≠ aA) (a2 (by rw [hg]; exact Nat.ne_of_gt (qAw (g := aE) (o := .cells #[.string a0_0, .slice a8 l0_1.length ab, .slice a9 l0_2.length ac, .slice aa l0_3.length ad] 39 (0, 0)) aC.o) : aA ≠ aE) (a2 (by rw [hg]; exact Nat.ne_of_lt (qAw (g := aF) (o := .cells #[.string a1_0, .slice af l1_1.length ai, .slice ag l1_2.length aj, .slice ah l1_3.length ak] 39 (0, 0)) aD.o) : aF ≠ aA) (a2 (by rw [hg]; exact Nat.ne_of_gt (qAw (g := aF) (o := .cells #[.string a1_0, .slice af l1_1.length ai, .slice ag l1_2.length aj, .slice ah l1_3.length ak] 39 (0, 0)) aD.o) : aA ≠ aF) (a2 (by rw [hg]; exact Nat.ne_of_lt (qAw (g := aB) (o := .cells #[.string ⟨#[]⟩, .slice none 0 0, .slice none 0 0, .slice none 0 0] 27 (0, 0)) aG.o) : aB ≠ aA) (am (by rw [hg]; exact Nat.ne_of_gt (qAw (g := aB) (o := .cells #[.string ⟨#[]⟩, .slice none 0 0, .slice none 0 0, .slice none 0 0] 27 (0, 0)) aG.o) : aA ≠ aB)))))))))))))
            clear aC aD aG HB
            obtain ⟨aC, aD, aG, HB, aH, b1, bT, aO, au, aP, av, aT, aU⟩ := n_
            clear hb hbox hg
            refine hK.o _ _ ⟨(qAb aC.o 0).trans rfl, (qAb aC.o 1).trans rfl, (qAb aC.o 2).trans rfl, (qAb aC.o 3).trans rfl, (qAb aD.o 0).trans rfl, (qAb aD.o 1).trans rfl, (qAb aD.o 2).trans rfl, (qAb aD.o 3).trans rfl⟩ (fun hHeld => ?_)
            clear hK K
            refine nm ?_
            exact nq (hJ4_5 (aB, aA) _ ⟨hHeld, aC.o, aD.o, aG.o, aH.o, b0.o, bS.o, aM.o, ao.o, aN.o, ap.o, aU.o, aT.o, b1.o, bT.o, aO.o, au.o, aP.o, av.o, HB.o⟩)
         ·skip
          rintro ⟨bX, bY, bZ⟩ cL ⟨hS_, h0_, h1_, h2_, h3_, h4_, h5_⟩
          have n0_ : qAa (Kd.R k71 71 cL w.heap.size (fun _ => True) bX aV) := ⟨h0_⟩
          have n1_ : qAa (Kd.S k80 80 cL w.heap.size (fun _ => True) bY aW) := ⟨h1_⟩
          have n2_ : qAa (Kd.R k82 82 cL w.heap.size (fun _ => True) bZ aX) := ⟨h2_⟩
          have n3_ : qAa (cL.heap[aE]? = some (.cells #[.string a0_0, .slice a8 l0_1.length ab, .slice a9 l0_2.length ac, .slice aa l0_3.length ad] 39 (0, 0))) := ⟨h3_⟩
          have n4_ : qAa (cL.heap[aF]? = some (.cells #[.string a1_0, .slice af l1_1.length ai, .slice ag l1_2.length aj, .slice ah l1_3.length ak] 39 (0, 0))) := ⟨h4_⟩
          have n5_ : qAa (Below w.heap.size w cL) := ⟨h5_⟩
          clear aC aD HB h0_ h1_ h2_ h3_ h4_ h5_
          have aI := n0_
          have aJ := n1_
          have aK := n2_
          have aC := n3_
          have aD := n4_
          have HB := n5_
          clear n0_ n1_ n2_ n3_ n4_ n5_
          refine qBX (a' := ?_) ?_ ?_
          rotate_left
          ·simp only [qBx, Act.put, List.setIfInBounds_toArray, List.set_cons_zero, List.set_cons_succ]
           rfl
          refine three_ (i := 3) (j := 4) (k := 5) (Ni := some 16) (Nj := some 5) (Nk := some 6) (mK 8 15) (mK 8 23) (mK 8 39) rfl rfl rfl rfl rfl rfl (qEt HT_.o (by kernel_rfl)) (by decide) (by decide) (by decide) (fun K hK => ?_) (fun K hK => ?_) (fun K hK => ?_)
          ·skip
           refine qCy Try.func10 (by kernel_rfl) rfl #[.agg #[.string a1_0, .slice af l1_1.length ai, .slice ag l1_2.length aj, .slice ah l1_3.length ak]] (by rfl) rfl rfl (by (try simp only [List.map_toArray, List.map_cons, List.map_nil]); (rfl)) ?_
           with_reducible refine (qAh.calls k a1_0 _ _ l1_1 _ _ l1_2 _ _ l1_3 aq ae al ar _ ?side1 ?side2 ?side3 ?side4 ?side5 ?side6 A4.o).mono ?_
           (case side1 => exact (Kd.C_below cV.o HB.o))
           (case side2 => exact cP.o)
           (case side3 => exact (Kd.C_below cW.o HB.o))
           (case side4 => exact cQ.o)
           (case side5 => exact (Kd.C_below cX.o HB.o))
           (case side6 => exact cR.o)
           rintro e bz ⟨bk, bl, bo, rfl, bb, cA, cB, hb⟩
           refine ⟨_, rfl, ?_⟩
           have n_ := a2 (Kd.R_elder' aI.o (Kd.R_base bb) hb) (a2 (Kd.S_elder' aJ.o (Kd.S_base cA) hb) (a2 (Kd.R_elder' aK.o (Kd.R_base cB) hb) (a2 (Kd.R_lower (Kd.R_new' bb (Kd.R_lt aI.o)) (qAe HB.o)) (a2 (Kd.S_lower (Kd.S_new' cA (Kd.S_lt aJ.o)) (qAe HB.o)) (a2 (Kd.R_lower (Kd.R_new' cB (Kd.R_lt aK.o)) (qAe HB.o)) (a2 (qAd (g := aE) (o := .cells #[.string a0_0, .slice a8 l0_1.length ab, .slice a9 l0_2.length ac, .slice aa l0_3.length ad] 39 (0, 0)) aC.o hb) (a2 (qAd (g := aF) (o := .cells #[.string a1_0, .slice af l1_1.length ai, .slice ag l1_2.length aj, .slice ah l1_3.length ak] 39 (0, 0)) aD.o hb) (am (qAj HB.o hb)))))))))
           clear aI aJ aK aC aD HB
           obtain ⟨aI, aJ, aK, aQ, aR, aS, aC, aD, HB⟩ := n_
           (try clear hb)
           (skip)
           (skip)
           (skip)
           (try clear bb)
           (try clear cA)
           (try clear cB)
           refine hK.o _ _ ⟨(qAb aC.o 0).trans rfl, (qAb aC.o 1).trans rfl, (qAb aC.o 2).trans rfl, (qAb aC.o 3).trans rfl, (qAb aD.o 0).trans rfl, (qAb aD.o 1).trans rfl, (qAb aD.o 2).trans rfl, (qAb aD.o 3).trans rfl⟩ (fun hHeld => ?_)
           clear hK K
           refine nm ?_
           exact nq (hJ1_3 (bX, bY, bZ, bk, bl, bo) _ ⟨hHeld, (by exact Kd.R_mono aI.o (fun _ hk => hk.2)), (by exact Kd.S_mono aJ.o (fun _ hk => hk.2)), (by exact Kd.R_mono aK.o (fun _ hk => hk.2)), (by exact Kd.R_mono aQ.o (fun _ hk => hk.2)), (by exact Kd.S_mono aR.o (fun _ hk => hk.2)), (by exact Kd.R_mono aS.o (fun _ hk => hk.2)), aC.o, aD.o, HB.o⟩)
          ·skip
           refine qBp ?hg (N := 5) ?hd (cs := #[.string ⟨#[]⟩, .slice none 0 0, .slice none 0 0, .slice none 0 0]) (t := 27) ?hr ?_; (case hd => rfl); (case hg => rfl); (case hr => (go_simp; done))
           intro aB hg bz hbox hb
           have n_ := a2 (Kd.R_below aI.o hb) (a2 (Kd.S_below aJ.o hb) (a2 (Kd.R_below aK.o hb) (a2 (qAd (g := aE) (o := .cells #[.string a0_0, .slice a8 l0_1.length ab, .slice a9 l0_2.length ac, .slice aa l0_3.length ad] 39 (0, 0)) aC.o hb) (a2 (qAd (g := aF) (o := .cells #[.string a1_0, .slice af l1_1.length ai, .slice ag l1_2.length aj, .slice ah l1_3.length ak] 39 (0, 0)) aD.o hb) (a2 (qAj HB.o hb) (a2 (hbox) (a2 (by rw [hg]; exact (qAe HB.o) : w.heap.size ≤ aB) (a2 (by rw [hg]; exact (qAe HB.o) : w.heap.size ≤ aB) (a2 (by rw [hg]; exact Nat.ne_of_lt (qAw (g := aE) (o := .cells #[.string a0_0, .slice a8 l0_1.length ab, .slice a9 l0_2.length ac, .slice aa l0_3.length ad] 39 (0, 0)) aC.o) : aE ≠ aB) (a2 (by rw [hg]; exact Nat.ne_of_gt (qAw (g := aE) (o := .cells #[.string a0_0, .slice a8 l0_1.length ab, .slice a9 l0_2.length ac, .slice aa l0_3.length ad] 39 (0, 0)) aC.o) : aB ≠ aE) (a2 (by rw [hg]; exact Nat.ne_of_lt (qAw (g := aF) (o := .cells #[.string a1_0, .slice af l1_1.length ai, .slice ag l1_2.length aj, .slice ah l1_3.length ak] 39 (0, 0)) aD.o) : aF ≠ aB) (am (by rw [hg]; exact Nat.ne_of_gt (qAw (g := aF) (o := .cells #[.string a1_0, .slice af l1_1.length ai, .slice ag l1_2.length aj, .slice ah l1_3.length ak] 39 (0, 0)) aD.o) : aB ≠ aF)))))))))))))
           clear aI aJ aK aC aD HB
           obtain ⟨aI, aJ, aK, aC, aD, HB, aG, b0, bS, aM, ao, aN, ap⟩ := n_
           clear hb hbox hg
           refine hK.o _ _ ⟨(qAb aC.o 0).trans rfl, (qAb aC.o 1).trans rfl, (qAb aC.o 2).trans rfl, (qAb aC.o 3).trans rfl, (qAb aD.o 0).trans rfl, (qAb aD.o 1).trans rfl, (qAb aD.o 2).trans rfl, (qAb aD.o 3).trans rfl⟩ (fun hHeld => ?_)
           clear hK K
           refine nm ?_
           exact nq (hJ1_4 (bX, bY, bZ, aB) _ ⟨hHeld, aI.o, aJ.o, aK.o, aC.o, aD.o, aG.o, b0.o, bS.o, aM.o, ao.o, aN.o, ap.o, HB.o⟩)
          ·skip
           refine qBp ?hg (N := 6) ?hd (cs := #[.string ⟨#[]⟩, .slice none 0 0, .slice none 0 0, .slice none 0 0]) (t := 27) ?hr ?_; (case hd => rfl); (case hg => rfl); (case hr => (go_simp; done))
           intro aA hg bz hbox hb
           have n_ := a2 (Kd.R_below aI.o hb) (a2 (Kd.S_below aJ.o hb) (a2 (Kd.R_below aK.o hb) (a2 (qAd (g := aE) (o := .cells #[.string a0_0, .slice a8 l0_1.length ab, .slice a9 l0_2.length ac, .slice aa l0_3.length ad] 39 (0, 0)) aC.o hb) (a2 (qAd (g := aF) (o := .cells #[.string a1_0, .slice af l1_1.length ai, .slice ag l1_2.length aj, .slice ah l1_3.length ak] 39 (0, 0)) aD.o hb) (a2 (qAj HB.o hb) (a2 (hbox) (a2 (by rw [hg]; exact (qAe HB.o) : w.heap.size ≤ aA) (a2 (by rw [hg]; exact (qAe HB.o) : w.heap.size ≤ aA) (a2 (by rw [hg]; exact Nat.ne_of_lt (qAw (g := aE) (o := .cells #[.string a0_0, .slice a8 l0_1.length ab, .slice a9 l0_2.length ac, .slice aa l0_3.length ad] 39 (0, 0)) aC.o) : aE ≠ aA) (a2 (by rw [hg]; exact Nat.ne_of_gt (qAw (g := aE) (o := .cells #[.string a0_0, .slice a8 l0_1.length ab, .slice a9 l0_2.length ac, .slice aa l0_3.length ad] 39 (0, 0)) aC.o) : aA ≠ aE) (a2 (by rw [hg]; exact Nat.ne_of_lt (qAw (g := aF) (o := .cells #[.string a1_0, .slice af l1_1.length ai, .slice ag l1_2.length aj, .slice ah l1_3.length ak] 39 (0, 0)) aD.o) : aF ≠ aA) (am (by rw [hg]; exact Nat.ne_of_gt (qAw (g := aF) (o := .cells #[.string a1_0, .slice af l1_1.length ai, .slice ag l1_2.length aj, .slice ah l1_3.length ak] 39 (0, 0)) aD.o) : aA ≠ aF)))))))))))))
           clear aI aJ aK aC aD HB
           obtain ⟨aI, aJ, aK, aC, aD, HB, aH, b1, bT, aO, au, aP, av⟩ := n_
           clear hb hbox hg
           refine hK.o _ _ ⟨(qAb aC.o 0).trans rfl, (qAb aC.o 1).trans rfl, (qAb aC.o 2).trans rfl, (qAb aC.o 3).trans rfl, (qAb aD.o 0).trans rfl, (qAb aD.o 1).trans rfl, (qAb aD.o 2).trans rfl, (qAb aD.o 3).trans rfl⟩ (fun hHeld => ?_)
           clear hK K
           refine nm ?_
           exact nq (hJ1_5 (bX, bY, bZ, aA) _ ⟨hHeld, aI.o, aJ.o, aK.o, aC.o, aD.o, aH.o, b1.o, bT.o, aO.o, au.o, aP.o, av.o, HB.o⟩)
        ·skip
         rintro ⟨aB, aA⟩ bz ⟨hS_, h0_, h1_, h2_, h3_, h4_, h5_, h6_, h7_, h8_, h9_, h10_, h11_, h12_, h13_, h14_, h15_, h16_, h17_, h18_⟩
         have n0_ : qAa (bz.heap[aE]? = some (.cells #[.string a0_0, .slice a8 l0_1.length ab, .slice a9 l0_2.length ac, .slice aa l0_3.length ad] 39 (0, 0))) := ⟨h0_⟩
         have n1_ : qAa (bz.heap[aF]? = some (.cells #[.string a1_0, .slice af l1_1.length ai, .slice ag l1_2.length aj, .slice ah l1_3.length ak] 39 (0, 0))) := ⟨h1_⟩
         have n2_ : qAa (bz.heap[aB]? = some (.cells #[.string ⟨#[]⟩, .slice none 0 0, .slice none 0 0, .slice none 0 0] 27 (0, 0))) := ⟨h2_⟩
         have n3_ : qAa (bz.heap[aA]? = some (.cells #[.string ⟨#[]⟩, .slice none 0 0, .slice none 0 0, .slice none 0 0] 27 (0, 0))) := ⟨h3_⟩
         have n4_ : qAa (w.heap.size ≤ aB) := ⟨h4_⟩
         have n5_ : qAa (w.heap.size ≤ aB) := ⟨h5_⟩
         have n6_ : qAa (aE ≠ aB) := ⟨h6_⟩
         have n7_ : qAa (aB ≠ aE) := ⟨h7_⟩
         have n8_ : qAa (aF ≠ aB) := ⟨h8_⟩
         have n9_ : qAa (aB ≠ aF) := ⟨h9_⟩
         have n10_ : qAa (aA ≠ aB) := ⟨h10_⟩
         have n11_ : qAa (aB ≠ aA) := ⟨h11_⟩
         have n12_ : qAa (w.heap.size ≤ aA) := ⟨h12_⟩
         have n13_ : qAa (w.heap.size ≤ aA) := ⟨h13_⟩
         have n14_ : qAa (aE ≠ aA) := ⟨h14_⟩
         have n15_ : qAa (aA ≠ aE) := ⟨h15_⟩
         have n16_ : qAa (aF ≠ aA) := ⟨h16_⟩
         have n17_ : qAa (aA ≠ aF) := ⟨h17_⟩
         have n18_ : qAa (Below w.heap.size w bz) := ⟨h18_⟩
         clear aC aD HB h0_ h1_ h2_ h3_ h4_ h5_ h6_ h7_ h8_ h9_ h10_ h11_ h12_ h13_ h14_ h15_ h16_ h17_ h18_
         have aC := n0_
         have aD := n1_
         have aG := n2_
         have aH := n3_
         have b0 := n4_
         have bS := n5_
         have aM := n6_
         have ao := n7_
         have aN := n8_
         have ap := n9_
         have aU := n10_
         have aT := n11_
         have b1 := n12_
         have bT := n13_
         have aO := n14_
         have au := n15_
         have aP := n16_
         have av := n17_
         have HB := n18_
         clear n0_ n1_ n2_ n3_ n4_ n5_ n6_ n7_ n8_ n9_ n10_ n11_ n12_ n13_ n14_ n15_ n16_ n17_ n18_
         refine qBX (a' := ?_) ?_ ?_
         rotate_left
         ·simp only [qBx, Act.put, List.setIfInBounds_toArray, List.set_cons_zero, List.set_cons_succ]
          rfl
         refine one_ (i := 1) (N := some 14) (mK 8 55) rfl rfl (qBf HT_.o (by kernel_rfl)) (by decide) (fun K hK => ?_)
         refine qCy Try.func10 (by kernel_rfl) rfl #[.agg #[.string a0_0, .slice a8 l0_1.length ab, .slice a9 l0_2.length ac, .slice aa l0_3.length ad]] (by rfl) rfl rfl (by (try simp only [List.map_toArray, List.map_cons, List.map_nil]); (rfl)) ?_
         with_reducible refine (qAh.calls k a0_0 _ _ l0_1 _ _ l0_2 _ _ l0_3 aY aV aW aX _ ?side1 ?side2 ?side3 ?side4 ?side5 ?side6 A3.o).mono ?_
         (case side1 => exact (Kd.C_below cS.o HB.o))
         (case side2 => exact cM.o)
         (case side3 => exact (Kd.C_below cT.o HB.o))
         (case side4 => exact cN.o)
         (case side5 => exact (Kd.C_below cU.o HB.o))
         (case side6 => exact cO.o)
         rintro e cC ⟨bX, bY, bZ, rfl, bb, cA, cB, hb⟩
         refine ⟨_, rfl, ?_⟩
         have n_ := a2 (Kd.R_lower bb (qAe HB.o)) (a2 (Kd.S_lower cA (qAe HB.o)) (a2 (Kd.R_lower cB (qAe HB.o)) (a2 (qAd (g := aE) (o := .cells #[.string a0_0, .slice a8 l0_1.length ab, .slice a9 l0_2.length ac, .slice aa l0_3.length ad] 39 (0, 0)) aC.o hb) (a2 (qAd (g := aF) (o := .cells #[.string a1_0, .slice af l1_1.length ai, .slice ag l1_2.length aj, .slice ah l1_3.length ak] 39 (0, 0)) aD.o hb) (a2 (qAd (g := aB) (o := .cells #[.string ⟨#[]⟩, .slice none 0 0, .slice none 0 0, .slice none 0 0] 27 (0, 0)) aG.o hb) (a2 (qAd (g := aA) (o := .cells #[.string ⟨#[]⟩, .slice none 0 0, .slice none 0 0, .slice none 0 0] 27 (0, 0)) aH.o hb) (am (qAj HB.o hb))))))))
         clear aC aD aG aH HB
         obtain ⟨aI, aJ, aK, aC, aD, aG, aH, HB⟩ := n_
         (try clear hb)
         (skip)
         (skip)
         (skip)
         (try clear bb)
         (try clear cA)
         (try clear cB)
         refine hK.o _ _ ⟨(qAb aC.o 0).trans rfl, (qAb aC.o 1).trans rfl, (qAb aC.o 2).trans rfl, (qAb aC.o 3).trans rfl, (qAb aD.o 0).trans rfl, (qAb aD.o 1).trans rfl, (qAb aD.o 2).trans rfl, (qAb aD.o 3).trans rfl⟩ (fun hHeld => ?_)
         clear hK K
         refine nm ?_
         exact nq (hJ1_4_5 (bX, bY, bZ, aB, aA) _ ⟨hHeld, aI.o, aJ.o, aK.o, aC.o, aD.o, aG.o, aH.o, b0.o, bS.o, aM.o, ao.o, aN.o, ap.o, aU.o, aT.o, b1.o, bT.o, aO.o, au.o, aP.o, av.o, HB.o⟩)
       ·skip
        rintro ⟨bX, bY, bZ, aA⟩ bz ⟨hS_, h0_, h1_, h2_, h3_, h4_, h5_, h6_, h7_, h8_, h9_, h10_, h11_, h12_⟩
        have n0_ : qAa (Kd.R k71 71 bz w.heap.size (fun _ => True) bX aV) := ⟨h0_⟩
        have n1_ : qAa (Kd.S k80 80 bz w.heap.size (fun _ => True) bY aW) := ⟨h1_⟩
        have n2_ : qAa (Kd.R k82 82 bz w.heap.size (fun _ => True) bZ aX) := ⟨h2_⟩
        have n3_ : qAa (bz.heap[aE]? = some (.cells #[.string a0_0, .slice a8 l0_1.length ab, .slice a9 l0_2.length ac, .slice aa l0_3.length ad] 39 (0, 0))) := ⟨h3_⟩
        have n4_ : qAa (bz.heap[aF]? = some (.cells #[.string a1_0, .slice af l1_1.length ai, .slice ag l1_2.length aj, .slice ah l1_3.length ak] 39 (0, 0))) := ⟨h4_⟩
        have n5_ : qAa (bz.heap[aA]? = some (.cells #[.string ⟨#[]⟩, .slice none 0 0, .slice none 0 0, .slice none 0 0] 27 (0, 0))) := ⟨h5_⟩
        have n6_ : qAa (w.heap.size ≤ aA) := ⟨h6_⟩
        have n7_ : qAa (w.heap.size ≤ aA) := ⟨h7_⟩
        have n8_ : qAa (aE ≠ aA) := ⟨h8_⟩
        have n9_ : qAa (aA ≠ aE) := ⟨h9_⟩
        have n10_ : qAa (aF ≠ aA) := ⟨h10_⟩
        have n11_ : qAa (aA ≠ aF) := ⟨h11_⟩
        have n12_ : qAa (Below w.heap.size w bz) := ⟨h12_⟩
        clear aC aD HB h0_ h1_ h2_ h3_ h4_ h5_ h6_ h7_ h8_ h9_ h10_ h11_ h12_
        have aI := n0_
        have aJ := n1_
        have aK := n2_
        have aC := n3_
        have aD := n4_
        have aH := n5_
        have b1 := n6_
        have bT := n7_
        have aO := n8_
        have au := n9_
        have aP := n10_
        have av := n11_
        have HB := n12_
        clear n0_ n1_ n2_ n3_ n4_ n5_ n6_ n7_ n8_ n9_ n10_ n11_ n12_
        refine qBX (a' := ?_) ?_ ?_
        rotate_left
        ·simp only [qBx, Act.put, List.setIfInBounds_toArray, List.set_cons_zero, List.set_cons_succ]
         rfl
        refine two_ (i := 3) (j := 4) (Ni := some 16) (Nj := some 5) (mK 8 47) (mK 8 55) rfl rfl rfl rfl (qDb HT_.o (by kernel_rfl)) (by decide) (by decide) (fun K hK => ?_) (fun K hK => ?_)
        ·skip
         refine qCy Try.func10 (by kernel_rfl) rfl #[.agg #[.string a1_0, .slice af l1_1.length ai, .slice ag l1_2.length aj, .slice ah l1_3.length ak]] (by rfl) rfl rfl (by (try simp only [List.map_toArray, List.map_cons, List.map_nil]); (rfl)) ?_
         with_reducible refine (qAh.calls k a1_0 _ _ l1_1 _ _ l1_2 _ _ l1_3 aq ae al ar _ ?side1 ?side2 ?side3 ?side4 ?side5 ?side6 A4.o).mono ?_
         (case side1 => exact (Kd.C_below cV.o HB.o))
         (case side2 => exact cP.o)
         (case side3 => exact (Kd.C_below cW.o HB.o))
         (case side4 => exact cQ.o)
         (case side5 => exact (Kd.C_below cX.o HB.o))
         (case side6 => exact cR.o)
         rintro e cC ⟨bk, bl, bo, rfl, bb, cA, cB, hb⟩
         refine ⟨_, rfl, ?_⟩
         have n_ := a2 (Kd.R_elder' aI.o (Kd.R_base bb) hb) (a2 (Kd.S_elder' aJ.o (Kd.S_base cA) hb) (a2 (Kd.R_elder' aK.o (Kd.R_base cB) hb) (a2 (Kd.R_lower (Kd.R_new' bb (Kd.R_lt aI.o)) (qAe HB.o)) (a2 (Kd.S_lower (Kd.S_new' cA (Kd.S_lt aJ.o)) (qAe HB.o)) (a2 (Kd.R_lower (Kd.R_new' cB (Kd.R_lt aK.o)) (qAe HB.o)) (a2 (qAd (g := aE) (o := .cells #[.string a0_0, .slice a8 l0_1.length ab, .slice a9 l0_2.length ac, .slice aa l0_3.length ad] 39 (0, 0)) aC.o hb) (a2 (qAd (g := aF) (o := .cells #[.string a1_0, .slice af l1_1.length ai, .slice ag l1_2.length aj, .slice ah l1_3.length ak] 39 (0, 0)) aD.o hb) (a2 (qAd (g := aA) (o := .cells #[.string ⟨#[]⟩, .slice none 0 0, .slice none 0 0, .slice none 0 0] 27 (0, 0)) aH.o hb) (am (qAj HB.o hb))))))))))
         clear aI aJ aK aC aD aH HB
         obtain ⟨aI, aJ, aK, aQ, aR, aS, aC, aD, aH, HB⟩ := n_
         (try clear hb)
         (skip)
         (skip)
         (skip)
         (try clear bb)
         (try clear cA)
         (try clear cB)
         refine hK.o _ _ ⟨(qAb aC.o 0).trans rfl, (qAb aC.o 1).trans rfl, (qAb aC.o 2).trans rfl, (qAb aC.o 3).trans rfl, (qAb aD.o 0).trans rfl, (qAb aD.o 1).trans rfl, (qAb aD.o 2).trans rfl, (qAb aD.o 3).trans rfl⟩ (fun hHeld => ?_)
         clear hK K
         refine nm ?_
         exact nq (hJ1_3_5 (bX, bY, bZ, bk, bl, bo, aA) _ ⟨hHeld, (by exact Kd.R_mono aI.o (fun _ hk => hk.2)), (by exact Kd.S_mono aJ.o (fun _ hk => hk.2)), (by exact Kd.R_mono aK.o (fun _ hk => hk.2)), (by exact Kd.R_mono aQ.o (fun _ hk => hk.2)), (by exact Kd.S_mono aR.o (fun _ hk => hk.2)), (by exact Kd.R_mono aS.o (fun _ hk => hk.2)), aC.o, aD.o, aH.o, b1.o, bT.o, aO.o, au.o, aP.o, av.o, HB.o⟩)
        ·skip
         refine qBp ?hg (N := 5) ?hd (cs := #[.string ⟨#[]⟩, .slice none 0 0, .slice none 0 0, .slice none 0 0]) (t := 27) ?hr ?_; (case hd => rfl); (case hg => rfl); (case hr => (go_simp; done))
         intro aB hg cC hbox hb
         have n_ := a2 (Kd.R_below aI.o hb) (a2 (Kd.S_below aJ.o hb) (a2 (Kd.R_below aK.o hb) (a2 (qAd (g := aE) (o := .cells #[.string a0_0, .slice a8 l0_1.length ab, .slice a9 l0_2.length ac, .slice aa l0_3.length ad] 39 (0, 0)) aC.o hb) (a2 (qAd (g := aF) (o := .cells #[.string a1_0, .slice af l1_1.length ai, .slice ag l1_2.length aj, .slice ah l1_3.length ak] 39 (0, 0)) aD.o hb) (a2 (qAd (g := aA) (o := .cells #[.string ⟨#[]⟩, .slice none 0 0, .slice none 0 0, .slice none 0 0] 27 (0, 0)) aH.o hb) (a2 (qAj HB.o hb) (a2 (hbox) (a2 (by rw [hg]; exact (qAe HB.o) : w.heap.size ≤ aB) (a2 (by rw [hg]; exact (qAe HB.o) : w.heap.size ≤ aB) (a2 (by rw [hg]; exact Nat.ne_of_lt (qAw (g := aE) (o := .cells #[.string a0_0, .slice a8 l0_1.length ab, .slice a9 l0_2.length ac, .slice aa l0_3.length ad] 39 (0, 0)) aC.o) : aE ≠ aB) (a2 (by rw [hg]; exact Nat.ne_of_gt (qAw (g := aE) (o := .cells #[.string a0_0, .slice a8 l0_1.length ab, .slice a9 l0_2.length ac, .slice aa l0_3.length ad] 39 (0, 0)) aC.o) : aB ≠ aE) (a2 (by rw [hg]; exact Nat.ne_of_lt (qAw (g := aF) (o := .cells #[.string a1_0, .slice af l1_1.length ai, .slice ag l1_2.length aj, .slice ah l1_3.length ak] 39 (0, 0)) aD.o) : aF ≠ aB) (a2 (by rw [hg]; exact Nat.ne_of_gt (qAw (g := aF) (o := .cells #[.string a1_0, .slice af l1_1.length ai, .slice ag l1_2.length aj, .slice ah l1_3.length ak] 39 (0, 0)) aD.o) : aB ≠ aF) (a2 (by rw [hg]; exact Nat.ne_of_lt (qAw (g := aA) (o := .cells #[.string ⟨#[]⟩, .slice none 0 0, .slice none 0 0, .slice none 0 0] 27 (0, 0)) aH.o) : aA ≠ aB) (am (by rw [hg]; exact Nat.ne_of_gt (qAw (g := aA) (o := .cells #[.string ⟨#[]⟩, .slice none 0 0, .slice none 0 0, .slice none 0 0] 27 (0, 0)) aH.o) : aB ≠ aA))))))))))))))))
         clear aI aJ aK aC aD aH HB
         obtain ⟨aI, aJ, aK, aC, aD, aH, HB, aG, b0, bS, aM, ao, aN, ap, aU, aT⟩ := n_
         clear hb hbox hg
         refine hK.o _ _ ⟨(qAb aC.o 0).trans rfl, (qAb aC.o 1).trans rfl, (qAb aC.o 2).trans rfl, (qAb aC.o 3).trans rfl, (qAb aD.o 0).trans rfl, (qAb aD.o 1).trans rfl, (qAb aD.o 2).trans rfl, (qAb aD.o 3).trans rfl⟩ (fun hHeld => ?_)
         clear hK K
         refine nm ?_
         exact nq (hJ1_4_5 (bX, bY, bZ, aB, aA) _ ⟨hHeld, aI.o, aJ.o, aK.o, aC.o, aD.o, aG.o, aH.o, b0.o, bS.o, aM.o, ao.o, aN.o, ap.o, aU.o, aT.o, b1.o, bT.o, aO.o, au.o, aP.o, av.o, HB.o⟩)
      ·skip
       rintro ⟨bX, bY, bZ, aB⟩ bz ⟨hS_, h0_, h1_, h2_, h3_, h4_, h5_, h6_, h7_, h8_, h9_, h10_, h11_, h12_⟩
       have n0_ : qAa (Kd.R k71 71 bz w.heap.size (fun _ => True) bX aV) := ⟨h0_⟩
       have n1_ : qAa (Kd.S k80 80 bz w.heap.size (fun _ => True) bY aW) := ⟨h1_⟩
       have n2_ : qAa (Kd.R k82 82 bz w.heap.size (fun _ => True) bZ aX) := ⟨h2_⟩
       have n3_ : qAa (bz.heap[aE]? = some (.cells #[.string a0_0, .slice a8 l0_1.length ab, .slice a9 l0_2.length ac, .slice aa l0_3.length ad] 39 (0, 0))) := ⟨h3_⟩
       have n4_ : qAa (bz.heap[aF]? = some (.cells #[.string a1_0, .slice af l1_1.length ai, .slice ag l1_2.length aj, .slice ah l1_3.length ak] 39 (0, 0))) := ⟨h4_⟩
       have n5_ : qAa (bz.heap[aB]? = some (.cells #[.string ⟨#[]⟩, .slice none 0 0, .slice none 0 0, .slice none 0 0] 27 (0, 0))) := ⟨h5_⟩
       have n6_ : qAa (w.heap.size ≤ aB) := ⟨h6_⟩
       have n7_ : qAa (w.heap.size ≤ aB) := ⟨h7_⟩
       have n8_ : qAa (aE ≠ aB) := ⟨h8_⟩
       have n9_ : qAa (aB ≠ aE) := ⟨h9_⟩
       have n10_ : qAa (aF ≠ aB) := ⟨h10_⟩
       have n11_ : qAa (aB ≠ aF) := ⟨h11_⟩
       have n12_ : qAa (Below w.heap.size w bz) := ⟨h12_⟩
       clear aC aD HB h0_ h1_ h2_ h3_ h4_ h5_ h6_ h7_ h8_ h9_ h10_ h11_ h12_
       have aI := n0_
       have aJ := n1_
       have aK := n2_
       have aC := n3_
       have aD := n4_
       have aG := n5_
       have b0 := n6_
       have bS := n7_
       have aM := n8_
       have ao := n9_
       have aN := n10_
       have ap := n11_
       have HB := n12_
       clear n0_ n1_ n2_ n3_ n4_ n5_ n6_ n7_ n8_ n9_ n10_ n11_ n12_
       refine qBX (a' := ?_) ?_ ?_
       rotate_left
       ·simp only [qBx, Act.put, List.setIfInBounds_toArray, List.set_cons_zero, List.set_cons_succ]
        rfl
       refine two_ (i := 3) (j := 5) (Ni := some 16) (Nj := some 6) (mK 8 31) (mK 8 55) rfl rfl rfl rfl (qDb HT_.o (by kernel_rfl)) (by decide) (by decide) (fun K hK => ?_) (fun K hK => ?_)
       ·skip
        refine qCy Try.func10 (by kernel_rfl) rfl #[.agg #[.string a1_0, .slice af l1_1.length ai, .slice ag l1_2.length aj, .slice ah l1_3.length ak]] (by rfl) rfl rfl (by (try simp only [List.map_toArray, List.map_cons, List.map_nil]); (rfl)) ?_
        with_reducible refine (qAh.calls k a1_0 _ _ l1_1 _ _ l1_2 _ _ l1_3 aq ae al ar _ ?side1 ?side2 ?side3 ?side4 ?side5 ?side6 A4.o).mono ?_
        (case side1 => exact (Kd.C_below cV.o HB.o))
        (case side2 => exact cP.o)
        (case side3 => exact (Kd.C_below cW.o HB.o))
        (case side4 => exact cQ.o)
        (case side5 => exact (Kd.C_below cX.o HB.o))
        (case side6 => exact cR.o)
        rintro e cC ⟨bk, bl, bo, rfl, bb, cA, cB, hb⟩
        refine ⟨_, rfl, ?_⟩
        have n_ := a2 (Kd.R_elder' aI.o (Kd.R_base bb) hb) (a2 (Kd.S_elder' aJ.o (Kd.S_base cA) hb) (a2 (Kd.R_elder' aK.o (Kd.R_base cB) hb) (a2 (Kd.R_lower (Kd.R_new' bb (Kd.R_lt aI.o)) (qAe HB.o)) (a2 (Kd.S_lower (Kd.S_new' cA (Kd.S_lt aJ.o)) (qAe HB.o)) (a2 (Kd.R_lower (Kd.R_new' cB (Kd.R_lt aK.o)) (qAe HB.o)) (a2 (qAd (g := aE) (o := .cells #[.string a0_0, .slice a8 l0_1.length ab, .slice a9 l0_2.length ac, .slice aa l0_3.length ad] 39 (0, 0)) aC.o hb) (a2 (qAd (g := aF) (o := .cells #[.string a1_0, .slice af l1_1.length ai, .slice ag l1_2.length aj, .slice ah l1_3.length ak] 39 (0, 0)) aD.o hb) (a2 (qAd (g := aB) (o := .cells #[.string ⟨#[]⟩, .slice none 0 0, .slice none 0 0, .slice none 0 0] 27 (0, 0)) aG.o hb) (am (qAj HB.o hb))))))))))
        clear aI aJ aK aC aD aG HB
        obtain ⟨aI, aJ, aK, aQ, aR, aS, aC, aD, aG, HB⟩ := n_
        (try clear hb)
        (skip)
        (skip)
        (skip)
        (try clear bb)
        (try clear cA)
        (try clear cB)
        refine hK.o _ _ ⟨(qAb aC.o 0).trans rfl, (qAb aC.o 1).trans rfl, (qAb aC.o 2).trans rfl, (qAb aC.o 3).trans rfl, (qAb aD.o 0).trans rfl, (qAb aD.o 1).trans rfl, (qAb aD.o 2).trans rfl, (qAb aD.o 3).trans rfl⟩ (fun hHeld => ?_)
        clear hK K
        refine nm ?_
        exact nq (hJ1_3_4 (bX, bY, bZ, bk, bl, bo, aB) _ ⟨hHeld, (by exact Kd.R_mono aI.o (fun _ hk => hk.2)), (by exact Kd.S_mono aJ.o (fun _ hk => hk.2)), (by exact Kd.R_mono aK.o (fun _ hk => hk.2)), (by exact Kd.R_mono aQ.o (fun _ hk => hk.2)), (by exact Kd.S_mono aR.o (fun _ hk => hk.2)), (by exact Kd.R_mono aS.o (fun _ hk => hk.2)), aC.o, aD.o, aG.o, b0.o, bS.o, aM.o, ao.o, aN.o, ap.o, HB.o⟩)
       ·skip
        refine qBp ?hg (N := 6) ?hd (cs := #[.string ⟨#[]⟩, .slice none 0 0, .slice none 0 0, .slice none 0 0]) (t := 27) ?hr ?_; (case hd => rfl); (case hg => rfl); (case hr => (go_simp; done))
        intro aA hg cC hbox hb
        have n_ := a2 (Kd.R_below aI.o hb) (a2 (Kd.S_below aJ.o hb) (a2 (Kd.R_below aK.o hb) (a2 (qAd (g := aE) (o := .cells #[.string a0_0, .slice a8 l0_1.length ab, .slice a9 l0_2.length ac, .slice aa l0_3.length ad] 39 (0, 0)) aC.o hb) (a2 (qAd (g := aF) (o := .cells #[.string a1_0, .slice af l1_1.length ai, .slice ag l1_2.length aj, .slice ah l1_3.length ak] 39 (0, 0)) aD.o hb) (a2 (qAd (g := aB) (o := .cells #[.string ⟨#[]⟩, .slice none 0 0, .slice none 0 0, .slice none 0 0] 27 (0, 0)) aG.o hb) (a2 (qAj HB.o hb) (a2 (hbox) (a2 (by rw [hg]; exact (qAe HB.o) : w.heap.size ≤ aA) (a2 (by rw [hg]; exact (qAe HB.o) : w.heap.size ≤ aA) (a2 (by rw [hg]; exact Nat.ne_of_lt (qAw (g := aE) (o := .cells #[.string a0_0, .slice a8 l0_1.length ab, .slice a9 l0_2.length ac, .slice aa l0_3.length ad] 39 (0, 0)) aC.o) : aE ≠ aA) (a2 (by rw [hg]; exact Nat.ne_of_gt (qAw (g := aE) (o := .cells #[.string a0_0, .slice a8 l0_1.length ab, .slice a9 l0_2.length ac, .slice aa l0_3.length ad] 39 (0, 0)) aC.o) : aA ≠ aE) (a2 (by rw [hg]; exact Nat.ne_of_lt (qAw (g := aF) (o := .cells #[.string a1_0, .slice af l1_1.length ai, .slice ag l1_2.length aj, .slice ah l1_3.length ak] 39 (0, 0)) aD.o) : aF ≠ aA) (a2 (by rw [hg]; exact Nat.ne_of_gt (qAw (g := aF) (o := .cells #[.string a1_0, .slice af l1_1.length ai, .slice ag l1_2.length aj, .slice ah l1_3.length ak] 39 (0, 0)) aD.o) : aA ≠ aF) (a2 (by rw [hg]; exact Nat.ne_of_lt (qAw (g := aB) (o := .cells #[.string ⟨#[]⟩, .slice none 0 0, .slice none 0 0, .slice none 0 0] 27 (0, 0)) aG.o) : aB ≠ aA) (am (by rw [hg]; exact Nat.ne_of_gt (qAw (g := aB) (o := .cells #[.string ⟨#[]⟩, .slice none 0 0, .slice none 0 0, .slice none 0 0] 27 (0, 0)) aG.o) : aA ≠ aB))))))))))))))))
        clear aI aJ aK aC aD aG HB
        obtain ⟨aI, aJ, aK, aC, aD, aG, HB, aH, b1, bT, aO, au, aP, av, aT, aU⟩ := n_
        clear hb hbox hg
        refine hK.o _ _ ⟨(qAb aC.o 0).trans rfl, (qAb aC.o 1).trans rfl, (qAb aC.o 2).trans rfl, (qAb aC.o 3).trans rfl, (qAb aD.o 0).trans rfl, (qAb aD.o 1).trans rfl, (qAb aD.o 2).trans rfl, (qAb aD.o 3).trans rfl⟩ (fun hHeld => ?_)
        clear hK K
        refine nm ?_
        exact nq (hJ1_4_5 (bX, bY, bZ, aB, aA) _ ⟨hHeld, aI.o, aJ.o, aK.o, aC.o, aD.o, aG.o, aH.o, b0.o, bS.o, aM.o, ao.o, aN.o, ap.o, aU.o, aT.o, b1.o, bT.o, aO.o, au.o, aP.o, av.o, HB.o⟩)
     ·skip
      rintro ⟨bX, bY, bZ, bk, bl, bo⟩ bz ⟨hS_, h0_, h1_, h2_, h3_, h4_, h5_, h6_, h7_, h8_⟩
      have n0_ : qAa (Kd.R k71 71 bz w.heap.size (fun k_ => some k_ ≠ (bk : Value).ownBlock) bX aV) := ⟨h0_⟩
      have n1_ : qAa (Kd.S k80 80 bz w.heap.size (fun k_ => some k_ ≠ (bl : Value).ownBlock) bY aW) := ⟨h1_⟩
      have n2_ : qAa (Kd.R k82 82 bz w.heap.size (fun k_ => some k_ ≠ (bo : Value).ownBlock) bZ aX) := ⟨h2_⟩
      have n3_ : qAa (Kd.R k71 71 bz w.heap.size (fun k_ => some k_ ≠ (bX : Value).ownBlock) bk ae) := ⟨h3_⟩
      have n4_ : qAa (Kd.S k80 80 bz w.heap.size (fun k_ => some k_ ≠ (bY : Value).ownBlock) bl al) := ⟨h4_⟩
      have n5_ : qAa (Kd.R k82 82 bz w.heap.size (fun k_ => some k_ ≠ (bZ : Value).ownBlock) bo ar) := ⟨h5_⟩
      have n6_ : qAa (bz.heap[aE]? = some (.cells #[.string a0_0, .slice a8 l0_1.length ab, .slice a9 l0_2.length ac, .slice aa l0_3.length ad] 39 (0, 0))) := ⟨h6_⟩
      have n7_ : qAa (bz.heap[aF]? = some (.cells #[.string a1_0, .slice af l1_1.length ai, .slice ag l1_2.length aj, .slice ah l1_3.length ak] 39 (0, 0))) := ⟨h7_⟩
      have n8_ : qAa (Below w.heap.size w bz) := ⟨h8_⟩
      clear aC aD HB h0_ h1_ h2_ h3_ h4_ h5_ h6_ h7_ h8_
      have aI := n0_
      have aJ := n1_
      have aK := n2_
      have aQ := n3_
      have aR := n4_
      have aS := n5_
      have aC := n6_
      have aD := n7_
      have HB := n8_
      clear n0_ n1_ n2_ n3_ n4_ n5_ n6_ n7_ n8_
      refine qBX (a' := ?_) ?_ ?_
      rotate_left
      ·simp only [qBx, Act.put, List.setIfInBounds_toArray, List.set_cons_zero, List.set_cons_succ]
       rfl
      refine two_ (i := 4) (j := 5) (Ni := some 5) (Nj := some 6) (mK 8 31) (mK 8 47) rfl rfl rfl rfl (qDb HT_.o (by kernel_rfl)) (by decide) (by decide) (fun K hK => ?_) (fun K hK => ?_)
      ·skip
       refine qBp ?hg (N := 5) ?hd (cs := #[.string ⟨#[]⟩, .slice none 0 0, .slice none 0 0, .slice none 0 0]) (t := 27) ?hr ?_; (case hd => rfl); (case hg => rfl); (case hr => (go_simp; done))
       intro aB hg cC hbox hb
       have n_ := a2 (Kd.R_below aI.o hb) (a2 (Kd.S_below aJ.o hb) (a2 (Kd.R_below aK.o hb) (a2 (Kd.R_below aQ.o hb) (a2 (Kd.S_below aR.o hb) (a2 (Kd.R_below aS.o hb) (a2 (qAd (g := aE) (o := .cells #[.string a0_0, .slice a8 l0_1.length ab, .slice a9 l0_2.length ac, .slice aa l0_3.length ad] 39 (0, 0)) aC.o hb) (a2 (qAd (g := aF) (o := .cells #[.string a1_0, .slice af l1_1.length ai, .slice ag l1_2.length aj, .slice ah l1_3.length ak] 39 (0, 0)) aD.o hb) (a2 (qAj HB.o hb) (a2 (hbox) (a2 (by rw [hg]; exact (qAe HB.o) : w.heap.size ≤ aB) (a2 (by rw [hg]; exact (qAe HB.o) : w.heap.size ≤ aB) (a2 (by rw [hg]; exact Nat.ne_of_lt (qAw (g := aE) (o := .cells #[.string a0_0, .slice a8 l0_1.length ab, .slice a9 l0_2.length ac, .slice aa l0_3.length ad] 39 (0, 0)) aC.o) : aE ≠ aB) (a2 (by rw [hg]; exact Nat.ne_of_gt (qAw (g := aE) (o := .cells #[.string a0_0, .slice a8 l0_1.length ab, .slice a9 l0_2.length ac, .slice aa l0_3.length ad] 39 (0, 0)) aC.o) : aB ≠ aE) (a2 (by rw [hg]; exact Nat.ne_of_lt (qAw (g := aF) (o := .cells #[.string a1_0, .slice af l1_1.length ai, .slice ag l1_2.length aj, .slice ah l1_3.length ak] 39 (0, 0)) aD.o) : aF ≠ aB) (am (by rw [hg]; exact Nat.ne_of_gt (qAw (g := aF) (o := .cells #[.string a1_0, .slice af l1_1.length ai, .slice ag l1_2.length aj, .slice ah l1_3.length ak] 39 (0, 0)) aD.o) : aB ≠ aF))))))))))))))))
       clear aI aJ aK aQ aR aS aC aD HB
       obtain ⟨aI, aJ, aK, aQ, aR, aS, aC, aD, HB, aG, b0, bS, aM, ao, aN, ap⟩ := n_
       clear hb hbox hg
       refine hK.o _ _ ⟨(qAb aC.o 0).trans rfl, (qAb aC.o 1).trans rfl, (qAb aC.o 2).trans rfl, (qAb aC.o 3).trans rfl, (qAb aD.o 0).trans rfl, (qAb aD.o 1).trans rfl, (qAb aD.o 2).trans rfl, (qAb aD.o 3).trans rfl⟩ (fun hHeld => ?_)
       clear hK K
       refine nm ?_
       exact nq (hJ1_3_4 (bX, bY, bZ, bk, bl, bo, aB) _ ⟨hHeld, aI.o, aJ.o, aK.o, aQ.o, aR.o, aS.o, aC.o, aD.o, aG.o, b0.o, bS.o, aM.o, ao.o, aN.o, ap.o, HB.o⟩)
      ·skip
       refine qBp ?hg (N := 6) ?hd (cs := #[.string ⟨#[]⟩, .slice none 0 0, .slice none 0 0, .slice none 0 0]) (t := 27) ?hr ?_; (case hd => rfl); (case hg => rfl); (case hr => (go_simp; done))
       intro aA hg cC hbox hb
       have n_ := a2 (Kd.R_below aI.o hb) (a2 (Kd.S_below aJ.o hb) (a2 (Kd.R_below aK.o hb) (a2 (Kd.R_below aQ.o hb) (a2 (Kd.S_below aR.o hb) (a2 (Kd.R_below aS.o hb) (a2 (qAd (g := aE) (o := .cells #[.string a0_0, .slice a8 l0_1.length ab, .slice a9 l0_2.length ac, .slice aa l0_3.length ad] 39 (0, 0)) aC.o hb) (a2 (qAd (g := aF) (o := .cells #[.string a1_0, .slice af l1_1.length ai, .slice ag l1_2.length aj, .slice ah l1_3.length ak] 39 (0, 0)) aD.o hb) (a2 (qAj HB.o hb) (a2 (hbox) (a2 (by rw [hg]; exact (qAe HB.o) : w.heap.size ≤ aA) (a2 (by rw [hg]; exact (qAe HB.o) : w.heap.size ≤ aA) (a2 (by rw [hg]; exact Nat.ne_of_lt (qAw (g := aE) (o := .cells #[.string a0_0, .slice a8 l0_1.length ab, .slice a9 l0_2.length ac, .slice aa l0_3.length ad] 39 (0, 0)) aC.o) : aE ≠ aA) (a2 (by rw [hg]; exact Nat.ne_of_gt (qAw (g := aE) (o := .cells #[.string a0_0, .slice a8 l0_1.length ab, .slice a9 l0_2.length ac, .slice aa l0_3.length ad] 39 (0, 0)) aC.o) : aA ≠ aE) (a2 (by rw [hg]; exact Nat.ne_of_lt (qAw (g := aF) (o := .cells #[.string a1_0, .slice af l1_1.length ai, .slice ag l1_2.length aj, .slice ah l1_3.length ak] 39 (0, 0)) aD.o) : aF ≠ aA) (am (by rw [hg]; exact Nat.ne_of_gt (qAw (g := aF) (o := .cells #[.string a1_0, .slice af l1_1.length ai, .slice ag l1_2.length aj, .slice ah l1_3.length ak] 39 (0, 0)) aD.o) : aA ≠ aF))))))))))))))))
       clear aI aJ aK aQ aR aS aC aD HB
       obtain ⟨aI, aJ, aK, aQ, aR, aS, aC, aD, HB, aH, b1, bT, aO, au, aP, av⟩ := n_
       clear hb hbox hg
       refine hK.o _ _ ⟨(qAb aC.o 0).trans rfl, (qAb aC.o 1).trans rfl, (qAb aC.o 2).trans rfl, (qAb aC.o 3).trans rfl, (qAb aD.o 0).trans rfl, (qAb aD.o 1).trans rfl, (qAb aD.o 2).trans rfl, (qAb aD.o 3).trans rfl⟩ (fun hHeld => ?_)
       clear hK K
       refine nm ?_
       exact nq (hJ1_3_5 (bX, bY, bZ, bk, bl, bo, aA) _ ⟨hHeld, aI.o, aJ.o, aK.o, aQ.o, aR.o, aS.o, aC.o, aD.o, aH.o, b1.o, bT.o, aO.o, au.o, aP.o, av.o, HB.o⟩)
    ·skip
     rintro ⟨bX, bY, bZ, aB, aA⟩ cC ⟨hS_, h0_, h1_, h2_, h3_, h4_, h5_, h6_, h7_, h8_, h9_, h10_, h11_, h12_, h13_, h14_, h15_, h16_, h17_, h18_, h19_, h20_, h21_⟩
     have n0_ : qAa (Kd.R k71 71 cC w.heap.size (fun _ => True) bX aV) := ⟨h0_⟩
     have n1_ : qAa (Kd.S k80 80 cC w.heap.size (fun _ => True) bY aW) := ⟨h1_⟩
     have n2_ : qAa (Kd.R k82 82 cC w.heap.size (fun _ => True) bZ aX) := ⟨h2_⟩
     have n3_ : qAa (cC.heap[aE]? = some (.cells #[.string a0_0, .slice a8 l0_1.length ab, .slice a9 l0_2.length ac, .slice aa l0_3.length ad] 39 (0, 0))) := ⟨h3_⟩
     have n4_ : qAa (cC.heap[aF]? = some (.cells #[.string a1_0, .slice af l1_1.length ai, .slice ag l1_2.length aj, .slice ah l1_3.length ak] 39 (0, 0))) := ⟨h4_⟩
     have n5_ : qAa (cC.heap[aB]? = some (.cells #[.string ⟨#[]⟩, .slice none 0 0, .slice none 0 0, .slice none 0 0] 27 (0, 0))) := ⟨h5_⟩
     have n6_ : qAa (cC.heap[aA]? = some (.cells #[.string ⟨#[]⟩, .slice none 0 0, .slice none 0 0, .slice none 0 0] 27 (0, 0))) := ⟨h6_⟩
     have n7_ : qAa (w.heap.size ≤ aB) := ⟨h7_⟩
     have n8_ : qAa (w.heap.size ≤ aB) := ⟨h8_⟩
     have n9_ : qAa (aE ≠ aB) := ⟨h9_⟩
     have n10_ : qAa (aB ≠ aE) := ⟨h10_⟩
     have n11_ : qAa (aF ≠ aB) := ⟨h11_⟩
     have n12_ : qAa (aB ≠ aF) := ⟨h12_⟩
     have n13_ : qAa (aA ≠ aB) := ⟨h13_⟩
     have n14_ : qAa (aB ≠ aA) := ⟨h14_⟩
     have n15_ : qAa (w.heap.size ≤ aA) := ⟨h15_⟩
     have n16_ : qAa (w.heap.size ≤ aA) := ⟨h16_⟩
     have n17_ : qAa (aE ≠ aA) := ⟨h17_⟩
     have n18_ : qAa (aA ≠ aE) := ⟨h18_⟩
     have n19_ : qAa (aF ≠ aA) := ⟨h19_⟩
     have n20_ : qAa (aA ≠ aF) := ⟨h20_⟩
     have n21_ : qAa (Below w.heap.size w cC) := ⟨h21_⟩
     clear aC aD HB h0_ h1_ h2_ h3_ h4_ h5_ h6_ h7_ h8_ h9_ h10_ h11_ h12_ h13_ h14_ h15_ h16_ h17_ h18_ h19_ h20_ h21_
     have aI := n0_
     have aJ := n1_
     have aK := n2_
     have aC := n3_
     have aD := n4_
     have aG := n5_
     have aH := n6_
     have b0 := n7_
     have bS := n8_
     have aM := n9_
     have ao := n10_
     have aN := n11_
     have ap := n12_
     have aU := n13_
     have aT := n14_
     have b1 := n15_
     have bT := n16_
     have aO := n17_
     have au := n18_
     have aP := n19_
     have av := n20_
     have HB := n21_
     clear n0_ n1_ n2_ n3_ n4_ n5_ n6_ n7_ n8_ n9_ n10_ n11_ n12_ n13_ n14_ n15_ n16_ n17_ n18_ n19_ n20_ n21_
     refine qBX (a' := ?_) ?_ ?_
     rotate_left
     ·simp only [qBx, Act.put, List.setIfInBounds_toArray, List.set_cons_zero, List.set_cons_succ]
      rfl
     refine one_ (i := 3) (N := some 16) (mK 8 63) rfl rfl (qBf HT_.o (by kernel_rfl)) (by decide) (fun K hK => ?_)
     refine qCy Try.func10 (by kernel_rfl) rfl #[.agg #[.string a1_0, .slice af l1_1.length ai, .slice ag l1_2.length aj, .slice ah l1_3.length ak]] (by rfl) rfl rfl (by (try simp only [List.map_toArray, List.map_cons, List.map_nil]); (rfl)) ?_
     with_reducible refine (qAh.calls k a1_0 _ _ l1_1 _ _ l1_2 _ _ l1_3 aq ae al ar _ ?side1 ?side2 ?side3 ?side4 ?side5 ?side6 A4.o).mono ?_
     (case side1 => exact (Kd.C_below cV.o HB.o))
     (case side2 => exact cP.o)
     (case side3 => exact (Kd.C_below cW.o HB.o))
     (case side4 => exact cQ.o)
     (case side5 => exact (Kd.C_below cX.o HB.o))
     (case side6 => exact cR.o)
     rintro e cH ⟨bk, bl, bo, rfl, bb, cA, cB, hb⟩
     refine ⟨_, rfl, ?_⟩
     have n_ := a2 (Kd.R_elder' aI.o (Kd.R_base bb) hb) (a2 (Kd.S_elder' aJ.o (Kd.S_base cA) hb) (a2 (Kd.R_elder' aK.o (Kd.R_base cB) hb) (a2 (Kd.R_lower (Kd.R_new' bb (Kd.R_lt aI.o)) (qAe HB.o)) (a2 (Kd.S_lower (Kd.S_new' cA (Kd.S_lt aJ.o)) (qAe HB.o)) (a2 (Kd.R_lower (Kd.R_new' cB (Kd.R_lt aK.o)) (qAe HB.o)) (a2 (qAd (g := aE) (o := .cells #[.string a0_0, .slice a8 l0_1.length ab, .slice a9 l0_2.length ac, .slice aa l0_3.length ad] 39 (0, 0)) aC.o hb) (a2 (qAd (g := aF) (o := .cells #[.string a1_0, .slice af l1_1.length ai, .slice ag l1_2.length aj, .slice ah l1_3.length ak] 39 (0, 0)) aD.o hb) (a2 (qAd (g := aB) (o := .cells #[.string ⟨#[]⟩, .slice none 0 0, .slice none 0 0, .slice none 0 0] 27 (0, 0)) aG.o hb) (a2 (qAd (g := aA) (o := .cells #[.string ⟨#[]⟩, .slice none 0 0, .slice none 0 0, .slice none 0 0] 27 (0, 0)) aH.o hb) (am (qAj HB.o hb)))))))))))
     clear aI aJ aK aC aD aG aH HB
     obtain ⟨aI, aJ, aK, aQ, aR, aS, aC, aD, aG, aH, HB⟩ := n_
     (try clear hb)
     (skip)
     (skip)
     (skip)
     (try clear bb)
     (try clear cA)
     (try clear cB)
     refine hK.o _ _ ⟨(qAb aC.o 0).trans rfl, (qAb aC.o 1).trans rfl, (qAb aC.o 2).trans rfl, (qAb aC.o 3).trans rfl, (qAb aD.o 0).trans rfl, (qAb aD.o 1).trans rfl, (qAb aD.o 2).trans rfl, (qAb aD.o 3).trans rfl⟩ (fun hHeld => ?_)
     clear hK K
     refine nm ?_
     exact nq (hJ1_3_4_5 (bX, bY, bZ, bk, bl, bo, aB, aA) _ ⟨hHeld, (by exact Kd.R_mono aI.o (fun _ hk => hk.2)), (by exact Kd.S_mono aJ.o (fun _ hk => hk.2)), (by exact Kd.R_mono aK.o (fun _ hk => hk.2)), (by exact Kd.R_mono aQ.o (fun _ hk => hk.2)), (by exact Kd.S_mono aR.o (fun _ hk => hk.2)), (by exact Kd.R_mono aS.o (fun _ hk => hk.2)), aC.o, aD.o, aG.o, aH.o, b0.o, bS.o, aM.o, ao.o, aN.o, ap.o, aU.o, aT.o, b1.o, bT.o, aO.o, au.o, aP.o, av.o, HB.o⟩)
   ·skip
    rintro ⟨bX, bY, bZ, bk, bl, bo, aA⟩ cC ⟨hS_, h0_, h1_, h2_, h3_, h4_, h5_, h6_, h7_, h8_, h9_, h10_, h11_, h12_, h13_, h14_, h15_⟩
    have n0_ : qAa (Kd.R k71 71 cC w.heap.size (fun k_ => some k_ ≠ (bk : Value).ownBlock) bX aV) := ⟨h0_⟩
    have n1_ : qAa (Kd.S k80 80 cC w.heap.size (fun k_ => some k_ ≠ (bl : Value).ownBlock) bY aW) := ⟨h1_⟩
    have n2_ : qAa (Kd.R k82 82 cC w.heap.size (fun k_ => some k_ ≠ (bo : Value).ownBlock) bZ aX) := ⟨h2_⟩
    have n3_ : qAa (Kd.R k71 71 cC w.heap.size (fun k_ => some k_ ≠ (bX : Value).ownBlock) bk ae) := ⟨h3_⟩
    have n4_ : qAa (Kd.S k80 80 cC w.heap.size (fun k_ => some k_ ≠ (bY : Value).ownBlock) bl al) := ⟨h4_⟩
    have n5_ : qAa (Kd.R k82 82 cC w.heap.size (fun k_ => some k_ ≠ (bZ : Value).ownBlock) bo ar) := ⟨h5_⟩
    have n6_ : qAa (cC.heap[aE]? = some (.cells #[.string a0_0, .slice a8 l0_1.length ab, .slice a9 l0_2.length ac, .slice aa l0_3.length ad] 39 (0, 0))) := ⟨h6_⟩
    have n7_ : qAa (cC.heap[aF]? = some (.cells #[.string a1_0, .slice af l1_1.length ai, .slice ag l1_2.length aj, .slice ah l1_3.length ak] 39 (0, 0))) := ⟨h7_⟩
    have n8_ : qAa (cC.heap[aA]? = some (.cells #[.string ⟨#[]⟩, .slice none 0 0, .slice none 0 0, .slice none 0 0] 27 (0, 0))) := ⟨h8_⟩
    have n9_ : qAa (w.heap.size ≤ aA) := ⟨h9_⟩
    have n10_ : qAa (w.heap.size ≤ aA) := ⟨h10_⟩
    have n11_ : qAa (aE ≠ aA) := ⟨h11_⟩
    have n12_ : qAa (aA ≠ aE) := ⟨h12_⟩
    have n13_ : qAa (aF ≠ aA) := ⟨h13_⟩
    have n14_ : qAa (aA ≠ aF) := ⟨h14_⟩
    have n15_ : qAa (Below w.heap.size w cC) := ⟨h15_⟩
    clear aC aD HB h0_ h1_ h2_ h3_ h4_ h5_ h6_ h7_ h8_ h9_ h10_ h11_ h12_ h13_ h14_ h15_
    have aI := n0_
    have aJ := n1_
    have aK := n2_
    have aQ := n3_
    have aR := n4_
    have aS := n5_
    have aC := n6_
    have aD := n7_
    have aH := n8_
    have b1 := n9_
    have bT := n10_
    have aO := n11_
    have au := n12_
    have aP := n13_
    have av := n14_
    have HB := n15_
    clear n0_ n1_ n2_ n3_ n4_ n5_ n6_ n7_ n8_ n9_ n10_ n11_ n12_ n13_ n14_ n15_
    refine qBX (a' := ?_) ?_ ?_
    rotate_left
    ·simp only [qBx, Act.put, List.setIfInBounds_toArray, List.set_cons_zero, List.set_cons_succ]
     rfl
    refine one_ (i := 4) (N := some 5) (mK 8 63) rfl rfl (qBf HT_.o (by kernel_rfl)) (by decide) (fun K hK => ?_)
    refine qBp ?hg (N := 5) ?hd (cs := #[.string ⟨#[]⟩, .slice none 0 0, .slice none 0 0, .slice none 0 0]) (t := 27) ?hr ?_; (case hd => rfl); (case hg => rfl); (case hr => (go_simp; done))
    intro aB hg cH hbox hb
    have n_ := a2 (Kd.R_below aI.o hb) (a2 (Kd.S_below aJ.o hb) (a2 (Kd.R_below aK.o hb) (a2 (Kd.R_below aQ.o hb) (a2 (Kd.S_below aR.o hb) (a2 (Kd.R_below aS.o hb) (a2 (qAd (g := aE) (o := .cells #[.string a0_0, .slice a8 l0_1.length ab, .slice a9 l0_2.length ac, .slice aa l0_3.length ad] 39 (0, 0)) aC.o hb) (a2 (qAd (g := aF) (o := .cells #[.string a1_0, .slice af l1_1.length ai, .slice ag l1_2.length aj, .slice ah l1_3.length ak] 39 (0, 0)) aD.o hb) (a2 (qAd (g := aA) (o := .cells #[.string ⟨#[]⟩, .slice none 0 0, .slice none 0 0, .slice none 0 0] 27 (0, 0)) aH.o hb) (a2 (qAj HB.o hb) (a2 (hbox) (a2 (by rw [hg]; exact (qAe HB.o) : w.heap.size ≤ aB) (a2 (by rw [hg]; exact (qAe HB.o) : w.heap.size ≤ aB) (a2 (by rw [hg]; exact Nat.ne_of_lt (qAw (g := aE) (o := .cells #[.string a0_0, .slice a8 l0_1.length ab, .slice a9 l0_2.length ac, .slice aa l0_3.length ad] 39 (0, 0)) aC.o) : aE ≠ aB) (a2 (by rw [hg]; exact Nat.ne_of_gt (qAw (g := aE) (o := .cells #[.string a0_0, .slice a8 l0_1.length ab, .slice a9 l0_2.length ac, .slice aa l0_3.length ad] 39 (0, 0)) aC.o) : aB ≠ aE) (a2 (by rw [hg]; exact Nat.ne_of_lt (qAw (g := aF) (o := .cells #[.string a1_0, .slice af l1_1.length ai, .slice ag l1_2.length aj, .slice ah l1_3.length ak] 39 (0, 0)) aD.o) : aF ≠ aB) (a2 (by rw [hg]; exact Nat.ne_of_gt (qAw (g := aF) (o := .cells #[.string a1_0, .slice af l1_1.length ai, .slice ag l1_2.length aj, .slice ah l1_3.length ak] 39 (0, 0)) aD.o) : aB ≠ aF) (a2 (by rw [hg]; exact Nat.ne_of_lt (qAw (g := aA) (o := .cells #[.string ⟨#[]⟩, .slice none 0 0, .slice none 0 0, .slice none 0 0] 27 (0, 0)) aH.o) : aA ≠ aB) (am (by rw [hg]; exact Nat.ne_of_gt (qAw (g := aA) (o := .cells #[.string ⟨#[]⟩, .slice none 0 0, .slice none 0 0, .slice none 0 0] 27 (0, 0)) aH.o) : aB ≠ aA)))))))))))))))))))
    clear aI aJ aK aQ aR aS aC aD aH HB
    obtain ⟨aI, aJ, aK, aQ, aR, aS, aC, aD, aH, HB, aG, b0, bS, aM, ao, aN, ap, aU, aT⟩ := n_
    clear hb hbox hg
    refine hK.o _ _ ⟨(qAb aC.o 0).trans rfl, (qAb aC.o 1).trans rfl, (qAb aC.o 2).trans rfl, (qAb aC.o 3).trans rfl, (qAb aD.o 0).trans rfl, (qAb aD.o 1).trans rfl, (qAb aD.o 2).trans rfl, (qAb aD.o 3).trans rfl⟩ (fun hHeld => ?_)
    clear hK K
    refine nm ?_
    exact nq (hJ1_3_4_5 (bX, bY, bZ, bk, bl, bo, aB, aA) _ ⟨hHeld, aI.o, aJ.o, aK.o, aQ.o, aR.o, aS.o, aC.o, aD.o, aG.o, aH.o, b0.o, bS.o, aM.o, ao.o, aN.o, ap.o, aU.o, aT.o, b1.o, bT.o, aO.o, au.o, aP.o, av.o, HB.o⟩)
  ·skip
   rintro ⟨bX, bY, bZ, bk, bl, bo, aB⟩ cC ⟨hS_, h0_, h1_, h2_, h3_, h4_, h5_, h6_, h7_, h8_, h9_, h10_, h11_, h12_, h13_, h14_, h15_⟩
   have n0_ : qAa (Kd.R k71 71 cC w.heap.size (fun k_ => some k_ ≠ (bk : Value).ownBlock) bX aV) := ⟨h0_⟩
   have n1_ : qAa (Kd.S k80 80 cC w.heap.size (fun k_ => some k_ ≠ (bl : Value).ownBlock) bY aW) := ⟨h1_⟩
   have n2_ : qAa (Kd.R k82 82 cC w.heap.size (fun k_ => some k_ ≠ (bo : Value).ownBlock) bZ aX) := ⟨h2_⟩
   have n3_ : qAa (Kd.R k71 71 cC w.heap.size (fun k_ => some k_ ≠ (bX : Value).ownBlock) bk ae) := ⟨h3_⟩
   have n4_ : qAa (Kd.S k80 80 cC w.heap.size (fun k_ => some k_ ≠ (bY : Value).ownBlock) bl al) := ⟨h4_⟩
   have n5_ : qAa (Kd.R k82 82 cC w.heap.size (fun k_ => some k_ ≠ (bZ : Value).ownBlock) bo ar) := ⟨h5_⟩
   have n6_ : qAa (cC.heap[aE]? = some (.cells #[.string a0_0, .slice a8 l0_1.length ab, .slice a9 l0_2.length ac, .slice aa l0_3.length ad] 39 (0, 0))) := ⟨h6_⟩
   have n7_ : qAa (cC.heap[aF]? = some (.cells #[.string a1_0, .slice af l1_1.length ai, .slice ag l1_2.length aj, .slice ah l1_3.length ak] 39 (0, 0))) := ⟨h7_⟩
   have n8_ : qAa (cC.heap[aB]? = some (.cells #[.string ⟨#[]⟩, .slice none 0 0, .slice none 0 0, .slice none 0 0] 27 (0, 0))) := ⟨h8_⟩
   have n9_ : qAa (w.heap.size ≤ aB) := ⟨h9_⟩
   have n10_ : qAa (w.heap.size ≤ aB) := ⟨h10_⟩
   have n11_ : qAa (aE ≠ aB) := ⟨h11_⟩
   have n12_ : qAa (aB ≠ aE) := ⟨h12_⟩
   have n13_ : qAa (aF ≠ aB) := ⟨h13_⟩
   have n14_ : qAa (aB ≠ aF) := ⟨h14_⟩
   have n15_ : qAa (Below w.heap.size w cC) := ⟨h15_⟩
   clear aC aD HB h0_ h1_ h2_ h3_ h4_ h5_ h6_ h7_ h8_ h9_ h10_ h11_ h12_ h13_ h14_ h15_
   have aI := n0_
   have aJ := n1_
   have aK := n2_
   have aQ := n3_
   have aR := n4_
   have aS := n5_
   have aC := n6_
   have aD := n7_
   have aG := n8_
   have b0 := n9_
   have bS := n10_
   have aM := n11_
   have ao := n12_
   have aN := n13_
   have ap := n14_
   have HB := n15_
   clear n0_ n1_ n2_ n3_ n4_ n5_ n6_ n7_ n8_ n9_ n10_ n11_ n12_ n13_ n14_ n15_
   refine qBX (a' := ?_) ?_ ?_
   rotate_left
   ·simp only [qBx, Act.put, List.setIfInBounds_toArray, List.set_cons_zero, List.set_cons_succ]
    rfl
   refine one_ (i := 5) (N := some 6) (mK 8 63) rfl rfl (qBf HT_.o (by kernel_rfl)) (by decide) (fun K hK => ?_)
   refine qBp ?hg (N := 6) ?hd (cs := #[.string ⟨#[]⟩, .slice none 0 0, .slice none 0 0, .slice none 0 0]) (t := 27) ?hr ?_; (case hd => rfl); (case hg => rfl); (case hr => (go_simp; done))
   intro aA hg cH hbox hb
   have n_ := a2 (Kd.R_below aI.o hb) (a2 (Kd.S_below aJ.o hb) (a2 (Kd.R_below aK.o hb) (a2 (Kd.R_below aQ.o hb) (a2 (Kd.S_below aR.o hb) (a2 (Kd.R_below aS.o hb) (a2 (qAd (g := aE) (o := .cells #[.string a0_0, .slice a8 l0_1.length ab, .slice a9 l0_2.length ac, .slice aa l0_3.length ad] 39 (0, 0)) aC.o hb) (a2 (qAd (g := aF) (o := .cells #[.string a1_0, .slice af l1_1.length ai, .slice ag l1_2.length aj, .slice ah l1_3.length ak] 39 (0, 0)) aD.o hb) (a2 (qAd (g := aB) (o := .cells #[.string ⟨#[]⟩, .slice none 0 0, .slice none 0 0, .slice none 0 0] 27 (0, 0)) aG.o hb) (a2 (qAj HB.o hb) (a2 (hbox) (a2 (by rw [hg]; exact (qAe HB.o) : w.heap.size ≤ aA) (a2 (by rw [hg]; exact (qAe HB.o) : w.heap.size ≤ aA) (a2 (by rw [hg]; exact Nat.ne_of_lt (qAw (g := aE) (o := .cells #[.string a0_0, .slice a8 l0_1.length ab, .slice a9 l0_2.length ac, .slice aa l0_3.length ad] 39 (0, 0)) aC.o) : aE ≠ aA) (a2 (by rw [hg]; exact Nat.ne_of_gt (qAw (g := aE) (o := .cells #[.string a0_0, .slice a8 l0_1.length ab, .slice a9 l0_2.length ac, .slice aa l0_3.length ad] 39 (0, 0)) aC.o) : aA ≠ aE) (a2 (by rw [hg]; exact Nat.ne_of_lt (qAw (g := aF) (o := .cells #[.string a1_0, .slice af l1_1.length ai, .slice ag l1_2.length aj, .slice ah l1_3.length ak] 39 (0, 0)) aD.o) : aF ≠ aA) (a2 (by rw [hg]; exact Nat.ne_of_gt (qAw (g := aF) (o := .cells #[.string a1_0, .slice af l1_1.length ai, .slice ag l1_2.length aj, .slice ah l1_3.length ak] 39 (0, 0)) aD.o) : aA ≠ aF) (a2 (by rw [hg]; exact Nat.ne_of_lt (qAw (g := aB) (o := .cells #[.string ⟨#[]⟩, .slice none 0 0, .slice none 0 0, .slice none 0 0] 27 (0, 0)) aG.o) : aB ≠ aA) (am (by rw [hg]; exact Nat.ne_of_gt (qAw (g := aB) (o := .cells #[.string ⟨#[]⟩, .slice none 0 0, .slice none 0 0, .slice none 0 0] 27 (0, 0)) aG.o) : aA ≠ aB)))))))))))))))))))
   clear aI aJ aK aQ aR aS aC aD aG HB
   obtain ⟨aI, aJ, aK, aQ, aR, aS, aC, aD, aG, HB, aH, b1, bT, aO, au, aP, av, aT, aU⟩ := n_
   clear hb hbox hg
   refine hK.o _ _ ⟨(qAb aC.o 0).trans rfl, (qAb aC.o 1).trans rfl, (qAb aC.o 2).trans rfl, (qAb aC.o 3).trans rfl, (qAb aD.o 0).trans rfl, (qAb aD.o 1).trans rfl, (qAb aD.o 2).trans rfl, (qAb aD.o 3).trans rfl⟩ (fun hHeld => ?_)
   clear hK K
   refine nm ?_
   exact nq (hJ1_3_4_5 (bX, bY, bZ, bk, bl, bo, aB, aA) _ ⟨hHeld, aI.o, aJ.o, aK.o, aQ.o, aR.o, aS.o, aC.o, aD.o, aG.o, aH.o, b0.o, bS.o, aM.o, ao.o, aN.o, ap.o, aU.o, aT.o, b1.o, bT.o, aO.o, au.o, aP.o, av.o, HB.o⟩)
 rintro ⟨bX, bY, bZ, bk, bl, bo, aB, aA⟩ cH ⟨hS_, h0_, h1_, h2_, h3_, h4_, h5_, h6_, h7_, h8_, h9_, h10_, h11_, h12_, h13_, h14_, h15_, h16_, h17_, h18_, h19_, h20_, h21_, h22_, h23_, h24_⟩
 have n0_ : qAa (Kd.R k71 71 cH w.heap.size (fun k_ => some k_ ≠ (bk : Value).ownBlock) bX aV) := ⟨h0_⟩
 have n1_ : qAa (Kd.S k80 80 cH w.heap.size (fun k_ => some k_ ≠ (bl : Value).ownBlock) bY aW) := ⟨h1_⟩
 have n2_ : qAa (Kd.R k82 82 cH w.heap.size (fun k_ => some k_ ≠ (bo : Value).ownBlock) bZ aX) := ⟨h2_⟩
 have n3_ : qAa (Kd.R k71 71 cH w.heap.size (fun k_ => some k_ ≠ (bX : Value).ownBlock) bk ae) := ⟨h3_⟩
 have n4_ : qAa (Kd.S k80 80 cH w.heap.size (fun k_ => some k_ ≠ (bY : Value).ownBlock) bl al) := ⟨h4_⟩
 have n5_ : qAa (Kd.R k82 82 cH w.heap.size (fun k_ => some k_ ≠ (bZ : Value).ownBlock) bo ar) := ⟨h5_⟩
 have n6_ : qAa (cH.heap[aE]? = some (.cells #[.string a0_0, .slice a8 l0_1.length ab, .slice a9 l0_2.length ac, .slice aa l0_3.length ad] 39 (0, 0))) := ⟨h6_⟩
 have n7_ : qAa (cH.heap[aF]? = some (.cells #[.string a1_0, .slice af l1_1.length ai, .slice ag l1_2.length aj, .slice ah l1_3.length ak] 39 (0, 0))) := ⟨h7_⟩
 have n8_ : qAa (cH.heap[aB]? = some (.cells #[.string ⟨#[]⟩, .slice none 0 0, .slice none 0 0, .slice none 0 0] 27 (0, 0))) := ⟨h8_⟩
 have n9_ : qAa (cH.heap[aA]? = some (.cells #[.string ⟨#[]⟩, .slice none 0 0, .slice none 0 0, .slice none 0 0] 27 (0, 0))) := ⟨h9_⟩
 have n10_ : qAa (w.heap.size ≤ aB) := ⟨h10_⟩
 have n11_ : qAa (w.heap.size ≤ aB) := ⟨h11_⟩
 have n12_ : qAa (aE ≠ aB) := ⟨h12_⟩
 have n13_ : qAa (aB ≠ aE) := ⟨h13_⟩
 have n14_ : qAa (aF ≠ aB) := ⟨h14_⟩
 have n15_ : qAa (aB ≠ aF) := ⟨h15_⟩
 have n16_ : qAa (aA ≠ aB) := ⟨h16_⟩
 have n17_ : qAa (aB ≠ aA) := ⟨h17_⟩
 have n18_ : qAa (w.heap.size ≤ aA) := ⟨h18_⟩
 have n19_ : qAa (w.heap.size ≤ aA) := ⟨h19_⟩
 have n20_ : qAa (aE ≠ aA) := ⟨h20_⟩
 have n21_ : qAa (aA ≠ aE) := ⟨h21_⟩
 have n22_ : qAa (aF ≠ aA) := ⟨h22_⟩
 have n23_ : qAa (aA ≠ aF) := ⟨h23_⟩
 have n24_ : qAa (Below w.heap.size w cH) := ⟨h24_⟩
 clear aC aD HB h0_ h1_ h2_ h3_ h4_ h5_ h6_ h7_ h8_ h9_ h10_ h11_ h12_ h13_ h14_ h15_ h16_ h17_ h18_ h19_ h20_ h21_ h22_ h23_ h24_
 have aI := n0_
 have aJ := n1_
 have aK := n2_
 have aQ := n3_
 have aR := n4_
 have aS := n5_
 have aC := n6_
 have aD := n7_
 have aG := n8_
 have aH := n9_
 have b0 := n10_
 have bS := n11_
 have aM := n12_
 have ao := n13_
 have aN := n14_
 have ap := n15_
 have aU := n16_
 have aT := n17_
 have b1 := n18_
 have bT := n19_
 have aO := n20_
 have au := n21_
 have aP := n22_
 have av := n23_
 have HB := n24_
 clear n0_ n1_ n2_ n3_ n4_ n5_ n6_ n7_ n8_ n9_ n10_ n11_ n12_ n13_ n14_ n15_ n16_ n17_ n18_ n19_ n20_ n21_ n22_ n23_ n24_
 have hHeld : cH.cell? ⟨aE, 0, none⟩ = some (.string a0_0) ∧ cH.cell? ⟨aE, 1, none⟩ = some (.slice a8 l0_1.length ab) ∧ cH.cell? ⟨aE, 2, none⟩ = some (.slice a9 l0_2.length ac) ∧ cH.cell? ⟨aE, 3, none⟩ = some (.slice aa l0_3.length ad) ∧ cH.cell? ⟨aF, 0, none⟩ = some (.string a1_0) ∧ cH.cell? ⟨aF, 1, none⟩ = some (.slice af l1_1.length ai) ∧ cH.cell? ⟨aF, 2, none⟩ = some (.slice ag l1_2.length aj) ∧ cH.cell? ⟨aF, 3, none⟩ = some (.slice ah l1_3.length ak) := hS_
 obtain ⟨bE, bA, e2⟩ := Kd.R_slice aI.o
 (subst e2)
 obtain ⟨bI, bD, e3⟩ := Kd.S_slice aJ.o
 (subst e3)
 obtain ⟨bJ, bH, e4⟩ := Kd.R_slice aK.o
 (subst e4)
 obtain ⟨ax, ay, e5⟩ := Kd.R_slice aQ.o
 (subst e5)
 obtain ⟨bB, bC, e6⟩ := Kd.S_slice aR.o
 (subst e6)
 obtain ⟨bF, bG, e7⟩ := Kd.R_slice aS.o
 (subst e7)
 refine qBX (a' := ?_) ?_ ?_
 rotate_left
 ·simp only [qBx, Act.put, List.setIfInBounds_toArray, List.set_cons_zero, List.set_cons_succ]
  rfl
 refine one_ (i := 6) (N := none) (mK 8 127) rfl rfl (qBf HT_.o (by kernel_rfl)) (by decide) (fun K hK => ?_)
 have hs26 := c1_ cH aG.o
 have hfs26 := qAr aG.o 0
 have hns26_0 := aM.o
 have hns26_1 := aN.o
 have hns26_3 := aU.o
 have hms26_0 := ao.o
 have hms26_1 := ap.o
 have hms26_3 := aT.o
 obtain ⟨-, hs28⟩ := c2_ cH aG.o
 have hfs28 := qAr aG.o 1
 have hns28_0 := aM.o
 have hns28_1 := aN.o
 have hns28_3 := aU.o
 have hms28_0 := ao.o
 have hms28_1 := ap.o
 have hms28_3 := aT.o
 obtain ⟨-, -, hs30⟩ := c3_ cH aG.o
 have hfs30 := qAr aG.o 2
 have hns30_0 := aM.o
 have hns30_1 := aN.o
 have hns30_3 := aU.o
 have hms30_0 := ao.o
 have hms30_1 := ap.o
 have hms30_3 := aT.o
 obtain ⟨-, -, -, hs32⟩ := c4_ cH aG.o
 have hfs32 := qAr aG.o 3
 have hns32_0 := aM.o
 have hns32_1 := aN.o
 have hns32_3 := aU.o
 have hms32_0 := ao.o
 have hms32_1 := ap.o
 have hms32_3 := aT.o
 refine skip_ (w1 := ?_) (by rfl) rfl ?_ ?_
 rotate_left
 ·go_simp
  rfl
 refine hK.o _ _ ⟨((qA0 (p := ⟨aB, _, none⟩) aM.o _).trans ((qA0 (p := ⟨aB, _, none⟩) aM.o _).trans ((qA0 (p := ⟨aB, _, none⟩) aM.o _).trans ((qA0 (p := ⟨aB, _, none⟩) aM.o _).trans (hHeld.1))))), ((qA0 (p := ⟨aB, _, none⟩) aM.o _).trans ((qA0 (p := ⟨aB, _, none⟩) aM.o _).trans ((qA0 (p := ⟨aB, _, none⟩) aM.o _).trans ((qA0 (p := ⟨aB, _, none⟩) aM.o _).trans (hHeld.2.1))))), ((qA0 (p := ⟨aB, _, none⟩) aM.o _).trans ((qA0 (p := ⟨aB, _, none⟩) aM.o _).trans ((qA0 (p := ⟨aB, _, none⟩) aM.o _).trans ((qA0 (p := ⟨aB, _, none⟩) aM.o _).trans (hHeld.2.2.1))))), ((qA0 (p := ⟨aB, _, none⟩) aM.o _).trans ((qA0 (p := ⟨aB, _, none⟩) aM.o _).trans ((qA0 (p := ⟨aB, _, none⟩) aM.o _).trans ((qA0 (p := ⟨aB, _, none⟩) aM.o _).trans (hHeld.2.2.2.1))))), ((qA0 (p := ⟨aB, _, none⟩) aN.o _).trans ((qA0 (p := ⟨aB, _, none⟩) aN.o _).trans ((qA0 (p := ⟨aB, _, none⟩) aN.o _).trans ((qA0 (p := ⟨aB, _, none⟩) aN.o _).trans (hHeld.2.2.2.2.1))))), ((qA0 (p := ⟨aB, _, none⟩) aN.o _).trans ((qA0 (p := ⟨aB, _, none⟩) aN.o _).trans ((qA0 (p := ⟨aB, _, none⟩) aN.o _).trans ((qA0 (p := ⟨aB, _, none⟩) aN.o _).trans (hHeld.2.2.2.2.2.1))))), ((qA0 (p := ⟨aB, _, none⟩) aN.o _).trans ((qA0 (p := ⟨aB, _, none⟩) aN.o _).trans ((qA0 (p := ⟨aB, _, none⟩) aN.o _).trans ((qA0 (p := ⟨aB, _, none⟩) aN.o _).trans (hHeld.2.2.2.2.2.2.1))))), ((qA0 (p := ⟨aB, _, none⟩) aN.o _).trans ((qA0 (p := ⟨aB, _, none⟩) aN.o _).trans ((qA0 (p := ⟨aB, _, none⟩) aN.o _).trans ((qA0 (p := ⟨aB, _, none⟩) aN.o _).trans (hHeld.2.2.2.2.2.2.2)))))⟩ (fun hHeld => ?_)
 clear hK K
 refine one_ (i := 7) (N := none) (mK 8 255) rfl rfl (qBf HT_.o (by kernel_rfl)) (by decide) (fun K hK => ?_)
 have hs33 := c1_ cH aH.o
 have hfs33 := qAr aH.o 0
 have hns33_0 := aO.o
 have hns33_1 := aP.o
 have hns33_2 := aT.o
 have hms33_0 := au.o
 have hms33_1 := av.o
 have hms33_2 := aU.o
 obtain ⟨-, hs35⟩ := c2_ cH aH.o
 have hfs35 := qAr aH.o 1
 have hns35_0 := aO.o
 have hns35_1 := aP.o
 have hns35_2 := aT.o
 have hms35_0 := au.o
 have hms35_1 := av.o
 have hms35_2 := aU.o
 obtain ⟨-, -, hs37⟩ := c3_ cH aH.o
 have hfs37 := qAr aH.o 2
 have hns37_0 := aO.o
 have hns37_1 := aP.o
 have hns37_2 := aT.o
 have hms37_0 := au.o
 have hms37_1 := av.o
 have hms37_2 := aU.o
 obtain ⟨-, -, -, hs39⟩ := c4_ cH aH.o
 have hfs39 := qAr aH.o 3
 have hns39_0 := aO.o
 have hns39_1 := aP.o
 have hns39_2 := aT.o
 have hms39_0 := au.o
 have hms39_1 := av.o
 have hms39_2 := aU.o
 refine skip_ (w1 := ?_) (by rfl) rfl ?_ ?_
 rotate_left
 ·go_simp
  rfl
 refine hK.o _ _ ⟨((qA0 (p := ⟨aA, _, none⟩) aO.o _).trans ((qA0 (p := ⟨aA, _, none⟩) aO.o _).trans ((qA0 (p := ⟨aA, _, none⟩) aO.o _).trans ((qA0 (p := ⟨aA, _, none⟩) aO.o _).trans (hHeld.1))))), ((qA0 (p := ⟨aA, _, none⟩) aO.o _).trans ((qA0 (p := ⟨aA, _, none⟩) aO.o _).trans ((qA0 (p := ⟨aA, _, none⟩) aO.o _).trans ((qA0 (p := ⟨aA, _, none⟩) aO.o _).trans (hHeld.2.1))))), ((qA0 (p := ⟨aA, _, none⟩) aO.o _).trans ((qA0 (p := ⟨aA, _, none⟩) aO.o _).trans ((qA0 (p := ⟨aA, _, none⟩) aO.o _).trans ((qA0 (p := ⟨aA, _, none⟩) aO.o _).trans (hHeld.2.2.1))))), ((qA0 (p := ⟨aA, _, none⟩) aO.o _).trans ((qA0 (p := ⟨aA, _, none⟩) aO.o _).trans ((qA0 (p := ⟨aA, _, none⟩) aO.o _).trans ((qA0 (p := ⟨aA, _, none⟩) aO.o _).trans (hHeld.2.2.2.1))))), ((qA0 (p := ⟨aA, _, none⟩) aP.o _).trans ((qA0 (p := ⟨aA, _, none⟩) aP.o _).trans ((qA0 (p := ⟨aA, _, none⟩) aP.o _).trans ((qA0 (p := ⟨aA, _, none⟩) aP.o _).trans (hHeld.2.2.2.2.1))))), ((qA0 (p := ⟨aA, _, none⟩) aP.o _).trans ((qA0 (p := ⟨aA, _, none⟩) aP.o _).trans ((qA0 (p := ⟨aA, _, none⟩) aP.o _).trans ((qA0 (p := ⟨aA, _, none⟩) aP.o _).trans (hHeld.2.2.2.2.2.1))))), ((qA0 (p := ⟨aA, _, none⟩) aP.o _).trans ((qA0 (p := ⟨aA, _, none⟩) aP.o _).trans ((qA0 (p := ⟨aA, _, none⟩) aP.o _).trans ((qA0 (p := ⟨aA, _, none⟩) aP.o _).trans (hHeld.2.2.2.2.2.2.1))))), ((qA0 (p := ⟨aA, _, none⟩) aP.o _).trans ((qA0 (p := ⟨aA, _, none⟩) aP.o _).trans ((qA0 (p := ⟨aA, _, none⟩) aP.o _).trans ((qA0 (p := ⟨aA, _, none⟩) aP.o _).trans (hHeld.2.2.2.2.2.2.2)))))⟩ (fun hHeld => ?_)
 clear hK K
 refine qE1 (qCk HT_.o (by kernel_rfl)) ?_
 have fF := ao.o
 have fJ := aM.o
 have fG := ap.o
 have fK := aN.o
 have fH := aT.o
 have fL := aU.o
 obtain ⟨dk, dl, dm, dn⟩ := c4_ cH aG.o
 obtain ⟨eK, eL, eM, eN⟩ := z4_ aG.o
 by_cases c7 : cG = 0
 ·rw [if_pos c7] at H
  have e1 : (cG != 0) = false := bn c7
  clear c7
  replace H := bm H
  obtain ⟨⟨bO, bN, bP, bQ, c0⟩, ev, H⟩ := H
  replace H : (if c0 = 0 then ((qAK.f bO bN bP bQ aY aV aW aX).bind fun cF => (if cF = true then ((qAn.f k bO bN bP bQ).bind fun bj => (if bj = 0 then ((qAt.f k).bind fun br => (if br = true then (if cI = 0 then ((qAK.f aY aV aW aX aq ae al ar).bind fun bc => (some (bc == ((strOfNums bd).toList == (strOfNums cK).toList)))) else (some true)) else (none))) else (none))) else (none))) else (none)) = some r := H
  have A8 := am ev
  clear ev
  by_cases c9 : c0 = 0
  ·rw [if_pos c9] at H
   have fS : (c0 != 0) = false := bn c9
   clear c9
   replace H := bm H
   obtain ⟨cF, ck, H⟩ := H
   replace H : (if cF = true then ((qAn.f k bO bN bP bQ).bind fun bj => (if bj = 0 then ((qAt.f k).bind fun br => (if br = true then (if cI = 0 then ((qAK.f aY aV aW aX aq ae al ar).bind fun bc => (some (bc == ((strOfNums bd).toList == (strOfNums cK).toList)))) else (some true)) else (none))) else (none))) else (none)) = some r := H
   have eo := am ck
   clear ck
   by_cases dh : cF = true
   ·subst dh
    replace H : ((qAn.f k bO bN bP bQ).bind fun bj => (if bj = 0 then ((qAt.f k).bind fun br => (if br = true then (if cI = 0 then ((qAK.f aY aV aW aX aq ae al ar).bind fun bc => (some (bc == ((strOfNums bd).toList == (strOfNums cK).toList)))) else (some true)) else (none))) else (none))) = some r := by rw [if_pos rfl] at H; exact H
    replace H := bm H
    obtain ⟨bj, cm, H⟩ := H
    replace H : (if bj = 0 then ((qAt.f k).bind fun br => (if br = true then (if cI = 0 then ((qAK.f aY aV aW aX aq ae al ar).bind fun bc => (some (bc == ((strOfNums bd).toList == (strOfNums cK).toList)))) else (some true)) else (none))) else (none)) = some r := H
    have ep := am cm
    clear cm
    by_cases di : bj = 0
    ·rw [if_pos di] at H
     have fC : (bj != 0) = false := bn di
     clear di
     replace H := bm H
     obtain ⟨br, cn, H⟩ := H
     replace H : (if br = true then (if cI = 0 then ((qAK.f aY aV aW aX aq ae al ar).bind fun bc => (some (bc == ((strOfNums bd).toList == (strOfNums cK).toList)))) else (some true)) else (none)) = some r := H
     have eq := am cn
     clear cn
     by_cases dj : br = true
     ·subst dj
      replace H : (if cI = 0 then ((qAK.f aY aV aW aX aq ae al ar).bind fun bc => (some (bc == ((strOfNums bd).toList == (strOfNums cK).toList)))) else (some true)) = some r := by rw [if_pos rfl] at H; exact H
      by_cases cr : cI = 0
      ·rw [if_pos cr] at H
       have ct : (cI != 0) = false := bn cr
       clear cr
       replace H := bm H
       obtain ⟨bc, co, H⟩ := H
       replace H : (some (bc == ((strOfNums bd).toList == (strOfNums cK).toList))) = some r := H
       have fQ := am co
       clear co
       obtain rfl := Option.some.inj H
       try go_wp2_with (first | ((with_reducible refine qAp (f := 9) rfl ?_); refine gL 19 Try.func9 #[.agg #[.string aY, .slice bE aV.length bA, .slice bI aW.length bD, .slice bJ aX.length bH]] ?_; (with_reducible refine (qA9.calls aY _ _ aV _ _ aW _ _ aX bd cG _ ?side1 ?side2 ?side3 ?side4 ?side5 ?side6 A5.o).mono ?_); (case side1 => refine (Kd.R_reads' (e := 71) (base := w.heap.size) (ok := fun k_ => some k_ ≠ (.slice ax ae.length ay : Value).ownBlock) (n := aV.length) (c := bA) ?_).2.2; exact (by exact (Kd.R_mono (Kd.R_mono (Kd.R_far (p := ⟨aA, 3, none⟩) (Kd.R_far (p := ⟨aA, 2, none⟩) (Kd.R_far (p := ⟨aA, 1, none⟩) (Kd.R_far (p := ⟨aA, 0, none⟩) (Kd.R_far (p := ⟨aB, 3, none⟩) (Kd.R_far (p := ⟨aB, 2, none⟩) (Kd.R_far (p := ⟨aB, 1, none⟩) (Kd.R_far (p := ⟨aB, 0, none⟩) (Kd.R_types (Kd.R_types aI.o aG.o (by decide)) aH.o (by decide)) (fun _ hk => hk.1.2) (.string aY)) (fun _ hk => hk.1.2) (.slice bE aV.length bA)) (fun _ hk => hk.1.2) (.slice bI aW.length bD)) (fun _ hk => hk.1.2) (.slice bJ aX.length bH)) (fun _ hk => hk.2) (.string aq)) (fun _ hk => hk.2) (.slice ax ae.length ay)) (fun _ hk => hk.2) (.slice bB al.length bC)) (fun _ hk => hk.2) (.slice bF ar.length bG)) (fun _ h_ => h_.1)) (fun _ h_ => h_.1)))); (case side2 => exact (Kd.R_reads' aI.o).2.1); (case side3 => refine (Kd.S_reads' (e := 80) (base := w.heap.size) (ok := fun k_ => some k_ ≠ (.slice bB al.length bC : Value).ownBlock) (n := aW.length) (c := bD) ?_).2.2; exact (by exact (Kd.S_mono (Kd.S_mono (Kd.S_far (p := ⟨aA, 3, none⟩) (Kd.S_far (p := ⟨aA, 2, none⟩) (Kd.S_far (p := ⟨aA, 1, none⟩) (Kd.S_far (p := ⟨aA, 0, none⟩) (Kd.S_far (p := ⟨aB, 3, none⟩) (Kd.S_far (p := ⟨aB, 2, none⟩) (Kd.S_far (p := ⟨aB, 1, none⟩) (Kd.S_far (p := ⟨aB, 0, none⟩) (Kd.S_types (Kd.S_types aJ.o aG.o (by decide)) aH.o (by decide)) (fun _ hk => hk.1.2) (.string aY)) (fun _ hk => hk.1.2) (.slice bE aV.length bA)) (fun _ hk => hk.1.2) (.slice bI aW.length bD)) (fun _ hk => hk.1.2) (.slice bJ aX.length bH)) (fun _ hk => hk.2) (.string aq)) (fun _ hk => hk.2) (.slice ax ae.length ay)) (fun _ hk => hk.2) (.slice bB al.length bC)) (fun _ hk => hk.2) (.slice bF ar.length bG)) (fun _ h_ => h_.1)) (fun _ h_ => h_.1)))); (case side4 => exact (Kd.S_reads' aJ.o).2.1); (case side5 => refine (Kd.R_reads' (e := 82) (base := w.heap.size) (ok := fun k_ => some k_ ≠ (.slice bF ar.length bG : Value).ownBlock) (n := aX.length) (c := bH) ?_).2.2; exact (by exact (Kd.R_mono (Kd.R_mono (Kd.R_far (p := ⟨aA, 3, none⟩) (Kd.R_far (p := ⟨aA, 2, none⟩) (Kd.R_far (p := ⟨aA, 1, none⟩) (Kd.R_far (p := ⟨aA, 0, none⟩) (Kd.R_far (p := ⟨aB, 3, none⟩) (Kd.R_far (p := ⟨aB, 2, none⟩) (Kd.R_far (p := ⟨aB, 1, none⟩) (Kd.R_far (p := ⟨aB, 0, none⟩) (Kd.R_types (Kd.R_types aK.o aG.o (by decide)) aH.o (by decide)) (fun _ hk => hk.1.2) (.string aY)) (fun _ hk => hk.1.2) (.slice bE aV.length bA)) (fun _ hk => hk.1.2) (.slice bI aW.length bD)) (fun _ hk => hk.1.2) (.slice bJ aX.length bH)) (fun _ hk => hk.2) (.string aq)) (fun _ hk => hk.2) (.slice ax ae.length ay)) (fun _ hk => hk.2) (.slice bB al.length bC)) (fun _ hk => hk.2) (.slice bF ar.length bG)) (fun _ h_ => h_.1)) (fun _ h_ => h_.1)))); (case side6 => exact (Kd.R_reads' aK.o).2.1); rintro e f2 ⟨ch, rfl, bb, hb⟩; refine ⟨_, rfl, ?_⟩; have n_ := a2 (Kd.R_below (by exact (Kd.R_mono (Kd.R_mono (Kd.R_far (p := ⟨aA, 3, none⟩) (Kd.R_far (p := ⟨aA, 2, none⟩) (Kd.R_far (p := ⟨aA, 1, none⟩) (Kd.R_far (p := ⟨aA, 0, none⟩) (Kd.R_far (p := ⟨aB, 3, none⟩) (Kd.R_far (p := ⟨aB, 2, none⟩) (Kd.R_far (p := ⟨aB, 1, none⟩) (Kd.R_far (p := ⟨aB, 0, none⟩) (Kd.R_types (Kd.R_types aI.o aG.o (by decide)) aH.o (by decide)) (fun _ hk => hk.1.2) (.string aY)) (fun _ hk => hk.1.2) (.slice bE aV.length bA)) (fun _ hk => hk.1.2) (.slice bI aW.length bD)) (fun _ hk => hk.1.2) (.slice bJ aX.length bH)) (fun _ hk => hk.2) (.string aq)) (fun _ hk => hk.2) (.slice ax ae.length ay)) (fun _ hk => hk.2) (.slice bB al.length bC)) (fun _ hk => hk.2) (.slice bF ar.length bG)) (fun _ h_ => h_.1)) (fun _ h_ => h_.1))) hb) (a2 (Kd.S_below (by exact (Kd.S_mono (Kd.S_mono (Kd.S_far (p := ⟨aA, 3, none⟩) (Kd.S_far (p := ⟨aA, 2, none⟩) (Kd.S_far (p := ⟨aA, 1, none⟩) (Kd.S_far (p := ⟨aA, 0, none⟩) (Kd.S_far (p := ⟨aB, 3, none⟩) (Kd.S_far (p := ⟨aB, 2, none⟩) (Kd.S_far (p := ⟨aB, 1, none⟩) (Kd.S_far (p := ⟨aB, 0, none⟩) (Kd.S_types (Kd.S_types aJ.o aG.o (by decide)) aH.o (by decide)) (fun _ hk => hk.1.2) (.string aY)) (fun _ hk => hk.1.2) (.slice bE aV.length bA)) (fun _ hk => hk.1.2) (.slice bI aW.length bD)) (fun _ hk => hk.1.2) (.slice bJ aX.length bH)) (fun _ hk => hk.2) (.string aq)) (fun _ hk => hk.2) (.slice ax ae.length ay)) (fun _ hk => hk.2) (.slice bB al.length bC)) (fun _ hk => hk.2) (.slice bF ar.length bG)) (fun _ h_ => h_.1)) (fun _ h_ => h_.1))) hb) (a2 (Kd.R_below (by exact (Kd.R_mono (Kd.R_mono (Kd.R_far (p := ⟨aA, 3, none⟩) (Kd.R_far (p := ⟨aA, 2, none⟩) (Kd.R_far (p := ⟨aA, 1, none⟩) (Kd.R_far (p := ⟨aA, 0, none⟩) (Kd.R_far (p := ⟨aB, 3, none⟩) (Kd.R_far (p := ⟨aB, 2, none⟩) (Kd.R_far (p := ⟨aB, 1, none⟩) (Kd.R_far (p := ⟨aB, 0, none⟩) (Kd.R_types (Kd.R_types aK.o aG.o (by decide)) aH.o (by decide)) (fun _ hk => hk.1.2) (.string aY)) (fun _ hk => hk.1.2) (.slice bE aV.length bA)) (fun _ hk => hk.1.2) (.slice bI aW.length bD)) (fun _ hk => hk.1.2) (.slice bJ aX.length bH)) (fun _ hk => hk.2) (.string aq)) (fun _ hk => hk.2) (.slice ax ae.length ay)) (fun _ hk => hk.2) (.slice bB al.length bC)) (fun _ hk => hk.2) (.slice bF ar.length bG)) (fun _ h_ => h_.1)) (fun _ h_ => h_.1))) hb) (a2 (Kd.R_below (by exact (Kd.R_mono (Kd.R_mono (Kd.R_far (p := ⟨aA, 3, none⟩) (Kd.R_far (p := ⟨aA, 2, none⟩) (Kd.R_far (p := ⟨aA, 1, none⟩) (Kd.R_far (p := ⟨aA, 0, none⟩) (Kd.R_far (p := ⟨aB, 3, none⟩) (Kd.R_far (p := ⟨aB, 2, none⟩) (Kd.R_far (p := ⟨aB, 1, none⟩) (Kd.R_far (p := ⟨aB, 0, none⟩) (Kd.R_types (Kd.R_types aQ.o aG.o (by decide)) aH.o (by decide)) (fun _ hk => hk.1.2) (.string aY)) (fun _ hk => hk.1.2) (.slice bE aV.length bA)) (fun _ hk => hk.1.2) (.slice bI aW.length bD)) (fun _ hk => hk.1.2) (.slice bJ aX.length bH)) (fun _ hk => hk.2) (.string aq)) (fun _ hk => hk.2) (.slice ax ae.length ay)) (fun _ hk => hk.2) (.slice bB al.length bC)) (fun _ hk => hk.2) (.slice bF ar.length bG)) (fun _ h_ => h_.1)) (fun _ h_ => h_.1))) hb) (a2 (Kd.S_below (by exact (Kd.S_mono (Kd.S_mono (Kd.S_far (p := ⟨aA, 3, none⟩) (Kd.S_far (p := ⟨aA, 2, none⟩) (Kd.S_far (p := ⟨aA, 1, none⟩) (Kd.S_far (p := ⟨aA, 0, none⟩) (Kd.S_far (p := ⟨aB, 3, none⟩) (Kd.S_far (p := ⟨aB, 2, none⟩) (Kd.S_far (p := ⟨aB, 1, none⟩) (Kd.S_far (p := ⟨aB, 0, none⟩) (Kd.S_types (Kd.S_types aR.o aG.o (by decide)) aH.o (by decide)) (fun _ hk => hk.1.2) (.string aY)) (fun _ hk => hk.1.2) (.slice bE aV.length bA)) (fun _ hk => hk.1.2) (.slice bI aW.length bD)) (fun _ hk => hk.1.2) (.slice bJ aX.length bH)) (fun _ hk => hk.2) (.string aq)) (fun _ hk => hk.2) (.slice ax ae.length ay)) (fun _ hk => hk.2) (.slice bB al.length bC)) (fun _ hk => hk.2) (.slice bF ar.length bG)) (fun _ h_ => h_.1)) (fun _ h_ => h_.1))) hb) (a2 (Kd.R_below (by exact (Kd.R_mono (Kd.R_mono (Kd.R_far (p := ⟨aA, 3, none⟩) (Kd.R_far (p := ⟨aA, 2, none⟩) (Kd.R_far (p := ⟨aA, 1, none⟩) (Kd.R_far (p := ⟨aA, 0, none⟩) (Kd.R_far (p := ⟨aB, 3, none⟩) (Kd.R_far (p := ⟨aB, 2, none⟩) (Kd.R_far (p := ⟨aB, 1, none⟩) (Kd.R_far (p := ⟨aB, 0, none⟩) (Kd.R_types (Kd.R_types aS.o aG.o (by decide)) aH.o (by decide)) (fun _ hk => hk.1.2) (.string aY)) (fun _ hk => hk.1.2) (.slice bE aV.length bA)) (fun _ hk => hk.1.2) (.slice bI aW.length bD)) (fun _ hk => hk.1.2) (.slice bJ aX.length bH)) (fun _ hk => hk.2) (.string aq)) (fun _ hk => hk.2) (.slice ax ae.length ay)) (fun _ hk => hk.2) (.slice bB al.length bC)) (fun _ hk => hk.2) (.slice bF ar.length bG)) (fun _ h_ => h_.1)) (fun _ h_ => h_.1))) hb) (a2 (Kd.R_lower bb (qAe (by repeat (with_reducible first | exact HB.o | refine qAq ?_ bS.o | refine qAq ?_ bT.o)))) (a2 (qAd (g := aE) (o := .cells #[.string a0_0, .slice a8 l0_1.length ab, .slice a9 l0_2.length ac, .slice aa l0_3.length ad] 39 (0, 0)) (by refine qAg ?_ aO.o _; refine qAg ?_ aO.o _; refine qAg ?_ aO.o _; refine qAg ?_ aO.o _; refine qAg ?_ aM.o _; refine qAg ?_ aM.o _; refine qAg ?_ aM.o _; refine qAg ?_ aM.o _; exact aC.o) hb) (a2 (qAd (g := aF) (o := .cells #[.string a1_0, .slice af l1_1.length ai, .slice ag l1_2.length aj, .slice ah l1_3.length ak] 39 (0, 0)) (by refine qAg ?_ aP.o _; refine qAg ?_ aP.o _; refine qAg ?_ aP.o _; refine qAg ?_ aP.o _; refine qAg ?_ aN.o _; refine qAg ?_ aN.o _; refine qAg ?_ aN.o _; refine qAg ?_ aN.o _; exact aD.o) hb) (a2 (qAd (g := aB) (o := .cells #[.string aY, .slice bE aV.length bA, .slice bI aW.length bD, .slice bJ aX.length bH] 27 (0, 0)) (by refine qAg ?_ aT.o _; refine qAg ?_ aT.o _; refine qAg ?_ aT.o _; refine qAg ?_ aT.o _; refine qAo (cs := #[.string aY, .slice bE aV.length bA, .slice bI aW.length bD, .slice none 0 0]) ?_ 3 _ rfl; refine qAo (cs := #[.string aY, .slice bE aV.length bA, .slice none 0 0, .slice none 0 0]) ?_ 2 _ rfl; refine qAo (cs := #[.string aY, .slice none 0 0, .slice none 0 0, .slice none 0 0]) ?_ 1 _ rfl; refine qAo (cs := #[.string ⟨#[]⟩, .slice none 0 0, .slice none 0 0, .slice none 0 0]) ?_ 0 _ rfl; exact aG.o) hb) (a2 (qAd (g := aA) (o := .cells #[.string aq, .slice ax ae.length ay, .slice bB al.length bC, .slice bF ar.length bG] 27 (0, 0)) (by refine qAo (cs := #[.string aq, .slice ax ae.length ay, .slice bB al.length bC, .slice none 0 0]) ?_ 3 _ rfl; refine qAo (cs := #[.string aq, .slice ax ae.length ay, .slice none 0 0, .slice none 0 0]) ?_ 2 _ rfl; refine qAo (cs := #[.string aq, .slice none 0 0, .slice none 0 0, .slice none 0 0]) ?_ 1 _ rfl; refine qAo (cs := #[.string ⟨#[]⟩, .slice none 0 0, .slice none 0 0, .slice none 0 0]) ?_ 0 _ rfl; refine qAg ?_ aU.o _; refine qAg ?_ aU.o _; refine qAg ?_ aU.o _; refine qAg ?_ aU.o _; exact aH.o) hb) (am (qAj (by repeat (with_reducible first | exact HB.o | refine qAq ?_ bS.o | refine qAq ?_ bT.o)) hb)))))))))))); clear aI aJ aK aQ aR aS aC aD aG aH HB; obtain ⟨aI, aJ, aK, aQ, aR, aS, aZ, aC, aD, aG, aH, HB⟩ := n_; obtain ⟨dp, dq, dr, dt⟩ := c4_ f2 aH.o; have eO := qAr aH.o 3) | ((with_reducible refine qAp (f := 9) rfl ?_); refine gL 24 Try.func9 #[.agg #[.string aq, .slice ax ae.length ay, .slice bB al.length bC, .slice bF ar.length bG]] ?_; (with_reducible refine (qA9.calls aq _ _ ae _ _ al _ _ ar cK cI _ ?side1 ?side2 ?side3 ?side4 ?side5 ?side6 A6.o).mono ?_); (case side1 => exact (Kd.R_reads' aQ.o).2.2); (case side2 => exact (Kd.R_reads' aQ.o).2.1); (case side3 => exact (Kd.S_reads' aR.o).2.2); (case side4 => exact (Kd.S_reads' aR.o).2.1); (case side5 => exact (Kd.R_reads' aS.o).2.2); (case side6 => exact (Kd.R_reads' aS.o).2.1); rintro e f9 ⟨cc, rfl, bb, hb⟩; refine ⟨_, rfl, ?_⟩; have n_ := a2 (Kd.R_below aI.o hb) (a2 (Kd.S_below aJ.o hb) (a2 (Kd.R_below aK.o hb) (a2 (Kd.R_below aQ.o hb) (a2 (Kd.S_below aR.o hb) (a2 (Kd.R_below aS.o hb) (a2 (Kd.R_elder' aZ.o (Kd.R_base bb) hb) (a2 (Kd.R_lower (Kd.R_new' bb (Kd.R_lt aZ.o)) (qAe HB.o)) (a2 (qAd (g := aE) (o := .cells #[.string a0_0, .slice a8 l0_1.length ab, .slice a9 l0_2.length ac, .slice aa l0_3.length ad] 39 (0, 0)) aC.o hb) (a2 (qAd (g := aF) (o := .cells #[.string a1_0, .slice af l1_1.length ai, .slice ag l1_2.length aj, .slice ah l1_3.length ak] 39 (0, 0)) aD.o hb) (a2 (qAd (g := aB) (o := .cells #[.string aY, .slice bE aV.length bA, .slice bI aW.length bD, .slice bJ aX.length bH] 27 (0, 0)) aG.o hb) (a2 (qAd (g := aA) (o := .cells #[.string aq, .slice ax ae.length ay, .slice bB al.length bC, .slice bF ar.length bG] 27 (0, 0)) aH.o hb) (am (qAj HB.o hb))))))))))))); clear aI aJ aK aQ aR aS aZ aC aD aG aH HB; obtain ⟨aI, aJ, aK, aQ, aR, aS, aZ, az, aC, aD, aG, aH, HB⟩ := n_; obtain ⟨cq, cv, e8⟩ := Kd.R_slice aZ.o; subst e8) | ((with_reducible refine qAp (f := 7) rfl ?_); refine gL 46 Try.func7 #[.slice cq bd.length cv] ?_; (with_reducible refine (qAc.calls k _ _ bd bO bN bP bQ c0 _ ?side1 ?side2 A8.o).mono ?_); (case side1 => exact (Kd.R_reads' aZ.o).2.2); (case side2 => exact (Kd.R_reads' aZ.o).2.1); rintro e fa ⟨ef, eg, eh, rfl, bb, cA, cB, hb⟩; refine ⟨_, rfl, ?_⟩; have n_ := a2 (Kd.R_elder' aI.o (Kd.R_base bb) hb) (a2 (Kd.S_elder' aJ.o (Kd.S_base cA) hb) (a2 (Kd.R_elder' aK.o (Kd.R_base cB) hb) (a2 (Kd.R_elder' aQ.o (Kd.R_base bb) hb) (a2 (Kd.S_elder' aR.o (Kd.S_base cA) hb) (a2 (Kd.R_elder' aS.o (Kd.R_base cB) hb) (a2 (Kd.R_below aZ.o hb) (a2 (Kd.R_below az.o hb) (a2 (Kd.R_lower (Kd.R_new' (Kd.R_new' bb (Kd.R_lt aI.o)) (Kd.R_lt aQ.o)) (qAe HB.o)) (a2 (Kd.S_lower (Kd.S_new' (Kd.S_new' cA (Kd.S_lt aJ.o)) (Kd.S_lt aR.o)) (qAe HB.o)) (a2 (Kd.R_lower (Kd.R_new' (Kd.R_new' cB (Kd.R_lt aK.o)) (Kd.R_lt aS.o)) (qAe HB.o)) (a2 (qAd (g := aE) (o := .cells #[.string a0_0, .slice a8 l0_1.length ab, .slice a9 l0_2.length ac, .slice aa l0_3.length ad] 39 (0, 0)) aC.o hb) (a2 (qAd (g := aF) (o := .cells #[.string a1_0, .slice af l1_1.length ai, .slice ag l1_2.length aj, .slice ah l1_3.length ak] 39 (0, 0)) aD.o hb) (a2 (qAd (g := aB) (o := .cells #[.string aY, .slice bE aV.length bA, .slice bI aW.length bD, .slice bJ aX.length bH] 27 (0, 0)) aG.o hb) (a2 (qAd (g := aA) (o := .cells #[.string aq, .slice ax ae.length ay, .slice bB al.length bC, .slice bF ar.length bG] 27 (0, 0)) aH.o hb) (am (qAj HB.o hb)))))))))))))))); clear aI aJ aK aQ aR aS aZ az aC aD aG aH HB; obtain ⟨aI, aJ, aK, aQ, aR, aS, aZ, az, bK, bL, bM, aC, aD, aG, aH, HB⟩ := n_) | ((with_reducible refine qAJ (N := 11) rfl ?_); refine bx 11 #[.string ⟨#[]⟩, .slice none 0 0, .slice none 0 0, .slice none 0 0] 27 ?_; intro aL hg fP hbox hb; have n_ := a2 (Kd.R_below aI.o hb) (a2 (Kd.S_below aJ.o hb) (a2 (Kd.R_below aK.o hb) (a2 (Kd.R_below aQ.o hb) (a2 (Kd.S_below aR.o hb) (a2 (Kd.R_below aS.o hb) (a2 (Kd.R_below aZ.o hb) (a2 (Kd.R_below az.o hb) (a2 (Kd.R_below bK.o hb) (a2 (Kd.S_below bL.o hb) (a2 (Kd.R_below bM.o hb) (a2 (qAd (g := aE) (o := .cells #[.string a0_0, .slice a8 l0_1.length ab, .slice a9 l0_2.length ac, .slice aa l0_3.length ad] 39 (0, 0)) aC.o hb) (a2 (qAd (g := aF) (o := .cells #[.string a1_0, .slice af l1_1.length ai, .slice ag l1_2.length aj, .slice ah l1_3.length ak] 39 (0, 0)) aD.o hb) (a2 (qAd (g := aB) (o := .cells #[.string aY, .slice bE aV.length bA, .slice bI aW.length bD, .slice bJ aX.length bH] 27 (0, 0)) aG.o hb) (a2 (qAd (g := aA) (o := .cells #[.string aq, .slice ax ae.length ay, .slice bB al.length bC, .slice bF ar.length bG] 27 (0, 0)) aH.o hb) (a2 (qAj HB.o hb) (a2 (hbox) (a2 (by rw [hg]; exact (qAe HB.o) : w.heap.size ≤ aL) (a2 (by rw [hg]; exact Nat.ne_of_lt (qAw (g := aE) (o := .cells #[.string a0_0, .slice a8 l0_1.length ab, .slice a9 l0_2.length ac, .slice aa l0_3.length ad] 39 (0, 0)) aC.o) : aE ≠ aL) (a2 (by rw [hg]; exact Nat.ne_of_lt (qAw (g := aF) (o := .cells #[.string a1_0, .slice af l1_1.length ai, .slice ag l1_2.length aj, .slice ah l1_3.length ak] 39 (0, 0)) aD.o) : aF ≠ aL) (a2 (by rw [hg]; exact Nat.ne_of_lt (qAw (g := aB) (o := .cells #[.string aY, .slice bE aV.length bA, .slice bI aW.length bD, .slice bJ aX.length bH] 27 (0, 0)) aG.o) : aB ≠ aL) (a2 (by rw [hg]; exact Nat.ne_of_lt (qAw (g := aA) (o := .cells #[.string aq, .slice ax ae.length ay, .slice bB al.length bC, .slice bF ar.length bG] 27 (0, 0)) aH.o) : aA ≠ aL) (am (by rw [hg]; exact Nat.ne_of_gt (qAw (g := aA) (o := .cells #[.string aq, .slice ax ae.length ay, .slice bB al.length bC, .slice bF ar.length bG] 27 (0, 0)) aH.o) : aL ≠ aA))))))))))))))))))))))); clear aI aJ aK aQ aR aS aZ az bK bL bM aC aD aG aH HB; obtain ⟨aI, aJ, aK, aQ, aR, aS, aZ, az, bK, bL, bM, aC, aD, aG, aH, HB, an, cZ, b6, b7, bU, bV, cJ⟩ := n_; clear hb hbox hg; have fM := bU.o; have fI := cJ.o; have fN := bV.o; obtain ⟨du, dv, dw, dx⟩ := c4_ fP an.o; obtain ⟨eP, eQ, eR, eS⟩ := z4_ an.o; obtain ⟨bh, bg, e9⟩ := Kd.R_slice bK.o; subst e9; obtain ⟨bp, bi, ea⟩ := Kd.S_slice bL.o; subst ea; obtain ⟨bu, bq, eb⟩ := Kd.R_slice bM.o; subst eb; obtain ⟨dy, dz, eA, eB⟩ := c4_ fP aG.o; have eT := qAr aG.o 3) | (go_at_call 12; (with_reducible refine (qAK.calls bO _ _ bN _ _ bP _ _ bQ aY _ _ aV _ _ aW _ _ aX true _ ?side1 ?side2 ?side3 ?side4 ?side5 ?side6 ?side7 ?side8 ?side9 ?side10 ?side11 ?side12 eo.o).mono ?_); (case side1 => refine (Kd.R_reads' (e := 71) (base := w.heap.size) (ok := fun k_ => ((True ∧ some k_ ≠ (.slice bE aV.length bA : Value).ownBlock) ∧ some k_ ≠ (.slice ax ae.length ay : Value).ownBlock)) (n := bN.length) (c := bg) ?_).2.2; exact (by exact (Kd.R_mono (Kd.R_far (p := ⟨aL, 3, none⟩) (Kd.R_far (p := ⟨aL, 2, none⟩) (Kd.R_far (p := ⟨aL, 1, none⟩) (Kd.R_far (p := ⟨aL, 0, none⟩) (Kd.R_types bK.o an.o (by decide)) (fun _ hk => hk.2) (.string bO)) (fun _ hk => hk.2) (.slice bh bN.length bg)) (fun _ hk => hk.2) (.slice bp bP.length bi)) (fun _ hk => hk.2) (.slice bu bQ.length bq)) (fun _ h_ => h_.1)))); (case side2 => exact (Kd.R_reads' bK.o).2.1); (case side3 => refine (Kd.S_reads' (e := 80) (base := w.heap.size) (ok := fun k_ => ((True ∧ some k_ ≠ (.slice bI aW.length bD : Value).ownBlock) ∧ some k_ ≠ (.slice bB al.length bC : Value).ownBlock)) (n := bP.length) (c := bi) ?_).2.2; exact (by exact (Kd.S_mono (Kd.S_far (p := ⟨aL, 3, none⟩) (Kd.S_far (p := ⟨aL, 2, none⟩) (Kd.S_far (p := ⟨aL, 1, none⟩) (Kd.S_far (p := ⟨aL, 0, none⟩) (Kd.S_types bL.o an.o (by decide)) (fun _ hk => hk.2) (.string bO)) (fun _ hk => hk.2) (.slice bh bN.length bg)) (fun _ hk => hk.2) (.slice bp bP.length bi)) (fun _ hk => hk.2) (.slice bu bQ.length bq)) (fun _ h_ => h_.1)))); (case side4 => exact (Kd.S_reads' bL.o).2.1); (case side5 => refine (Kd.R_reads' (e := 82) (base := w.heap.size) (ok := fun k_ => ((True ∧ some k_ ≠ (.slice bJ aX.length bH : Value).ownBlock) ∧ some k_ ≠ (.slice bF ar.length bG : Value).ownBlock)) (n := bQ.length) (c := bq) ?_).2.2; exact (by exact (Kd.R_mono (Kd.R_far (p := ⟨aL, 3, none⟩) (Kd.R_far (p := ⟨aL, 2, none⟩) (Kd.R_far (p := ⟨aL, 1, none⟩) (Kd.R_far (p := ⟨aL, 0, none⟩) (Kd.R_types bM.o an.o (by decide)) (fun _ hk => hk.2) (.string bO)) (fun _ hk => hk.2) (.slice bh bN.length bg)) (fun _ hk => hk.2) (.slice bp bP.length bi)) (fun _ hk => hk.2) (.slice bu bQ.length bq)) (fun _ h_ => h_.1)))); (case side6 => exact (Kd.R_reads' bM.o).2.1); (case side7 => refine (Kd.R_reads' (e := 71) (base := w.heap.size) (ok := fun k_ => (some k_ ≠ (.slice ax ae.length ay : Value).ownBlock ∧ some k_ ≠ (.slice bh bN.length bg : Value).ownBlock)) (n := aV.length) (c := bA) ?_).2.2; exact (by exact (Kd.R_mono (Kd.R_far (p := ⟨aL, 3, none⟩) (Kd.R_far (p := ⟨aL, 2, none⟩) (Kd.R_far (p := ⟨aL, 1, none⟩) (Kd.R_far (p := ⟨aL, 0, none⟩) (Kd.R_types aI.o an.o (by decide)) (fun _ hk => hk.2) (.string bO)) (fun _ hk => hk.2) (.slice bh bN.length bg)) (fun _ hk => hk.2) (.slice bp bP.length bi)) (fun _ hk => hk.2) (.slice bu bQ.length bq)) (fun _ h_ => h_.1)))); (case side8 => exact (Kd.R_reads' aI.o).2.1); (case side9 => refine (Kd.S_reads' (e := 80) (base := w.heap.size) (ok := fun k_ => (some k_ ≠ (.slice bB al.length bC : Value).ownBlock ∧ some k_ ≠ (.slice bp bP.length bi : Value).ownBlock)) (n := aW.length) (c := bD) ?_).2.2; exact (by exact (Kd.S_mono (Kd.S_far (p := ⟨aL, 3, none⟩) (Kd.S_far (p := ⟨aL, 2, none⟩) (Kd.S_far (p := ⟨aL, 1, none⟩) (Kd.S_far (p := ⟨aL, 0, none⟩) (Kd.S_types aJ.o an.o (by decide)) (fun _ hk => hk.2) (.string bO)) (fun _ hk => hk.2) (.slice bh bN.length bg)) (fun _ hk => hk.2) (.slice bp bP.length bi)) (fun _ hk => hk.2) (.slice bu bQ.length bq)) (fun _ h_ => h_.1)))); (case side10 => exact (Kd.S_reads' aJ.o).2.1); (case side11 => refine (Kd.R_reads' (e := 82) (base := w.heap.size) (ok := fun k_ => (some k_ ≠ (.slice bF ar.length bG : Value).ownBlock ∧ some k_ ≠ (.slice bu bQ.length bq : Value).ownBlock)) (n := aX.length) (c := bH) ?_).2.2; exact (by exact (Kd.R_mono (Kd.R_far (p := ⟨aL, 3, none⟩) (Kd.R_far (p := ⟨aL, 2, none⟩) (Kd.R_far (p := ⟨aL, 1, none⟩) (Kd.R_far (p := ⟨aL, 0, none⟩) (Kd.R_types aK.o an.o (by decide)) (fun _ hk => hk.2) (.string bO)) (fun _ hk => hk.2) (.slice bh bN.length bg)) (fun _ hk => hk.2) (.slice bp bP.length bi)) (fun _ hk => hk.2) (.slice bu bQ.length bq)) (fun _ h_ => h_.1)))); (case side12 => exact (Kd.R_reads' aK.o).2.1); rintro e f3 ⟨rfl, hb⟩; have n_ := a2 (Kd.R_below (by exact (Kd.R_mono (Kd.R_far (p := ⟨aL, 3, none⟩) (Kd.R_far (p := ⟨aL, 2, none⟩) (Kd.R_far (p := ⟨aL, 1, none⟩) (Kd.R_far (p := ⟨aL, 0, none⟩) (Kd.R_types aI.o an.o (by decide)) (fun _ hk => hk.2) (.string bO)) (fun _ hk => hk.2) (.slice bh bN.length bg)) (fun _ hk => hk.2) (.slice bp bP.length bi)) (fun _ hk => hk.2) (.slice bu bQ.length bq)) (fun _ h_ => h_.1))) hb) (a2 (Kd.S_below (by exact (Kd.S_mono (Kd.S_far (p := ⟨aL, 3, none⟩) (Kd.S_far (p := ⟨aL, 2, none⟩) (Kd.S_far (p := ⟨aL, 1, none⟩) (Kd.S_far (p := ⟨aL, 0, none⟩) (Kd.S_types aJ.o an.o (by decide)) (fun _ hk => hk.2) (.string bO)) (fun _ hk => hk.2) (.slice bh bN.length bg)) (fun _ hk => hk.2) (.slice bp bP.length bi)) (fun _ hk => hk.2) (.slice bu bQ.length bq)) (fun _ h_ => h_.1))) hb) (a2 (Kd.R_below (by exact (Kd.R_mono (Kd.R_far (p := ⟨aL, 3, none⟩) (Kd.R_far (p := ⟨aL, 2, none⟩) (Kd.R_far (p := ⟨aL, 1, none⟩) (Kd.R_far (p := ⟨aL, 0, none⟩) (Kd.R_types aK.o an.o (by decide)) (fun _ hk => hk.2) (.string bO)) (fun _ hk => hk.2) (.slice bh bN.length bg)) (fun _ hk => hk.2) (.slice bp bP.length bi)) (fun _ hk => hk.2) (.slice bu bQ.length bq)) (fun _ h_ => h_.1))) hb) (a2 (Kd.R_below (by exact (Kd.R_mono (Kd.R_far (p := ⟨aL, 3, none⟩) (Kd.R_far (p := ⟨aL, 2, none⟩) (Kd.R_far (p := ⟨aL, 1, none⟩) (Kd.R_far (p := ⟨aL, 0, none⟩) (Kd.R_types aQ.o an.o (by decide)) (fun _ hk => hk.2) (.string bO)) (fun _ hk => hk.2) (.slice bh bN.length bg)) (fun _ hk => hk.2) (.slice bp bP.length bi)) (fun _ hk => hk.2) (.slice bu bQ.length bq)) (fun _ h_ => h_.1))) hb) (a2 (Kd.S_below (by exact (Kd.S_mono (Kd.S_far (p := ⟨aL, 3, none⟩) (Kd.S_far (p := ⟨aL, 2, none⟩) (Kd.S_far (p := ⟨aL, 1, none⟩) (Kd.S_far (p := ⟨aL, 0, none⟩) (Kd.S_types aR.o an.o (by decide)) (fun _ hk => hk.2) (.string bO)) (fun _ hk => hk.2) (.slice bh bN.length bg)) (fun _ hk => hk.2) (.slice bp bP.length bi)) (fun _ hk => hk.2) (.slice bu bQ.length bq)) (fun _ h_ => h_.1))) hb) (a2 (Kd.R_below (by exact (Kd.R_mono (Kd.R_far (p := ⟨aL, 3, none⟩) (Kd.R_far (p := ⟨aL, 2, none⟩) (Kd.R_far (p := ⟨aL, 1, none⟩) (Kd.R_far (p := ⟨aL, 0, none⟩) (Kd.R_types aS.o an.o (by decide)) (fun _ hk => hk.2) (.string bO)) (fun _ hk => hk.2) (.slice bh bN.length bg)) (fun _ hk => hk.2) (.slice bp bP.length bi)) (fun _ hk => hk.2) (.slice bu bQ.length bq)) (fun _ h_ => h_.1))) hb) (a2 (Kd.R_below (by exact (Kd.R_mono (Kd.R_far (p := ⟨aL, 3, none⟩) (Kd.R_far (p := ⟨aL, 2, none⟩) (Kd.R_far (p := ⟨aL, 1, none⟩) (Kd.R_far (p := ⟨aL, 0, none⟩) (Kd.R_types aZ.o an.o (by decide)) (fun _ hk => hk.2) (.string bO)) (fun _ hk => hk.2) (.slice bh bN.length bg)) (fun _ hk => hk.2) (.slice bp bP.length bi)) (fun _ hk => hk.2) (.slice bu bQ.length bq)) (fun _ h_ => h_.1))) hb) (a2 (Kd.R_below (by exact (Kd.R_mono (Kd.R_far (p := ⟨aL, 3, none⟩) (Kd.R_far (p := ⟨aL, 2, none⟩) (Kd.R_far (p := ⟨aL, 1, none⟩) (Kd.R_far (p := ⟨aL, 0, none⟩) (Kd.R_types az.o an.o (by decide)) (fun _ hk => hk.2) (.string bO)) (fun _ hk => hk.2) (.slice bh bN.length bg)) (fun _ hk => hk.2) (.slice bp bP.length bi)) (fun _ hk => hk.2) (.slice bu bQ.length bq)) (fun _ h_ => h_.1))) hb) (a2 (Kd.R_below (by exact (Kd.R_mono (Kd.R_far (p := ⟨aL, 3, none⟩) (Kd.R_far (p := ⟨aL, 2, none⟩) (Kd.R_far (p := ⟨aL, 1, none⟩) (Kd.R_far (p := ⟨aL, 0, none⟩) (Kd.R_types bK.o an.o (by decide)) (fun _ hk => hk.2) (.string bO)) (fun _ hk => hk.2) (.slice bh bN.length bg)) (fun _ hk => hk.2) (.slice bp bP.length bi)) (fun _ hk => hk.2) (.slice bu bQ.length bq)) (fun _ h_ => h_.1))) hb) (a2 (Kd.S_below (by exact (Kd.S_mono (Kd.S_far (p := ⟨aL, 3, none⟩) (Kd.S_far (p := ⟨aL, 2, none⟩) (Kd.S_far (p := ⟨aL, 1, none⟩) (Kd.S_far (p := ⟨aL, 0, none⟩) (Kd.S_types bL.o an.o (by decide)) (fun _ hk => hk.2) (.string bO)) (fun _ hk => hk.2) (.slice bh bN.length bg)) (fun _ hk => hk.2) (.slice bp bP.length bi)) (fun _ hk => hk.2) (.slice bu bQ.length bq)) (fun _ h_ => h_.1))) hb) (a2 (Kd.R_below (by exact (Kd.R_mono (Kd.R_far (p := ⟨aL, 3, none⟩) (Kd.R_far (p := ⟨aL, 2, none⟩) (Kd.R_far (p := ⟨aL, 1, none⟩) (Kd.R_far (p := ⟨aL, 0, none⟩) (Kd.R_types bM.o an.o (by decide)) (fun _ hk => hk.2) (.string bO)) (fun _ hk => hk.2) (.slice bh bN.length bg)) (fun _ hk => hk.2) (.slice bp bP.length bi)) (fun _ hk => hk.2) (.slice bu bQ.length bq)) (fun _ h_ => h_.1))) hb) (a2 (qAd (g := aE) (o := .cells #[.string a0_0, .slice a8 l0_1.length ab, .slice a9 l0_2.length ac, .slice aa l0_3.length ad] 39 (0, 0)) (by refine qAg ?_ b6.o _; refine qAg ?_ b6.o _; refine qAg ?_ b6.o _; refine qAg ?_ b6.o _; exact aC.o) hb) (a2 (qAd (g := aF) (o := .cells #[.string a1_0, .slice af l1_1.length ai, .slice ag l1_2.length aj, .slice ah l1_3.length ak] 39 (0, 0)) (by refine qAg ?_ b7.o _; refine qAg ?_ b7.o _; refine qAg ?_ b7.o _; refine qAg ?_ b7.o _; exact aD.o) hb) (a2 (qAd (g := aB) (o := .cells #[.string aY, .slice bE aV.length bA, .slice bI aW.length bD, .slice bJ aX.length bH] 27 (0, 0)) (by refine qAg ?_ bU.o _; refine qAg ?_ bU.o _; refine qAg ?_ bU.o _; refine qAg ?_ bU.o _; exact aG.o) hb) (a2 (qAd (g := aA) (o := .cells #[.string aq, .slice ax ae.length ay, .slice bB al.length bC, .slice bF ar.length bG] 27 (0, 0)) (by refine qAg ?_ bV.o _; refine qAg ?_ bV.o _; refine qAg ?_ bV.o _; refine qAg ?_ bV.o _; exact aH.o) hb) (a2 (qAd (g := aL) (o := .cells #[.string bO, .slice bh bN.length bg, .slice bp bP.length bi, .slice bu bQ.length bq] 27 (0, 0)) (by refine qAo (cs := #[.string bO, .slice bh bN.length bg, .slice bp bP.length bi, .slice none 0 0]) ?_ 3 _ rfl; refine qAo (cs := #[.string bO, .slice bh bN.length bg, .slice none 0 0, .slice none 0 0]) ?_ 2 _ rfl; refine qAo (cs := #[.string bO, .slice none 0 0, .slice none 0 0, .slice none 0 0]) ?_ 1 _ rfl; refine qAo (cs := #[.string ⟨#[]⟩, .slice none 0 0, .slice none 0 0, .slice none 0 0]) ?_ 0 _ rfl; exact an.o) hb) (am (qAj (by repeat (with_reducible first | exact HB.o | refine qAq ?_ cZ.o)) hb))))))))))))))))); clear aI aJ aK aQ aR aS aZ az bK bL bM aC aD aG aH an HB; obtain ⟨aI, aJ, aK, aQ, aR, aS, aZ, az, bK, bL, bM, aC, aD, aG, aH, an, HB⟩ := n_; obtain ⟨eC, eD, eE, eF⟩ := c4_ f3 an.o; have eU := qAr an.o 3) | (go_at_call 11; (with_reducible refine (qAn.calls k bO _ _ bN _ _ bP _ _ bQ bj _ ?side1 ?side2 ?side3 ?side4 ?side5 ?side6 ep.o).mono ?_); (case side1 => exact (Kd.R_reads' bK.o).2.2); (case side2 => exact (Kd.R_reads' bK.o).2.1); (case side3 => exact (Kd.S_reads' bL.o).2.2); (case side4 => exact (Kd.S_reads' bL.o).2.1); (case side5 => exact (Kd.R_reads' bM.o).2.2); (case side6 => exact (Kd.R_reads' bM.o).2.1); rintro e fb ⟨rfl, hb⟩; have n_ := a2 (Kd.R_below aI.o hb) (a2 (Kd.S_below aJ.o hb) (a2 (Kd.R_below aK.o hb) (a2 (Kd.R_below aQ.o hb) (a2 (Kd.S_below aR.o hb) (a2 (Kd.R_below aS.o hb) (a2 (Kd.R_below aZ.o hb) (a2 (Kd.R_below az.o hb) (a2 (Kd.R_below bK.o hb) (a2 (Kd.S_below bL.o hb) (a2 (Kd.R_below bM.o hb) (a2 (qAd (g := aE) (o := .cells #[.string a0_0, .slice a8 l0_1.length ab, .slice a9 l0_2.length ac, .slice aa l0_3.length ad] 39 (0, 0)) aC.o hb) (a2 (qAd (g := aF) (o := .cells #[.string a1_0, .slice af l1_1.length ai, .slice ag l1_2.length aj, .slice ah l1_3.length ak] 39 (0, 0)) aD.o hb) (a2 (qAd (g := aB) (o := .cells #[.string aY, .slice bE aV.length bA, .slice bI aW.length bD, .slice bJ aX.length bH] 27 (0, 0)) aG.o hb) (a2 (qAd (g := aA) (o := .cells #[.string aq, .slice ax ae.length ay, .slice bB al.length bC, .slice bF ar.length bG] 27 (0, 0)) aH.o hb) (a2 (qAd (g := aL) (o := .cells #[.string bO, .slice bh bN.length bg, .slice bp bP.length bi, .slice bu bQ.length bq] 27 (0, 0)) an.o hb) (am (qAj HB.o hb))))))))))))))))); clear aI aJ aK aQ aR aS aZ az bK bL bM aC aD aG aH an HB; obtain ⟨aI, aJ, aK, aQ, aR, aS, aZ, az, bK, bL, bM, aC, aD, aG, aH, an, HB⟩ := n_; (skip)) | (go_at_call 8; (with_reducible refine (qAt.calls k  true _ eq.o).mono ?_); rintro e f5 ⟨rfl, hb⟩; have n_ := a2 (Kd.R_below aI.o hb) (a2 (Kd.S_below aJ.o hb) (a2 (Kd.R_below aK.o hb) (a2 (Kd.R_below aQ.o hb) (a2 (Kd.S_below aR.o hb) (a2 (Kd.R_below aS.o hb) (a2 (Kd.R_below aZ.o hb) (a2 (Kd.R_below az.o hb) (a2 (Kd.R_below bK.o hb) (a2 (Kd.S_below bL.o hb) (a2 (Kd.R_below bM.o hb) (a2 (qAd (g := aE) (o := .cells #[.string a0_0, .slice a8 l0_1.length ab, .slice a9 l0_2.length ac, .slice aa l0_3.length ad] 39 (0, 0)) aC.o hb) (a2 (qAd (g := aF) (o := .cells #[.string a1_0, .slice af l1_1.length ai, .slice ag l1_2.length aj, .slice ah l1_3.length ak] 39 (0, 0)) aD.o hb) (a2 (qAd (g := aB) (o := .cells #[.string aY, .slice bE aV.length bA, .slice bI aW.length bD, .slice bJ aX.length bH] 27 (0, 0)) aG.o hb) (a2 (qAd (g := aA) (o := .cells #[.string aq, .slice ax ae.length ay, .slice bB al.length bC, .slice bF ar.length bG] 27 (0, 0)) aH.o hb) (a2 (qAd (g := aL) (o := .cells #[.string bO, .slice bh bN.length bg, .slice bp bP.length bi, .slice bu bQ.length bq] 27 (0, 0)) an.o hb) (am (qAj HB.o hb))))))))))))))))); clear aI aJ aK aQ aR aS aZ az bK bL bM aC aD aG aH an HB; obtain ⟨aI, aJ, aK, aQ, aR, aS, aZ, az, bK, bL, bM, aC, aD, aG, aH, an, HB⟩ := n_; (skip)))
       have n_ := a2 (Kd.R_drew aI.o) (a2 (Kd.S_drew aJ.o) (a2 (Kd.R_drew aK.o) (a2 (Kd.R_drew aQ.o) (a2 (Kd.S_drew aR.o) (a2 (Kd.R_drew aS.o) (a2 (Kd.R_drew aZ.o) (a2 (Kd.R_drew az.o) (a2 (Kd.R_drew bK.o) (a2 (Kd.S_drew bL.o) (a2 (Kd.R_drew bM.o) (a2 (qAU aC.o) (a2 (qAU aD.o) (a2 (qAU aG.o) (a2 (qAU aH.o) (a2 (qAU an.o) (am (qBi HB.o)))))))))))))))))
       clear aI aJ aK aQ aR aS aZ az bK bL bM aC aD aG aH an HB
       obtain ⟨aI, aJ, aK, aQ, aR, aS, aZ, az, bK, bL, bM, aC, aD, aG, aH, an, HB⟩ := n_
       refine qCY (n := 14) (S := fun w' => w'.cell? ⟨aB, 0, none⟩ = some (.string aY) ∧ w'.cell? ⟨aB, 1, none⟩ = some (.slice bE aV.length bA) ∧ w'.cell? ⟨aB, 2, none⟩ = some (.slice bI aW.length bD) ∧ w'.cell? ⟨aB, 3, none⟩ = some (.slice bJ aX.length bH) ∧ w'.cell? ⟨aA, 0, none⟩ = some (.string aq) ∧ w'.cell? ⟨aA, 1, none⟩ = some (.slice ax ae.length ay) ∧ w'.cell? ⟨aA, 2, none⟩ = some (.slice bB al.length bC) ∧ w'.cell? ⟨aA, 3, none⟩ = some (.slice bF ar.length bG) ∧ (convert 22 9 (.slice cq bd.length cv)).run Try.prog w' = .ok (.string (strOfNums bd)) w' ∧ (convert 22 9 cc).run Try.prog w' = .ok (.string (strOfNums cK)) w') (ds := []) (mK 14 0) (by kernel_rfl) rfl rfl ⟨(qAb aG.o 0).trans rfl, (qAb aG.o 1).trans rfl, (qAb aG.o 2).trans rfl, (qAb aG.o 3).trans rfl, (qAb aH.o 0).trans rfl, (qAb aH.o 1).trans rfl, (qAb aH.o 2).trans rfl, (qAb aH.o 3).trans rfl, by have hc_ := qC6 (P := Try.prog) Try.underlying22 Try.underlying5 Try.underlying9 (Kd.own_of_R aZ.o); exact hc_, by have hc_ := qC6 (P := Try.prog) Try.underlying22 Try.underlying5 Try.underlying9 (Kd.own_of_R az.o); exact hc_⟩ (fun hHeld => ?_); refine qB8 foundrylaw15_ObjectBack.tab9 foundrylaw15_ObjectBack.bits9 (fun HT_ HW_ => ?_)
       generalize f5.drew = fc at aI aJ aK aQ aR aS aZ az bK bL bM aC aD aG aH an HB hHeld ⊢
       refine pu 0 66 (mK 14 1) (qA8 HT_.o (by kernel_rfl)) ?_
       refine pu 1 67 (mK 14 3) (qA8 HT_.o (by kernel_rfl)) ?_
       refine pu 2 68 (mK 14 7) (qA8 HT_.o (by kernel_rfl)) ?_
       refine pu 6 72 (mK 14 71) (qA8 HT_.o (by kernel_rfl)) ?_
       refine tk 7 73 (mK 14 199) (qAQ HT_.o HW_.o (by kernel_rfl)) hHeld ?_
       refine pu 8 74 (mK 14 455) (qA8 HT_.o (by kernel_rfl)) ?_
       refine tk 9 75 (mK 14 967) (qAQ HT_.o HW_.o (by kernel_rfl)) hHeld ?_
       refine pu 10 76 (mK 14 1991) (qA8 HT_.o (by kernel_rfl)) ?_
       refine tk 3 69 (mK 14 1999) (qAQ HT_.o HW_.o (by kernel_rfl)) hHeld ?_
       refine tk 4 70 (mK 14 2015) (qAQ HT_.o HW_.o (by kernel_rfl)) hHeld ?_
       refine one_ (i := 5) (N := some 71) (mK 14 2047) rfl rfl (qBf HT_.o (by kernel_rfl)) (by decide) (fun K hK => ?_)
       refine qCy Try.func12 (by kernel_rfl) rfl #[.agg #[.string aY, .slice bE aV.length bA, .slice bI aW.length bD, .slice bJ aX.length bH], .agg #[.string aq, .slice ax ae.length ay, .slice bB al.length bC, .slice bF ar.length bG]] (by rfl) rfl rfl (by (try simp only [List.map_toArray, List.map_cons, List.map_nil]); (rfl)) ?_
       with_reducible refine (qAK.calls aY _ _ aV _ _ aW _ _ aX aq _ _ ae _ _ al _ _ ar bc _ ?side1 ?side2 ?side3 ?side4 ?side5 ?side6 ?side7 ?side8 ?side9 ?side10 ?side11 ?side12 fQ.o).mono ?_
       (case side1 => exact (Kd.R_reads' aI.o).2.2)
       (case side2 => exact (Kd.R_reads' aI.o).2.1)
       (case side3 => exact (Kd.S_reads' aJ.o).2.2)
       (case side4 => exact (Kd.S_reads' aJ.o).2.1)
       (case side5 => exact (Kd.R_reads' aK.o).2.2)
       (case side6 => exact (Kd.R_reads' aK.o).2.1)
       (case side7 => exact (Kd.R_reads' aQ.o).2.2)
       (case side8 => exact (Kd.R_reads' aQ.o).2.1)
       (case side9 => exact (Kd.S_reads' aR.o).2.2)
       (case side10 => exact (Kd.S_reads' aR.o).2.1)
       (case side11 => exact (Kd.R_reads' aS.o).2.2)
       (case side12 => exact (Kd.R_reads' aS.o).2.1)
       rintro e fd ⟨rfl, hb⟩
       refine ⟨_, rfl, ?_⟩
       have n_ := a2 (Kd.R_below aZ.o hb) (a2 (Kd.R_below az.o hb) (a2 (qAd (g := aB) (o := .cells #[.string aY, .slice bE aV.length bA, .slice bI aW.length bD, .slice bJ aX.length bH] 27 (0, 0)) aG.o hb) (a2 (qAd (g := aA) (o := .cells #[.string aq, .slice ax ae.length ay, .slice bB al.length bC, .slice bF ar.length bG] 27 (0, 0)) aH.o hb) (am (qAj HB.o hb)))))
       clear aI aJ aK aQ aR aS aZ az bK bL bM aC aD aG aH an HB
       obtain ⟨aZ, az, aG, aH, HB⟩ := n_
       (try clear hb)
       (skip)
       (skip)
       (skip)
       have hcv67 := qC6 (P := Try.prog) Try.underlying22 Try.underlying5 Try.underlying9 (Kd.own_of_R aZ.o)
       have hcv68 := qC6 (P := Try.prog) Try.underlying22 Try.underlying5 Try.underlying9 (Kd.own_of_R az.o)
       refine hK.o _ _ ⟨(qAb aG.o 0).trans rfl, (qAb aG.o 1).trans rfl, (qAb aG.o 2).trans rfl, (qAb aG.o 3).trans rfl, (qAb aH.o 0).trans rfl, (qAb aH.o 1).trans rfl, (qAb aH.o 2).trans rfl, (qAb aH.o 3).trans rfl, hcv67, hcv68⟩ (fun hHeld => ?_)
       clear hK K
       refine nm ?_
       refine pu 11 77 (mK 14 4095) (qA8 HT_.o (by kernel_rfl)) ?_
       refine pu 12 78 (mK 14 8191) (qA8 HT_.o (by kernel_rfl)) ?_
       refine pu 13 4 (mK 14 16383) (qA8 HT_.o (by kernel_rfl)) ?_
       refine qE1 (qCk HT_.o (by kernel_rfl)) ?_
       try go_wp2
       go_ret
       exact ⟨by rfl, by exact HB.o⟩
      ·rw [if_neg cr] at H
       have ct : (cI != 0) = true := bne_iff_ne.mpr cr
       obtain rfl := Option.some.inj H
       try go_wp2_with (first | ((with_reducible refine qAp (f := 9) rfl ?_); refine gL 19 Try.func9 #[.agg #[.string aY, .slice bE aV.length bA, .slice bI aW.length bD, .slice bJ aX.length bH]] ?_; (with_reducible refine (qA9.calls aY _ _ aV _ _ aW _ _ aX bd cG _ ?side1 ?side2 ?side3 ?side4 ?side5 ?side6 A5.o).mono ?_); (case side1 => refine (Kd.R_reads' (e := 71) (base := w.heap.size) (ok := fun k_ => some k_ ≠ (.slice ax ae.length ay : Value).ownBlock) (n := aV.length) (c := bA) ?_).2.2; exact (by exact (Kd.R_mono (Kd.R_mono (Kd.R_far (p := ⟨aA, 3, none⟩) (Kd.R_far (p := ⟨aA, 2, none⟩) (Kd.R_far (p := ⟨aA, 1, none⟩) (Kd.R_far (p := ⟨aA, 0, none⟩) (Kd.R_far (p := ⟨aB, 3, none⟩) (Kd.R_far (p := ⟨aB, 2, none⟩) (Kd.R_far (p := ⟨aB, 1, none⟩) (Kd.R_far (p := ⟨aB, 0, none⟩) (Kd.R_types (Kd.R_types aI.o aG.o (by decide)) aH.o (by decide)) (fun _ hk => hk.1.2) (.string aY)) (fun _ hk => hk.1.2) (.slice bE aV.length bA)) (fun _ hk => hk.1.2) (.slice bI aW.length bD)) (fun _ hk => hk.1.2) (.slice bJ aX.length bH)) (fun _ hk => hk.2) (.string aq)) (fun _ hk => hk.2) (.slice ax ae.length ay)) (fun _ hk => hk.2) (.slice bB al.length bC)) (fun _ hk => hk.2) (.slice bF ar.length bG)) (fun _ h_ => h_.1)) (fun _ h_ => h_.1)))); (case side2 => exact (Kd.R_reads' aI.o).2.1); (case side3 => refine (Kd.S_reads' (e := 80) (base := w.heap.size) (ok := fun k_ => some k_ ≠ (.slice bB al.length bC : Value).ownBlock) (n := aW.length) (c := bD) ?_).2.2; exact (by exact (Kd.S_mono (Kd.S_mono (Kd.S_far (p := ⟨aA, 3, none⟩) (Kd.S_far (p := ⟨aA, 2, none⟩) (Kd.S_far (p := ⟨aA, 1, none⟩) (Kd.S_far (p := ⟨aA, 0, none⟩) (Kd.S_far (p := ⟨aB, 3, none⟩) (Kd.S_far (p := ⟨aB, 2, none⟩) (Kd.S_far (p := ⟨aB, 1, none⟩) (Kd.S_far (p := ⟨aB, 0, none⟩) (Kd.S_types (Kd.S_types aJ.o aG.o (by decide)) aH.o (by decide)) (fun _ hk => hk.1.2) (.string aY)) (fun _ hk => hk.1.2) (.slice bE aV.length bA)) (fun _ hk => hk.1.2) (.slice bI aW.length bD)) (fun _ hk => hk.1.2) (.slice bJ aX.length bH)) (fun _ hk => hk.2) (.string aq)) (fun _ hk => hk.2) (.slice ax ae.length ay)) (fun _ hk => hk.2) (.slice bB al.length bC)) (fun _ hk => hk.2) (.slice bF ar.length bG)) (fun _ h_ => h_.1)) (fun _ h_ => h_.1)))); (case side4 => exact (Kd.S_reads' aJ.o).2.1); (case side5 => refine (Kd.R_reads' (e := 82) (base := w.heap.size) (ok := fun k_ => some k_ ≠ (.slice bF ar.length bG : Value).ownBlock) (n := aX.length) (c := bH) ?_).2.2; exact (by exact (Kd.R_mono (Kd.R_mono (Kd.R_far (p := ⟨aA, 3, none⟩) (Kd.R_far (p := ⟨aA, 2, none⟩) (Kd.R_far (p := ⟨aA, 1, none⟩) (Kd.R_far (p := ⟨aA, 0, none⟩) (Kd.R_far (p := ⟨aB, 3, none⟩) (Kd.R_far (p := ⟨aB, 2, none⟩) (Kd.R_far (p := ⟨aB, 1, none⟩) (Kd.R_far (p := ⟨aB, 0, none⟩) (Kd.R_types (Kd.R_types aK.o aG.o (by decide)) aH.o (by decide)) (fun _ hk => hk.1.2) (.string aY)) (fun _ hk => hk.1.2) (.slice bE aV.length bA)) (fun _ hk => hk.1.2) (.slice bI aW.length bD)) (fun _ hk => hk.1.2) (.slice bJ aX.length bH)) (fun _ hk => hk.2) (.string aq)) (fun _ hk => hk.2) (.slice ax ae.length ay)) (fun _ hk => hk.2) (.slice bB al.length bC)) (fun _ hk => hk.2) (.slice bF ar.length bG)) (fun _ h_ => h_.1)) (fun _ h_ => h_.1)))); (case side6 => exact (Kd.R_reads' aK.o).2.1); rintro e f6 ⟨ch, rfl, bb, hb⟩; refine ⟨_, rfl, ?_⟩; have n_ := a2 (Kd.R_below (by exact (Kd.R_mono (Kd.R_mono (Kd.R_far (p := ⟨aA, 3, none⟩) (Kd.R_far (p := ⟨aA, 2, none⟩) (Kd.R_far (p := ⟨aA, 1, none⟩) (Kd.R_far (p := ⟨aA, 0, none⟩) (Kd.R_far (p := ⟨aB, 3, none⟩) (Kd.R_far (p := ⟨aB, 2, none⟩) (Kd.R_far (p := ⟨aB, 1, none⟩) (Kd.R_far (p := ⟨aB, 0, none⟩) (Kd.R_types (Kd.R_types aI.o aG.o (by decide)) aH.o (by decide)) (fun _ hk => hk.1.2) (.string aY)) (fun _ hk => hk.1.2) (.slice bE aV.length bA)) (fun _ hk => hk.1.2) (.slice bI aW.length bD)) (fun _ hk => hk.1.2) (.slice bJ aX.length bH)) (fun _ hk => hk.2) (.string aq)) (fun _ hk => hk.2) (.slice ax ae.length ay)) (fun _ hk => hk.2) (.slice bB al.length bC)) (fun _ hk => hk.2) (.slice bF ar.length bG)) (fun _ h_ => h_.1)) (fun _ h_ => h_.1))) hb) (a2 (Kd.S_below (by exact (Kd.S_mono (Kd.S_mono (Kd.S_far (p := ⟨aA, 3, none⟩) (Kd.S_far (p := ⟨aA, 2, none⟩) (Kd.S_far (p := ⟨aA, 1, none⟩) (Kd.S_far (p := ⟨aA, 0, none⟩) (Kd.S_far (p := ⟨aB, 3, none⟩) (Kd.S_far (p := ⟨aB, 2, none⟩) (Kd.S_far (p := ⟨aB, 1, none⟩) (Kd.S_far (p := ⟨aB, 0, none⟩) (Kd.S_types (Kd.S_types aJ.o aG.o (by decide)) aH.o (by decide)) (fun _ hk => hk.1.2) (.string aY)) (fun _ hk => hk.1.2) (.slice bE aV.length bA)) (fun _ hk => hk.1.2) (.slice bI aW.length bD)) (fun _ hk => hk.1.2) (.slice bJ aX.length bH)) (fun _ hk => hk.2) (.string aq)) (fun _ hk => hk.2) (.slice ax ae.length ay)) (fun _ hk => hk.2) (.slice bB al.length bC)) (fun _ hk => hk.2) (.slice bF ar.length bG)) (fun _ h_ => h_.1)) (fun _ h_ => h_.1))) hb) (a2 (Kd.R_below (by exact (Kd.R_mono (Kd.R_mono (Kd.R_far (p := ⟨aA, 3, none⟩) (Kd.R_far (p := ⟨aA, 2, none⟩) (Kd.R_far (p := ⟨aA, 1, none⟩) (Kd.R_far (p := ⟨aA, 0, none⟩) (Kd.R_far (p := ⟨aB, 3, none⟩) (Kd.R_far (p := ⟨aB, 2, none⟩) (Kd.R_far (p := ⟨aB, 1, none⟩) (Kd.R_far (p := ⟨aB, 0, none⟩) (Kd.R_types (Kd.R_types aK.o aG.o (by decide)) aH.o (by decide)) (fun _ hk => hk.1.2) (.string aY)) (fun _ hk => hk.1.2) (.slice bE aV.length bA)) (fun _ hk => hk.1.2) (.slice bI aW.length bD)) (fun _ hk => hk.1.2) (.slice bJ aX.length bH)) (fun _ hk => hk.2) (.string aq)) (fun _ hk => hk.2) (.slice ax ae.length ay)) (fun _ hk => hk.2) (.slice bB al.length bC)) (fun _ hk => hk.2) (.slice bF ar.length bG)) (fun _ h_ => h_.1)) (fun _ h_ => h_.1))) hb) (a2 (Kd.R_below (by exact (Kd.R_mono (Kd.R_mono (Kd.R_far (p := ⟨aA, 3, none⟩) (Kd.R_far (p := ⟨aA, 2, none⟩) (Kd.R_far (p := ⟨aA, 1, none⟩) (Kd.R_far (p := ⟨aA, 0, none⟩) (Kd.R_far (p := ⟨aB, 3, none⟩) (Kd.R_far (p := ⟨aB, 2, none⟩) (Kd.R_far (p := ⟨aB, 1, none⟩) (Kd.R_far (p := ⟨aB, 0, none⟩) (Kd.R_types (Kd.R_types aQ.o aG.o (by decide)) aH.o (by decide)) (fun _ hk => hk.1.2) (.string aY)) (fun _ hk => hk.1.2) (.slice bE aV.length bA)) (fun _ hk => hk.1.2) (.slice bI aW.length bD)) (fun _ hk => hk.1.2) (.slice bJ aX.length bH)) (fun _ hk => hk.2) (.string aq)) (fun _ hk => hk.2) (.slice ax ae.length ay)) (fun _ hk => hk.2) (.slice bB al.length bC)) (fun _ hk => hk.2) (.slice bF ar.length bG)) (fun _ h_ => h_.1)) (fun _ h_ => h_.1))) hb) (a2 (Kd.S_below (by exact (Kd.S_mono (Kd.S_mono (Kd.S_far (p := ⟨aA, 3, none⟩) (Kd.S_far (p := ⟨aA, 2, none⟩) (Kd.S_far (p := ⟨aA, 1, none⟩) (Kd.S_far (p := ⟨aA, 0, none⟩) (Kd.S_far (p := ⟨aB, 3, none⟩) (Kd.S_far (p := ⟨aB, 2, none⟩) (Kd.S_far (p := ⟨aB, 1, none⟩) (Kd.S_far (p := ⟨aB, 0, none⟩) (Kd.S_types (Kd.S_types aR.o aG.o (by decide)) aH.o (by decide)) (fun _ hk => hk.1.2) (.string aY)) (fun _ hk => hk.1.2) (.slice bE aV.length bA)) (fun _ hk => hk.1.2) (.slice bI aW.length bD)) (fun _ hk => hk.1.2) (.slice bJ aX.length bH)) (fun _ hk => hk.2) (.string aq)) (fun _ hk => hk.2) (.slice ax ae.length ay)) (fun _ hk => hk.2) (.slice bB al.length bC)) (fun _ hk => hk.2) (.slice bF ar.length bG)) (fun _ h_ => h_.1)) (fun _ h_ => h_.1))) hb) (a2 (Kd.R_below (by exact (Kd.R_mono (Kd.R_mono (Kd.R_far (p := ⟨aA, 3, none⟩) (Kd.R_far (p := ⟨aA, 2, none⟩) (Kd.R_far (p := ⟨aA, 1, none⟩) (Kd.R_far (p := ⟨aA, 0, none⟩) (Kd.R_far (p := ⟨aB, 3, none⟩) (Kd.R_far (p := ⟨aB, 2, none⟩) (Kd.R_far (p := ⟨aB, 1, none⟩) (Kd.R_far (p := ⟨aB, 0, none⟩) (Kd.R_types (Kd.R_types aS.o aG.o (by decide)) aH.o (by decide)) (fun _ hk => hk.1.2) (.string aY)) (fun _ hk => hk.1.2) (.slice bE aV.length bA)) (fun _ hk => hk.1.2) (.slice bI aW.length bD)) (fun _ hk => hk.1.2) (.slice bJ aX.length bH)) (fun _ hk => hk.2) (.string aq)) (fun _ hk => hk.2) (.slice ax ae.length ay)) (fun _ hk => hk.2) (.slice bB al.length bC)) (fun _ hk => hk.2) (.slice bF ar.length bG)) (fun _ h_ => h_.1)) (fun _ h_ => h_.1))) hb) (a2 (Kd.R_lower bb (qAe (by repeat (with_reducible first | exact HB.o | refine qAq ?_ bS.o | refine qAq ?_ bT.o)))) (a2 (qAd (g := aE) (o := .cells #[.string a0_0, .slice a8 l0_1.length ab, .slice a9 l0_2.length ac, .slice aa l0_3.length ad] 39 (0, 0)) (by refine qAg ?_ aO.o _; refine qAg ?_ aO.o _; refine qAg ?_ aO.o _; refine qAg ?_ aO.o _; refine qAg ?_ aM.o _; refine qAg ?_ aM.o _; refine qAg ?_ aM.o _; refine qAg ?_ aM.o _; exact aC.o) hb) (a2 (qAd (g := aF) (o := .cells #[.string a1_0, .slice af l1_1.length ai, .slice ag l1_2.length aj, .slice ah l1_3.length ak] 39 (0, 0)) (by refine qAg ?_ aP.o _; refine qAg ?_ aP.o _; refine qAg ?_ aP.o _; refine qAg ?_ aP.o _; refine qAg ?_ aN.o _; refine qAg ?_ aN.o _; refine qAg ?_ aN.o _; refine qAg ?_ aN.o _; exact aD.o) hb) (a2 (qAd (g := aB) (o := .cells #[.string aY, .slice bE aV.length bA, .slice bI aW.length bD, .slice bJ aX.length bH] 27 (0, 0)) (by refine qAg ?_ aT.o _; refine qAg ?_ aT.o _; refine qAg ?_ aT.o _; refine qAg ?_ aT.o _; refine qAo (cs := #[.string aY, .slice bE aV.length bA, .slice bI aW.length bD, .slice none 0 0]) ?_ 3 _ rfl; refine qAo (cs := #[.string aY, .slice bE aV.length bA, .slice none 0 0, .slice none 0 0]) ?_ 2 _ rfl; refine qAo (cs := #[.string aY, .slice none 0 0, .slice none 0 0, .slice none 0 0]) ?_ 1 _ rfl; refine qAo (cs := #[.string ⟨#[]⟩, .slice none 0 0, .slice none 0 0, .slice none 0 0]) ?_ 0 _ rfl; exact aG.o) hb) (a2 (qAd (g := aA) (o := .cells #[.string aq, .slice ax ae.length ay, .slice bB al.length bC, .slice bF ar.length bG] 27 (0, 0)) (by refine qAo (cs := #[.string aq, .slice ax ae.length ay, .slice bB al.length bC, .slice none 0 0]) ?_ 3 _ rfl; refine qAo (cs := #[.string aq, .slice ax ae.length ay, .slice none 0 0, .slice none 0 0]) ?_ 2 _ rfl; refine qAo (cs := #[.string aq, .slice none 0 0, .slice none 0 0, .slice none 0 0]) ?_ 1 _ rfl; refine qAo (cs := #[.string ⟨#[]⟩, .slice none 0 0, .slice none 0 0, .slice none 0 0]) ?_ 0 _ rfl; refine qAg ?_ aU.o _; refine qAg ?_ aU.o _; refine qAg ?_ aU.o _; refine qAg ?_ aU.o _; exact aH.o) hb) (am (qAj (by repeat (with_reducible first | exact HB.o | refine qAq ?_ bS.o | refine qAq ?_ bT.o)) hb)))))))))))); clear aI aJ aK aQ aR aS aC aD aG aH HB; obtain ⟨aI, aJ, aK, aQ, aR, aS, aZ, aC, aD, aG, aH, HB⟩ := n_; obtain ⟨eG, eH, eI, eJ⟩ := c4_ f6 aH.o; have eV := qAr aH.o 3) | ((with_reducible refine qAp (f := 9) rfl ?_); refine gL 24 Try.func9 #[.agg #[.string aq, .slice ax ae.length ay, .slice bB al.length bC, .slice bF ar.length bG]] ?_; (with_reducible refine (qA9.calls aq _ _ ae _ _ al _ _ ar cK cI _ ?side1 ?side2 ?side3 ?side4 ?side5 ?side6 A6.o).mono ?_); (case side1 => exact (Kd.R_reads' aQ.o).2.2); (case side2 => exact (Kd.R_reads' aQ.o).2.1); (case side3 => exact (Kd.S_reads' aR.o).2.2); (case side4 => exact (Kd.S_reads' aR.o).2.1); (case side5 => exact (Kd.R_reads' aS.o).2.2); (case side6 => exact (Kd.R_reads' aS.o).2.1); rintro e fT ⟨cc, rfl, bb, hb⟩; refine ⟨_, rfl, ?_⟩; have n_ := a2 (Kd.R_below aI.o hb) (a2 (Kd.S_below aJ.o hb) (a2 (Kd.R_below aK.o hb) (a2 (Kd.R_below aQ.o hb) (a2 (Kd.S_below aR.o hb) (a2 (Kd.R_below aS.o hb) (a2 (Kd.R_elder' aZ.o (Kd.R_base bb) hb) (a2 (Kd.R_lower (Kd.R_new' bb (Kd.R_lt aZ.o)) (qAe HB.o)) (a2 (qAd (g := aE) (o := .cells #[.string a0_0, .slice a8 l0_1.length ab, .slice a9 l0_2.length ac, .slice aa l0_3.length ad] 39 (0, 0)) aC.o hb) (a2 (qAd (g := aF) (o := .cells #[.string a1_0, .slice af l1_1.length ai, .slice ag l1_2.length aj, .slice ah l1_3.length ak] 39 (0, 0)) aD.o hb) (a2 (qAd (g := aB) (o := .cells #[.string aY, .slice bE aV.length bA, .slice bI aW.length bD, .slice bJ aX.length bH] 27 (0, 0)) aG.o hb) (a2 (qAd (g := aA) (o := .cells #[.string aq, .slice ax ae.length ay, .slice bB al.length bC, .slice bF ar.length bG] 27 (0, 0)) aH.o hb) (am (qAj HB.o hb))))))))))))); clear aI aJ aK aQ aR aS aZ aC aD aG aH HB; obtain ⟨aI, aJ, aK, aQ, aR, aS, aZ, az, aC, aD, aG, aH, HB⟩ := n_; obtain ⟨cp, cu, cw⟩ := Kd.R_slice aZ.o; subst cw) | ((with_reducible refine qAp (f := 7) rfl ?_); refine gL 46 Try.func7 #[.slice cp bd.length cu] ?_; (with_reducible refine (qAc.calls k _ _ bd bO bN bP bQ c0 _ ?side1 ?side2 A8.o).mono ?_); (case side1 => exact (Kd.R_reads' aZ.o).2.2); (case side2 => exact (Kd.R_reads' aZ.o).2.1); rintro e fU ⟨ef, eg, eh, rfl, bb, cA, cB, hb⟩; refine ⟨_, rfl, ?_⟩; have n_ := a2 (Kd.R_elder' aI.o (Kd.R_base bb) hb) (a2 (Kd.S_elder' aJ.o (Kd.S_base cA) hb) (a2 (Kd.R_elder' aK.o (Kd.R_base cB) hb) (a2 (Kd.R_elder' aQ.o (Kd.R_base bb) hb) (a2 (Kd.S_elder' aR.o (Kd.S_base cA) hb) (a2 (Kd.R_elder' aS.o (Kd.R_base cB) hb) (a2 (Kd.R_below aZ.o hb) (a2 (Kd.R_below az.o hb) (a2 (Kd.R_lower (Kd.R_new' (Kd.R_new' bb (Kd.R_lt aI.o)) (Kd.R_lt aQ.o)) (qAe HB.o)) (a2 (Kd.S_lower (Kd.S_new' (Kd.S_new' cA (Kd.S_lt aJ.o)) (Kd.S_lt aR.o)) (qAe HB.o)) (a2 (Kd.R_lower (Kd.R_new' (Kd.R_new' cB (Kd.R_lt aK.o)) (Kd.R_lt aS.o)) (qAe HB.o)) (a2 (qAd (g := aE) (o := .cells #[.string a0_0, .slice a8 l0_1.length ab, .slice a9 l0_2.length ac, .slice aa l0_3.length ad] 39 (0, 0)) aC.o hb) (a2 (qAd (g := aF) (o := .cells #[.string a1_0, .slice af l1_1.length ai, .slice ag l1_2.length aj, .slice ah l1_3.length ak] 39 (0, 0)) aD.o hb) (a2 (qAd (g := aB) (o := .cells #[.string aY, .slice bE aV.length bA, .slice bI aW.length bD, .slice bJ aX.length bH] 27 (0, 0)) aG.o hb) (a2 (qAd (g := aA) (o := .cells #[.string aq, .slice ax ae.length ay, .slice bB al.length bC, .slice bF ar.length bG] 27 (0, 0)) aH.o hb) (am (qAj HB.o hb)))))))))))))))); clear aI aJ aK aQ aR aS aZ az aC aD aG aH HB; obtain ⟨aI, aJ, aK, aQ, aR, aS, aZ, az, bK, bL, bM, aC, aD, aG, aH, HB⟩ := n_) | ((with_reducible refine qAJ (N := 11) rfl ?_); refine bx 11 #[.string ⟨#[]⟩, .slice none 0 0, .slice none 0 0, .slice none 0 0] 27 ?_; intro aL hg dg hbox hb; have n_ := a2 (Kd.R_below aI.o hb) (a2 (Kd.S_below aJ.o hb) (a2 (Kd.R_below aK.o hb) (a2 (Kd.R_below aQ.o hb) (a2 (Kd.S_below aR.o hb) (a2 (Kd.R_below aS.o hb) (a2 (Kd.R_below aZ.o hb) (a2 (Kd.R_below az.o hb) (a2 (Kd.R_below bK.o hb) (a2 (Kd.S_below bL.o hb) (a2 (Kd.R_below bM.o hb) (a2 (qAd (g := aE) (o := .cells #[.string a0_0, .slice a8 l0_1.length ab, .slice a9 l0_2.length ac, .slice aa l0_3.length ad] 39 (0, 0)) aC.o hb) (a2 (qAd (g := aF) (o := .cells #[.string a1_0, .slice af l1_1.length ai, .slice ag l1_2.length aj, .slice ah l1_3.length ak] 39 (0, 0)) aD.o hb) (a2 (qAd (g := aB) (o := .cells #[.string aY, .slice bE aV.length bA, .slice bI aW.length bD, .slice bJ aX.length bH] 27 (0, 0)) aG.o hb) (a2 (qAd (g := aA) (o := .cells #[.string aq, .slice ax ae.length ay, .slice bB al.length bC, .slice bF ar.length bG] 27 (0, 0)) aH.o hb) (a2 (qAj HB.o hb) (a2 (hbox) (a2 (by rw [hg]; exact (qAe HB.o) : w.heap.size ≤ aL) (a2 (by rw [hg]; exact Nat.ne_of_lt (qAw (g := aE) (o := .cells #[.string a0_0, .slice a8 l0_1.length ab, .slice a9 l0_2.length ac, .slice aa l0_3.length ad] 39 (0, 0)) aC.o) : aE ≠ aL) (a2 (by rw [hg]; exact Nat.ne_of_lt (qAw (g := aF) (o := .cells #[.string a1_0, .slice af l1_1.length ai, .slice ag l1_2.length aj, .slice ah l1_3.length ak] 39 (0, 0)) aD.o) : aF ≠ aL) (a2 (by rw [hg]; exact Nat.ne_of_lt (qAw (g := aB) (o := .cells #[.string aY, .slice bE aV.length bA, .slice bI aW.length bD, .slice bJ aX.length bH] 27 (0, 0)) aG.o) : aB ≠ aL) (a2 (by rw [hg]; exact Nat.ne_of_lt (qAw (g := aA) (o := .cells #[.string aq, .slice ax ae.length ay, .slice bB al.length bC, .slice bF ar.length bG] 27 (0, 0)) aH.o) : aA ≠ aL) (am (by rw [hg]; exact Nat.ne_of_gt (qAw (g := aA) (o := .cells #[.string aq, .slice ax ae.length ay, .slice bB al.length bC, .slice bF ar.length bG] 27 (0, 0)) aH.o) : aL ≠ aA))))))))))))))))))))))); clear aI aJ aK aQ aR aS aZ az bK bL bM aC aD aG aH HB; obtain ⟨aI, aJ, aK, aQ, aR, aS, aZ, az, bK, bL, bM, aC, aD, aG, aH, HB, an, cZ, b6, b7, bU, bV, cJ⟩ := n_; clear hb hbox hg; have ed := bU.o; have ec := cJ.o; have ee := bV.o; obtain ⟨dC, dD, dE, dF⟩ := c4_ dg an.o; obtain ⟨d6, d7, d8, d9⟩ := z4_ an.o; obtain ⟨b3, b2, cx⟩ := Kd.R_slice bK.o; subst cx; obtain ⟨b8, b5, cy⟩ := Kd.S_slice bL.o; subst cy; obtain ⟨ba, b9, cz⟩ := Kd.R_slice bM.o; subst cz; obtain ⟨dG, dH, dI, dJ⟩ := c4_ dg aG.o; have da := qAr aG.o 3) | (go_at_call 12; (with_reducible refine (qAK.calls bO _ _ bN _ _ bP _ _ bQ aY _ _ aV _ _ aW _ _ aX true _ ?side1 ?side2 ?side3 ?side4 ?side5 ?side6 ?side7 ?side8 ?side9 ?side10 ?side11 ?side12 eo.o).mono ?_); (case side1 => refine (Kd.R_reads' (e := 71) (base := w.heap.size) (ok := fun k_ => ((True ∧ some k_ ≠ (.slice bE aV.length bA : Value).ownBlock) ∧ some k_ ≠ (.slice ax ae.length ay : Value).ownBlock)) (n := bN.length) (c := b2) ?_).2.2; exact (by exact (Kd.R_mono (Kd.R_far (p := ⟨aL, 3, none⟩) (Kd.R_far (p := ⟨aL, 2, none⟩) (Kd.R_far (p := ⟨aL, 1, none⟩) (Kd.R_far (p := ⟨aL, 0, none⟩) (Kd.R_types bK.o an.o (by decide)) (fun _ hk => hk.2) (.string bO)) (fun _ hk => hk.2) (.slice b3 bN.length b2)) (fun _ hk => hk.2) (.slice b8 bP.length b5)) (fun _ hk => hk.2) (.slice ba bQ.length b9)) (fun _ h_ => h_.1)))); (case side2 => exact (Kd.R_reads' bK.o).2.1); (case side3 => refine (Kd.S_reads' (e := 80) (base := w.heap.size) (ok := fun k_ => ((True ∧ some k_ ≠ (.slice bI aW.length bD : Value).ownBlock) ∧ some k_ ≠ (.slice bB al.length bC : Value).ownBlock)) (n := bP.length) (c := b5) ?_).2.2; exact (by exact (Kd.S_mono (Kd.S_far (p := ⟨aL, 3, none⟩) (Kd.S_far (p := ⟨aL, 2, none⟩) (Kd.S_far (p := ⟨aL, 1, none⟩) (Kd.S_far (p := ⟨aL, 0, none⟩) (Kd.S_types bL.o an.o (by decide)) (fun _ hk => hk.2) (.string bO)) (fun _ hk => hk.2) (.slice b3 bN.length b2)) (fun _ hk => hk.2) (.slice b8 bP.length b5)) (fun _ hk => hk.2) (.slice ba bQ.length b9)) (fun _ h_ => h_.1)))); (case side4 => exact (Kd.S_reads' bL.o).2.1); (case side5 => refine (Kd.R_reads' (e := 82) (base := w.heap.size) (ok := fun k_ => ((True ∧ some k_ ≠ (.slice bJ aX.length bH : Value).ownBlock) ∧ some k_ ≠ (.slice bF ar.length bG : Value).ownBlock)) (n := bQ.length) (c := b9) ?_).2.2; exact (by exact (Kd.R_mono (Kd.R_far (p := ⟨aL, 3, none⟩) (Kd.R_far (p := ⟨aL, 2, none⟩) (Kd.R_far (p := ⟨aL, 1, none⟩) (Kd.R_far (p := ⟨aL, 0, none⟩) (Kd.R_types bM.o an.o (by decide)) (fun _ hk => hk.2) (.string bO)) (fun _ hk => hk.2) (.slice b3 bN.length b2)) (fun _ hk => hk.2) (.slice b8 bP.length b5)) (fun _ hk => hk.2) (.slice ba bQ.length b9)) (fun _ h_ => h_.1)))); (case side6 => exact (Kd.R_reads' bM.o).2.1); (case side7 => refine (Kd.R_reads' (e := 71) (base := w.heap.size) (ok := fun k_ => (some k_ ≠ (.slice ax ae.length ay : Value).ownBlock ∧ some k_ ≠ (.slice b3 bN.length b2 : Value).ownBlock)) (n := aV.length) (c := bA) ?_).2.2; exact (by exact (Kd.R_mono (Kd.R_far (p := ⟨aL, 3, none⟩) (Kd.R_far (p := ⟨aL, 2, none⟩) (Kd.R_far (p := ⟨aL, 1, none⟩) (Kd.R_far (p := ⟨aL, 0, none⟩) (Kd.R_types aI.o an.o (by decide)) (fun _ hk => hk.2) (.string bO)) (fun _ hk => hk.2) (.slice b3 bN.length b2)) (fun _ hk => hk.2) (.slice b8 bP.length b5)) (fun _ hk => hk.2) (.slice ba bQ.length b9)) (fun _ h_ => h_.1)))); (case side8 => exact (Kd.R_reads' aI.o).2.1); (case side9 => refine (Kd.S_reads' (e := 80) (base := w.heap.size) (ok := fun k_ => (some k_ ≠ (.slice bB al.length bC : Value).ownBlock ∧ some k_ ≠ (.slice b8 bP.length b5 : Value).ownBlock)) (n := aW.length) (c := bD) ?_).2.2; exact (by exact (Kd.S_mono (Kd.S_far (p := ⟨aL, 3, none⟩) (Kd.S_far (p := ⟨aL, 2, none⟩) (Kd.S_far (p := ⟨aL, 1, none⟩) (Kd.S_far (p := ⟨aL, 0, none⟩) (Kd.S_types aJ.o an.o (by decide)) (fun _ hk => hk.2) (.string bO)) (fun _ hk => hk.2) (.slice b3 bN.length b2)) (fun _ hk => hk.2) (.slice b8 bP.length b5)) (fun _ hk => hk.2) (.slice ba bQ.length b9)) (fun _ h_ => h_.1)))); (case side10 => exact (Kd.S_reads' aJ.o).2.1); (case side11 => refine (Kd.R_reads' (e := 82) (base := w.heap.size) (ok := fun k_ => (some k_ ≠ (.slice bF ar.length bG : Value).ownBlock ∧ some k_ ≠ (.slice ba bQ.length b9 : Value).ownBlock)) (n := aX.length) (c := bH) ?_).2.2; exact (by exact (Kd.R_mono (Kd.R_far (p := ⟨aL, 3, none⟩) (Kd.R_far (p := ⟨aL, 2, none⟩) (Kd.R_far (p := ⟨aL, 1, none⟩) (Kd.R_far (p := ⟨aL, 0, none⟩) (Kd.R_types aK.o an.o (by decide)) (fun _ hk => hk.2) (.string bO)) (fun _ hk => hk.2) (.slice b3 bN.length b2)) (fun _ hk => hk.2) (.slice b8 bP.length b5)) (fun _ hk => hk.2) (.slice ba bQ.length b9)) (fun _ h_ => h_.1)))); (case side12 => exact (Kd.R_reads' aK.o).2.1); rintro e ei ⟨rfl, hb⟩; have n_ := a2 (Kd.R_below (by exact (Kd.R_mono (Kd.R_far (p := ⟨aL, 3, none⟩) (Kd.R_far (p := ⟨aL, 2, none⟩) (Kd.R_far (p := ⟨aL, 1, none⟩) (Kd.R_far (p := ⟨aL, 0, none⟩) (Kd.R_types aI.o an.o (by decide)) (fun _ hk => hk.2) (.string bO)) (fun _ hk => hk.2) (.slice b3 bN.length b2)) (fun _ hk => hk.2) (.slice b8 bP.length b5)) (fun _ hk => hk.2) (.slice ba bQ.length b9)) (fun _ h_ => h_.1))) hb) (a2 (Kd.S_below (by exact (Kd.S_mono (Kd.S_far (p := ⟨aL, 3, none⟩) (Kd.S_far (p := ⟨aL, 2, none⟩) (Kd.S_far (p := ⟨aL, 1, none⟩) (Kd.S_far (p := ⟨aL, 0, none⟩) (Kd.S_types aJ.o an.o (by decide)) (fun _ hk => hk.2) (.string bO)) (fun _ hk => hk.2) (.slice b3 bN.length b2)) (fun _ hk => hk.2) (.slice b8 bP.length b5)) (fun _ hk => hk.2) (.slice ba bQ.length b9)) (fun _ h_ => h_.1))) hb) (a2 (Kd.R_below (by exact (Kd.R_mono (Kd.R_far (p := ⟨aL, 3, none⟩) (Kd.R_far (p := ⟨aL, 2, none⟩) (Kd.R_far (p := ⟨aL, 1, none⟩) (Kd.R_far (p := ⟨aL, 0, none⟩) (Kd.R_types aK.o an.o (by decide)) (fun _ hk => hk.2) (.string bO)) (fun _ hk => hk.2) (.slice b3 bN.length b2)) (fun _ hk => hk.2) (.slice b8 bP.length b5)) (fun _ hk => hk.2) (.slice ba bQ.length b9)) (fun _ h_ => h_.1))) hb) (a2 (Kd.R_below (by exact (Kd.R_mono (Kd.R_far (p := ⟨aL, 3, none⟩) (Kd.R_far (p := ⟨aL, 2, none⟩) (Kd.R_far (p := ⟨aL, 1, none⟩) (Kd.R_far (p := ⟨aL, 0, none⟩) (Kd.R_types aQ.o an.o (by decide)) (fun _ hk => hk.2) (.string bO)) (fun _ hk => hk.2) (.slice b3 bN.length b2)) (fun _ hk => hk.2) (.slice b8 bP.length b5)) (fun _ hk => hk.2) (.slice ba bQ.length b9)) (fun _ h_ => h_.1))) hb) (a2 (Kd.S_below (by exact (Kd.S_mono (Kd.S_far (p := ⟨aL, 3, none⟩) (Kd.S_far (p := ⟨aL, 2, none⟩) (Kd.S_far (p := ⟨aL, 1, none⟩) (Kd.S_far (p := ⟨aL, 0, none⟩) (Kd.S_types aR.o an.o (by decide)) (fun _ hk => hk.2) (.string bO)) (fun _ hk => hk.2) (.slice b3 bN.length b2)) (fun _ hk => hk.2) (.slice b8 bP.length b5)) (fun _ hk => hk.2) (.slice ba bQ.length b9)) (fun _ h_ => h_.1))) hb) (a2 (Kd.R_below (by exact (Kd.R_mono (Kd.R_far (p := ⟨aL, 3, none⟩) (Kd.R_far (p := ⟨aL, 2, none⟩) (Kd.R_far (p := ⟨aL, 1, none⟩) (Kd.R_far (p := ⟨aL, 0, none⟩) (Kd.R_types aS.o an.o (by decide)) (fun _ hk => hk.2) (.string bO)) (fun _ hk => hk.2) (.slice b3 bN.length b2)) (fun _ hk => hk.2) (.slice b8 bP.length b5)) (fun _ hk => hk.2) (.slice ba bQ.length b9)) (fun _ h_ => h_.1))) hb) (a2 (Kd.R_below (by exact (Kd.R_mono (Kd.R_far (p := ⟨aL, 3, none⟩) (Kd.R_far (p := ⟨aL, 2, none⟩) (Kd.R_far (p := ⟨aL, 1, none⟩) (Kd.R_far (p := ⟨aL, 0, none⟩) (Kd.R_types aZ.o an.o (by decide)) (fun _ hk => hk.2) (.string bO)) (fun _ hk => hk.2) (.slice b3 bN.length b2)) (fun _ hk => hk.2) (.slice b8 bP.length b5)) (fun _ hk => hk.2) (.slice ba bQ.length b9)) (fun _ h_ => h_.1))) hb) (a2 (Kd.R_below (by exact (Kd.R_mono (Kd.R_far (p := ⟨aL, 3, none⟩) (Kd.R_far (p := ⟨aL, 2, none⟩) (Kd.R_far (p := ⟨aL, 1, none⟩) (Kd.R_far (p := ⟨aL, 0, none⟩) (Kd.R_types az.o an.o (by decide)) (fun _ hk => hk.2) (.string bO)) (fun _ hk => hk.2) (.slice b3 bN.length b2)) (fun _ hk => hk.2) (.slice b8 bP.length b5)) (fun _ hk => hk.2) (.slice ba bQ.length b9)) (fun _ h_ => h_.1))) hb) (a2 (Kd.R_below (by exact (Kd.R_mono (Kd.R_far (p := ⟨aL, 3, none⟩) (Kd.R_far (p := ⟨aL, 2, none⟩) (Kd.R_far (p := ⟨aL, 1, none⟩) (Kd.R_far (p := ⟨aL, 0, none⟩) (Kd.R_types bK.o an.o (by decide)) (fun _ hk => hk.2) (.string bO)) (fun _ hk => hk.2) (.slice b3 bN.length b2)) (fun _ hk => hk.2) (.slice b8 bP.length b5)) (fun _ hk => hk.2) (.slice ba bQ.length b9)) (fun _ h_ => h_.1))) hb) (a2 (Kd.S_below (by exact (Kd.S_mono (Kd.S_far (p := ⟨aL, 3, none⟩) (Kd.S_far (p := ⟨aL, 2, none⟩) (Kd.S_far (p := ⟨aL, 1, none⟩) (Kd.S_far (p := ⟨aL, 0, none⟩) (Kd.S_types bL.o an.o (by decide)) (fun _ hk => hk.2) (.string bO)) (fun _ hk => hk.2) (.slice b3 bN.length b2)) (fun _ hk => hk.2) (.slice b8 bP.length b5)) (fun _ hk => hk.2) (.slice ba bQ.length b9)) (fun _ h_ => h_.1))) hb) (a2 (Kd.R_below (by exact (Kd.R_mono (Kd.R_far (p := ⟨aL, 3, none⟩) (Kd.R_far (p := ⟨aL, 2, none⟩) (Kd.R_far (p := ⟨aL, 1, none⟩) (Kd.R_far (p := ⟨aL, 0, none⟩) (Kd.R_types bM.o an.o (by decide)) (fun _ hk => hk.2) (.string bO)) (fun _ hk => hk.2) (.slice b3 bN.length b2)) (fun _ hk => hk.2) (.slice b8 bP.length b5)) (fun _ hk => hk.2) (.slice ba bQ.length b9)) (fun _ h_ => h_.1))) hb) (a2 (qAd (g := aE) (o := .cells #[.string a0_0, .slice a8 l0_1.length ab, .slice a9 l0_2.length ac, .slice aa l0_3.length ad] 39 (0, 0)) (by refine qAg ?_ b6.o _; refine qAg ?_ b6.o _; refine qAg ?_ b6.o _; refine qAg ?_ b6.o _; exact aC.o) hb) (a2 (qAd (g := aF) (o := .cells #[.string a1_0, .slice af l1_1.length ai, .slice ag l1_2.length aj, .slice ah l1_3.length ak] 39 (0, 0)) (by refine qAg ?_ b7.o _; refine qAg ?_ b7.o _; refine qAg ?_ b7.o _; refine qAg ?_ b7.o _; exact aD.o) hb) (a2 (qAd (g := aB) (o := .cells #[.string aY, .slice bE aV.length bA, .slice bI aW.length bD, .slice bJ aX.length bH] 27 (0, 0)) (by refine qAg ?_ bU.o _; refine qAg ?_ bU.o _; refine qAg ?_ bU.o _; refine qAg ?_ bU.o _; exact aG.o) hb) (a2 (qAd (g := aA) (o := .cells #[.string aq, .slice ax ae.length ay, .slice bB al.length bC, .slice bF ar.length bG] 27 (0, 0)) (by refine qAg ?_ bV.o _; refine qAg ?_ bV.o _; refine qAg ?_ bV.o _; refine qAg ?_ bV.o _; exact aH.o) hb) (a2 (qAd (g := aL) (o := .cells #[.string bO, .slice b3 bN.length b2, .slice b8 bP.length b5, .slice ba bQ.length b9] 27 (0, 0)) (by refine qAo (cs := #[.string bO, .slice b3 bN.length b2, .slice b8 bP.length b5, .slice none 0 0]) ?_ 3 _ rfl; refine qAo (cs := #[.string bO, .slice b3 bN.length b2, .slice none 0 0, .slice none 0 0]) ?_ 2 _ rfl; refine qAo (cs := #[.string bO, .slice none 0 0, .slice none 0 0, .slice none 0 0]) ?_ 1 _ rfl; refine qAo (cs := #[.string ⟨#[]⟩, .slice none 0 0, .slice none 0 0, .slice none 0 0]) ?_ 0 _ rfl; exact an.o) hb) (am (qAj (by repeat (with_reducible first | exact HB.o | refine qAq ?_ cZ.o)) hb))))))))))))))))); clear aI aJ aK aQ aR aS aZ az bK bL bM aC aD aG aH an HB; obtain ⟨aI, aJ, aK, aQ, aR, aS, aZ, az, bK, bL, bM, aC, aD, aG, aH, an, HB⟩ := n_; obtain ⟨dK, dL, dM, dN⟩ := c4_ ei an.o; have db := qAr an.o 3) | (go_at_call 11; (with_reducible refine (qAn.calls k bO _ _ bN _ _ bP _ _ bQ bj _ ?side1 ?side2 ?side3 ?side4 ?side5 ?side6 ep.o).mono ?_); (case side1 => exact (Kd.R_reads' bK.o).2.2); (case side2 => exact (Kd.R_reads' bK.o).2.1); (case side3 => exact (Kd.S_reads' bL.o).2.2); (case side4 => exact (Kd.S_reads' bL.o).2.1); (case side5 => exact (Kd.R_reads' bM.o).2.2); (case side6 => exact (Kd.R_reads' bM.o).2.1); rintro e fV ⟨rfl, hb⟩; have n_ := a2 (Kd.R_below aI.o hb) (a2 (Kd.S_below aJ.o hb) (a2 (Kd.R_below aK.o hb) (a2 (Kd.R_below aQ.o hb) (a2 (Kd.S_below aR.o hb) (a2 (Kd.R_below aS.o hb) (a2 (Kd.R_below aZ.o hb) (a2 (Kd.R_below az.o hb) (a2 (Kd.R_below bK.o hb) (a2 (Kd.S_below bL.o hb) (a2 (Kd.R_below bM.o hb) (a2 (qAd (g := aE) (o := .cells #[.string a0_0, .slice a8 l0_1.length ab, .slice a9 l0_2.length ac, .slice aa l0_3.length ad] 39 (0, 0)) aC.o hb) (a2 (qAd (g := aF) (o := .cells #[.string a1_0, .slice af l1_1.length ai, .slice ag l1_2.length aj, .slice ah l1_3.length ak] 39 (0, 0)) aD.o hb) (a2 (qAd (g := aB) (o := .cells #[.string aY, .slice bE aV.length bA, .slice bI aW.length bD, .slice bJ aX.length bH] 27 (0, 0)) aG.o hb) (a2 (qAd (g := aA) (o := .cells #[.string aq, .slice ax ae.length ay, .slice bB al.length bC, .slice bF ar.length bG] 27 (0, 0)) aH.o hb) (a2 (qAd (g := aL) (o := .cells #[.string bO, .slice b3 bN.length b2, .slice b8 bP.length b5, .slice ba bQ.length b9] 27 (0, 0)) an.o hb) (am (qAj HB.o hb))))))))))))))))); clear aI aJ aK aQ aR aS aZ az bK bL bM aC aD aG aH an HB; obtain ⟨aI, aJ, aK, aQ, aR, aS, aZ, az, bK, bL, bM, aC, aD, aG, aH, an, HB⟩ := n_; (skip)) | (go_at_call 8; (with_reducible refine (qAt.calls k  true _ eq.o).mono ?_); rintro e ej ⟨rfl, hb⟩; have n_ := a2 (Kd.R_below aI.o hb) (a2 (Kd.S_below aJ.o hb) (a2 (Kd.R_below aK.o hb) (a2 (Kd.R_below aQ.o hb) (a2 (Kd.S_below aR.o hb) (a2 (Kd.R_below aS.o hb) (a2 (Kd.R_below aZ.o hb) (a2 (Kd.R_below az.o hb) (a2 (Kd.R_below bK.o hb) (a2 (Kd.S_below bL.o hb) (a2 (Kd.R_below bM.o hb) (a2 (qAd (g := aE) (o := .cells #[.string a0_0, .slice a8 l0_1.length ab, .slice a9 l0_2.length ac, .slice aa l0_3.length ad] 39 (0, 0)) aC.o hb) (a2 (qAd (g := aF) (o := .cells #[.string a1_0, .slice af l1_1.length ai, .slice ag l1_2.length aj, .slice ah l1_3.length ak] 39 (0, 0)) aD.o hb) (a2 (qAd (g := aB) (o := .cells #[.string aY, .slice bE aV.length bA, .slice bI aW.length bD, .slice bJ aX.length bH] 27 (0, 0)) aG.o hb) (a2 (qAd (g := aA) (o := .cells #[.string aq, .slice ax ae.length ay, .slice bB al.length bC, .slice bF ar.length bG] 27 (0, 0)) aH.o hb) (a2 (qAd (g := aL) (o := .cells #[.string bO, .slice b3 bN.length b2, .slice b8 bP.length b5, .slice ba bQ.length b9] 27 (0, 0)) an.o hb) (am (qAj HB.o hb))))))))))))))))); clear aI aJ aK aQ aR aS aZ az bK bL bM aC aD aG aH an HB; obtain ⟨aI, aJ, aK, aQ, aR, aS, aZ, az, bK, bL, bM, aC, aD, aG, aH, an, HB⟩ := n_; (skip)))
       have n_ := a2 (Kd.R_drew aI.o) (a2 (Kd.S_drew aJ.o) (a2 (Kd.R_drew aK.o) (a2 (Kd.R_drew aQ.o) (a2 (Kd.S_drew aR.o) (a2 (Kd.R_drew aS.o) (a2 (Kd.R_drew aZ.o) (a2 (Kd.R_drew az.o) (a2 (Kd.R_drew bK.o) (a2 (Kd.S_drew bL.o) (a2 (Kd.R_drew bM.o) (a2 (qAU aC.o) (a2 (qAU aD.o) (a2 (qAU aG.o) (a2 (qAU aH.o) (a2 (qAU an.o) (am (qBi HB.o)))))))))))))))))
       clear aI aJ aK aQ aR aS aZ az bK bL bM aC aD aG aH an HB
       obtain ⟨aI, aJ, aK, aQ, aR, aS, aZ, az, bK, bL, bM, aC, aD, aG, aH, an, HB⟩ := n_
       refine qCY (n := 14) (S := fun w' => True) (ds := []) (mK 14 0) (by kernel_rfl) rfl rfl trivial (fun hHeld => ?_); refine qB8 foundrylaw15_ObjectBack.tab9 foundrylaw15_ObjectBack.bits9 (fun HT_ HW_ => ?_)
       generalize ej.drew = fW at aI aJ aK aQ aR aS aZ az bK bL bM aC aD aG aH an HB hHeld ⊢
       refine pu 0 66 (mK 14 1) (qA8 HT_.o (by kernel_rfl)) ?_
       refine pu 1 67 (mK 14 3) (qA8 HT_.o (by kernel_rfl)) ?_
       refine pu 2 68 (mK 14 7) (qA8 HT_.o (by kernel_rfl)) ?_
       refine qEk (i := 3) (N := some 69) (v := undef) (a' := ?_) (mK 14 15) rfl rfl (qA8 HT_.o (by kernel_rfl)) (fun _ _ _ h => h) (Or.inr ⟨by rfl, rfl⟩) ?_ ?_
       rotate_left
       ·simp only [Act.put, List.setIfInBounds_toArray, List.set_cons_zero, List.set_cons_succ]
        rfl
       refine qEk (i := 4) (N := some 70) (v := undef) (a' := ?_) (mK 14 31) rfl rfl (qA8 HT_.o (by kernel_rfl)) (fun _ _ _ h => h) (Or.inr ⟨by rfl, rfl⟩) ?_ ?_
       rotate_left
       ·simp only [Act.put, List.setIfInBounds_toArray, List.set_cons_zero, List.set_cons_succ]
        rfl
       refine qEk (i := 5) (N := some 71) (v := undef) (a' := ?_) (mK 14 63) rfl rfl (qA8 HT_.o (by kernel_rfl)) (fun _ _ _ h => h) (Or.inr ⟨by rfl, rfl⟩) ?_ ?_
       rotate_left
       ·simp only [Act.put, List.setIfInBounds_toArray, List.set_cons_zero, List.set_cons_succ]
        rfl
       refine qEk (i := 6) (N := some 72) (v := undef) (a' := ?_) (mK 14 127) rfl rfl (qA8 HT_.o (by kernel_rfl)) (fun _ _ _ h => h) (Or.inr ⟨by rfl, rfl⟩) ?_ ?_
       rotate_left
       ·simp only [Act.put, List.setIfInBounds_toArray, List.set_cons_zero, List.set_cons_succ]
        rfl
       refine qEk (i := 7) (N := some 73) (v := undef) (a' := ?_) (mK 14 255) rfl rfl (qA8 HT_.o (by kernel_rfl)) (fun _ _ _ h => h) (Or.inr ⟨by rfl, rfl⟩) ?_ ?_
       rotate_left
       ·simp only [Act.put, List.setIfInBounds_toArray, List.set_cons_zero, List.set_cons_succ]
        rfl
       refine qEk (i := 8) (N := some 74) (v := undef) (a' := ?_) (mK 14 511) rfl rfl (qA8 HT_.o (by kernel_rfl)) (fun _ _ _ h => h) (Or.inr ⟨by rfl, rfl⟩) ?_ ?_
       rotate_left
       ·simp only [Act.put, List.setIfInBounds_toArray, List.set_cons_zero, List.set_cons_succ]
        rfl
       refine qEk (i := 9) (N := some 75) (v := undef) (a' := ?_) (mK 14 1023) rfl rfl (qA8 HT_.o (by kernel_rfl)) (fun _ _ _ h => h) (Or.inr ⟨by rfl, rfl⟩) ?_ ?_
       rotate_left
       ·simp only [Act.put, List.setIfInBounds_toArray, List.set_cons_zero, List.set_cons_succ]
        rfl
       refine qEk (i := 10) (N := some 76) (v := undef) (a' := ?_) (mK 14 2047) rfl rfl (qA8 HT_.o (by kernel_rfl)) (fun _ _ _ h => h) (Or.inr ⟨by rfl, rfl⟩) ?_ ?_
       rotate_left
       ·simp only [Act.put, List.setIfInBounds_toArray, List.set_cons_zero, List.set_cons_succ]
        rfl
       refine qEk (i := 11) (N := some 77) (v := undef) (a' := ?_) (mK 14 4095) rfl rfl (qA8 HT_.o (by kernel_rfl)) (fun _ _ _ h => h) (Or.inr ⟨by rfl, rfl⟩) ?_ ?_
       rotate_left
       ·simp only [Act.put, List.setIfInBounds_toArray, List.set_cons_zero, List.set_cons_succ]
        rfl
       refine pu 12 78 (mK 14 8191) (qA8 HT_.o (by kernel_rfl)) ?_
       refine pu 13 4 (mK 14 16383) (qA8 HT_.o (by kernel_rfl)) ?_
       refine qE1 (qCk HT_.o (by kernel_rfl)) ?_
       try go_wp2
       go_ret
       exact ⟨by rfl, by exact HB.o⟩
     ·replace dj := Bool.eq_false_iff.mpr dj
      subst dj
      replace H : (none) = some r := by rw [if_neg (show ¬ (false = true) by decide)] at H; exact H
      exact absurd H (by simp)
    ·rw [if_neg di] at H
     exact absurd H (by simp)
   ·replace dh := Bool.eq_false_iff.mpr dh
    subst dh
    replace H : (none) = some r := by rw [if_neg (show ¬ (false = true) by decide)] at H; exact H
    exact absurd H (by simp)
  ·rw [if_neg c9] at H
   exact absurd H (by simp)
 ·rw [if_neg c7] at H
  have fR : (cG == 0) = false := bf c7
  have e1 : (cG != 0) = true := bne_iff_ne.mpr c7
  by_cases c1 : (bd.length : Int) = 0
  ·rw [if_pos c1] at H
   have eY : ((bd.length : Int) == 0) = true := beq_iff_eq.mpr c1
   clear c1
   replace H := bm H
   obtain ⟨bw, cd, H⟩ := H
   replace H : (if bw = 0 then (if cG = 3 then ((qAt.f k).bind fun cD => (some cD)) else (none)) else ((qAt.f k).bind fun cE => (some cE))) = some r := H
   have cl := am cd
   clear cd
   by_cases cY : bw = 0
   ·rw [if_pos cY] at H
    have eZ : (bw == 0) = true := beq_iff_eq.mpr cY
    have cg : (bw != 0) = false := bn cY
    clear cY
    by_cases ca : cG = 3
    ·rw [if_pos ca] at H
     have e0 : (cG == 3) = true := beq_iff_eq.mpr ca
     clear ca
     replace H := bm H
     obtain ⟨cD, ce, H⟩ := H
     replace H : (some cD) = some r := H
     have eW := am ce
     clear ce
     obtain rfl := Option.some.inj H
     try go_wp2_with (first | ((with_reducible refine qAp (f := 9) rfl ?_); refine gL 19 Try.func9 #[.agg #[.string aY, .slice bE aV.length bA, .slice bI aW.length bD, .slice bJ aX.length bH]] ?_; (with_reducible refine (qA9.calls aY _ _ aV _ _ aW _ _ aX bd cG _ ?side1 ?side2 ?side3 ?side4 ?side5 ?side6 A5.o).mono ?_); (case side1 => refine (Kd.R_reads' (e := 71) (base := w.heap.size) (ok := fun k_ => some k_ ≠ (.slice ax ae.length ay : Value).ownBlock) (n := aV.length) (c := bA) ?_).2.2; exact (by exact (Kd.R_mono (Kd.R_mono (Kd.R_far (p := ⟨aA, 3, none⟩) (Kd.R_far (p := ⟨aA, 2, none⟩) (Kd.R_far (p := ⟨aA, 1, none⟩) (Kd.R_far (p := ⟨aA, 0, none⟩) (Kd.R_far (p := ⟨aB, 3, none⟩) (Kd.R_far (p := ⟨aB, 2, none⟩) (Kd.R_far (p := ⟨aB, 1, none⟩) (Kd.R_far (p := ⟨aB, 0, none⟩) (Kd.R_types (Kd.R_types aI.o aG.o (by decide)) aH.o (by decide)) (fun _ hk => hk.1.2) (.string aY)) (fun _ hk => hk.1.2) (.slice bE aV.length bA)) (fun _ hk => hk.1.2) (.slice bI aW.length bD)) (fun _ hk => hk.1.2) (.slice bJ aX.length bH)) (fun _ hk => hk.2) (.string aq)) (fun _ hk => hk.2) (.slice ax ae.length ay)) (fun _ hk => hk.2) (.slice bB al.length bC)) (fun _ hk => hk.2) (.slice bF ar.length bG)) (fun _ h_ => h_.1)) (fun _ h_ => h_.1)))); (case side2 => exact (Kd.R_reads' aI.o).2.1); (case side3 => refine (Kd.S_reads' (e := 80) (base := w.heap.size) (ok := fun k_ => some k_ ≠ (.slice bB al.length bC : Value).ownBlock) (n := aW.length) (c := bD) ?_).2.2; exact (by exact (Kd.S_mono (Kd.S_mono (Kd.S_far (p := ⟨aA, 3, none⟩) (Kd.S_far (p := ⟨aA, 2, none⟩) (Kd.S_far (p := ⟨aA, 1, none⟩) (Kd.S_far (p := ⟨aA, 0, none⟩) (Kd.S_far (p := ⟨aB, 3, none⟩) (Kd.S_far (p := ⟨aB, 2, none⟩) (Kd.S_far (p := ⟨aB, 1, none⟩) (Kd.S_far (p := ⟨aB, 0, none⟩) (Kd.S_types (Kd.S_types aJ.o aG.o (by decide)) aH.o (by decide)) (fun _ hk => hk.1.2) (.string aY)) (fun _ hk => hk.1.2) (.slice bE aV.length bA)) (fun _ hk => hk.1.2) (.slice bI aW.length bD)) (fun _ hk => hk.1.2) (.slice bJ aX.length bH)) (fun _ hk => hk.2) (.string aq)) (fun _ hk => hk.2) (.slice ax ae.length ay)) (fun _ hk => hk.2) (.slice bB al.length bC)) (fun _ hk => hk.2) (.slice bF ar.length bG)) (fun _ h_ => h_.1)) (fun _ h_ => h_.1)))); (case side4 => exact (Kd.S_reads' aJ.o).2.1); (case side5 => refine (Kd.R_reads' (e := 82) (base := w.heap.size) (ok := fun k_ => some k_ ≠ (.slice bF ar.length bG : Value).ownBlock) (n := aX.length) (c := bH) ?_).2.2; exact (by exact (Kd.R_mono (Kd.R_mono (Kd.R_far (p := ⟨aA, 3, none⟩) (Kd.R_far (p := ⟨aA, 2, none⟩) (Kd.R_far (p := ⟨aA, 1, none⟩) (Kd.R_far (p := ⟨aA, 0, none⟩) (Kd.R_far (p := ⟨aB, 3, none⟩) (Kd.R_far (p := ⟨aB, 2, none⟩) (Kd.R_far (p := ⟨aB, 1, none⟩) (Kd.R_far (p := ⟨aB, 0, none⟩) (Kd.R_types (Kd.R_types aK.o aG.o (by decide)) aH.o (by decide)) (fun _ hk => hk.1.2) (.string aY)) (fun _ hk => hk.1.2) (.slice bE aV.length bA)) (fun _ hk => hk.1.2) (.slice bI aW.length bD)) (fun _ hk => hk.1.2) (.slice bJ aX.length bH)) (fun _ hk => hk.2) (.string aq)) (fun _ hk => hk.2) (.slice ax ae.length ay)) (fun _ hk => hk.2) (.slice bB al.length bC)) (fun _ hk => hk.2) (.slice bF ar.length bG)) (fun _ h_ => h_.1)) (fun _ h_ => h_.1)))); (case side6 => exact (Kd.R_reads' aK.o).2.1); rintro e ek ⟨ch, rfl, bb, hb⟩; refine ⟨_, rfl, ?_⟩; have n_ := a2 (Kd.R_below (by exact (Kd.R_mono (Kd.R_mono (Kd.R_far (p := ⟨aA, 3, none⟩) (Kd.R_far (p := ⟨aA, 2, none⟩) (Kd.R_far (p := ⟨aA, 1, none⟩) (Kd.R_far (p := ⟨aA, 0, none⟩) (Kd.R_far (p := ⟨aB, 3, none⟩) (Kd.R_far (p := ⟨aB, 2, none⟩) (Kd.R_far (p := ⟨aB, 1, none⟩) (Kd.R_far (p := ⟨aB, 0, none⟩) (Kd.R_types (Kd.R_types aI.o aG.o (by decide)) aH.o (by decide)) (fun _ hk => hk.1.2) (.string aY)) (fun _ hk => hk.1.2) (.slice bE aV.length bA)) (fun _ hk => hk.1.2) (.slice bI aW.length bD)) (fun _ hk => hk.1.2) (.slice bJ aX.length bH)) (fun _ hk => hk.2) (.string aq)) (fun _ hk => hk.2) (.slice ax ae.length ay)) (fun _ hk => hk.2) (.slice bB al.length bC)) (fun _ hk => hk.2) (.slice bF ar.length bG)) (fun _ h_ => h_.1)) (fun _ h_ => h_.1))) hb) (a2 (Kd.S_below (by exact (Kd.S_mono (Kd.S_mono (Kd.S_far (p := ⟨aA, 3, none⟩) (Kd.S_far (p := ⟨aA, 2, none⟩) (Kd.S_far (p := ⟨aA, 1, none⟩) (Kd.S_far (p := ⟨aA, 0, none⟩) (Kd.S_far (p := ⟨aB, 3, none⟩) (Kd.S_far (p := ⟨aB, 2, none⟩) (Kd.S_far (p := ⟨aB, 1, none⟩) (Kd.S_far (p := ⟨aB, 0, none⟩) (Kd.S_types (Kd.S_types aJ.o aG.o (by decide)) aH.o (by decide)) (fun _ hk => hk.1.2) (.string aY)) (fun _ hk => hk.1.2) (.slice bE aV.length bA)) (fun _ hk => hk.1.2) (.slice bI aW.length bD)) (fun _ hk => hk.1.2) (.slice bJ aX.length bH)) (fun _ hk => hk.2) (.string aq)) (fun _ hk => hk.2) (.slice ax ae.length ay)) (fun _ hk => hk.2) (.slice bB al.length bC)) (fun _ hk => hk.2) (.slice bF ar.length bG)) (fun _ h_ => h_.1)) (fun _ h_ => h_.1))) hb) (a2 (Kd.R_below (by exact (Kd.R_mono (Kd.R_mono (Kd.R_far (p := ⟨aA, 3, none⟩) (Kd.R_far (p := ⟨aA, 2, none⟩) (Kd.R_far (p := ⟨aA, 1, none⟩) (Kd.R_far (p := ⟨aA, 0, none⟩) (Kd.R_far (p := ⟨aB, 3, none⟩) (Kd.R_far (p := ⟨aB, 2, none⟩) (Kd.R_far (p := ⟨aB, 1, none⟩) (Kd.R_far (p := ⟨aB, 0, none⟩) (Kd.R_types (Kd.R_types aK.o aG.o (by decide)) aH.o (by decide)) (fun _ hk => hk.1.2) (.string aY)) (fun _ hk => hk.1.2) (.slice bE aV.length bA)) (fun _ hk => hk.1.2) (.slice bI aW.length bD)) (fun _ hk => hk.1.2) (.slice bJ aX.length bH)) (fun _ hk => hk.2) (.string aq)) (fun _ hk => hk.2) (.slice ax ae.length ay)) (fun _ hk => hk.2) (.slice bB al.length bC)) (fun _ hk => hk.2) (.slice bF ar.length bG)) (fun _ h_ => h_.1)) (fun _ h_ => h_.1))) hb) (a2 (Kd.R_below (by exact (Kd.R_mono (Kd.R_mono (Kd.R_far (p := ⟨aA, 3, none⟩) (Kd.R_far (p := ⟨aA, 2, none⟩) (Kd.R_far (p := ⟨aA, 1, none⟩) (Kd.R_far (p := ⟨aA, 0, none⟩) (Kd.R_far (p := ⟨aB, 3, none⟩) (Kd.R_far (p := ⟨aB, 2, none⟩) (Kd.R_far (p := ⟨aB, 1, none⟩) (Kd.R_far (p := ⟨aB, 0, none⟩) (Kd.R_types (Kd.R_types aQ.o aG.o (by decide)) aH.o (by decide)) (fun _ hk => hk.1.2) (.string aY)) (fun _ hk => hk.1.2) (.slice bE aV.length bA)) (fun _ hk => hk.1.2) (.slice bI aW.length bD)) (fun _ hk => hk.1.2) (.slice bJ aX.length bH)) (fun _ hk => hk.2) (.string aq)) (fun _ hk => hk.2) (.slice ax ae.length ay)) (fun _ hk => hk.2) (.slice bB al.length bC)) (fun _ hk => hk.2) (.slice bF ar.length bG)) (fun _ h_ => h_.1)) (fun _ h_ => h_.1))) hb) (a2 (Kd.S_below (by exact (Kd.S_mono (Kd.S_mono (Kd.S_far (p := ⟨aA, 3, none⟩) (Kd.S_far (p := ⟨aA, 2, none⟩) (Kd.S_far (p := ⟨aA, 1, none⟩) (Kd.S_far (p := ⟨aA, 0, none⟩) (Kd.S_far (p := ⟨aB, 3, none⟩) (Kd.S_far (p := ⟨aB, 2, none⟩) (Kd.S_far (p := ⟨aB, 1, none⟩) (Kd.S_far (p := ⟨aB, 0, none⟩) (Kd.S_types (Kd.S_types aR.o aG.o (by decide)) aH.o (by decide)) (fun _ hk => hk.1.2) (.string aY)) (fun _ hk => hk.1.2) (.slice bE aV.length bA)) (fun _ hk => hk.1.2) (.slice bI aW.length bD)) (fun _ hk => hk.1.2) (.slice bJ aX.length bH)) (fun _ hk => hk.2) (.string aq)) (fun _ hk => hk.2) (.slice ax ae.length ay)) (fun _ hk => hk.2) (.slice bB al.length bC)) (fun _ hk => hk.2) (.slice bF ar.length bG)) (fun _ h_ => h_.1)) (fun _ h_ => h_.1))) hb) (a2 (Kd.R_below (by exact (Kd.R_mono (Kd.R_mono (Kd.R_far (p := ⟨aA, 3, none⟩) (Kd.R_far (p := ⟨aA, 2, none⟩) (Kd.R_far (p := ⟨aA, 1, none⟩) (Kd.R_far (p := ⟨aA, 0, none⟩) (Kd.R_far (p := ⟨aB, 3, none⟩) (Kd.R_far (p := ⟨aB, 2, none⟩) (Kd.R_far (p := ⟨aB, 1, none⟩) (Kd.R_far (p := ⟨aB, 0, none⟩) (Kd.R_types (Kd.R_types aS.o aG.o (by decide)) aH.o (by decide)) (fun _ hk => hk.1.2) (.string aY)) (fun _ hk => hk.1.2) (.slice bE aV.length bA)) (fun _ hk => hk.1.2) (.slice bI aW.length bD)) (fun _ hk => hk.1.2) (.slice bJ aX.length bH)) (fun _ hk => hk.2) (.string aq)) (fun _ hk => hk.2) (.slice ax ae.length ay)) (fun _ hk => hk.2) (.slice bB al.length bC)) (fun _ hk => hk.2) (.slice bF ar.length bG)) (fun _ h_ => h_.1)) (fun _ h_ => h_.1))) hb) (a2 (Kd.R_lower bb (qAe (by repeat (with_reducible first | exact HB.o | refine qAq ?_ bS.o | refine qAq ?_ bT.o)))) (a2 (qAd (g := aE) (o := .cells #[.string a0_0, .slice a8 l0_1.length ab, .slice a9 l0_2.length ac, .slice aa l0_3.length ad] 39 (0, 0)) (by refine qAg ?_ aO.o _; refine qAg ?_ aO.o _; refine qAg ?_ aO.o _; refine qAg ?_ aO.o _; refine qAg ?_ aM.o _; refine qAg ?_ aM.o _; refine qAg ?_ aM.o _; refine qAg ?_ aM.o _; exact aC.o) hb) (a2 (qAd (g := aF) (o := .cells #[.string a1_0, .slice af l1_1.length ai, .slice ag l1_2.length aj, .slice ah l1_3.length ak] 39 (0, 0)) (by refine qAg ?_ aP.o _; refine qAg ?_ aP.o _; refine qAg ?_ aP.o _; refine qAg ?_ aP.o _; refine qAg ?_ aN.o _; refine qAg ?_ aN.o _; refine qAg ?_ aN.o _; refine qAg ?_ aN.o _; exact aD.o) hb) (a2 (qAd (g := aB) (o := .cells #[.string aY, .slice bE aV.length bA, .slice bI aW.length bD, .slice bJ aX.length bH] 27 (0, 0)) (by refine qAg ?_ aT.o _; refine qAg ?_ aT.o _; refine qAg ?_ aT.o _; refine qAg ?_ aT.o _; refine qAo (cs := #[.string aY, .slice bE aV.length bA, .slice bI aW.length bD, .slice none 0 0]) ?_ 3 _ rfl; refine qAo (cs := #[.string aY, .slice bE aV.length bA, .slice none 0 0, .slice none 0 0]) ?_ 2 _ rfl; refine qAo (cs := #[.string aY, .slice none 0 0, .slice none 0 0, .slice none 0 0]) ?_ 1 _ rfl; refine qAo (cs := #[.string ⟨#[]⟩, .slice none 0 0, .slice none 0 0, .slice none 0 0]) ?_ 0 _ rfl; exact aG.o) hb) (a2 (qAd (g := aA) (o := .cells #[.string aq, .slice ax ae.length ay, .slice bB al.length bC, .slice bF ar.length bG] 27 (0, 0)) (by refine qAo (cs := #[.string aq, .slice ax ae.length ay, .slice bB al.length bC, .slice none 0 0]) ?_ 3 _ rfl; refine qAo (cs := #[.string aq, .slice ax ae.length ay, .slice none 0 0, .slice none 0 0]) ?_ 2 _ rfl; refine qAo (cs := #[.string aq, .slice none 0 0, .slice none 0 0, .slice none 0 0]) ?_ 1 _ rfl; refine qAo (cs := #[.string ⟨#[]⟩, .slice none 0 0, .slice none 0 0, .slice none 0 0]) ?_ 0 _ rfl; refine qAg ?_ aU.o _; refine qAg ?_ aU.o _; refine qAg ?_ aU.o _; refine qAg ?_ aU.o _; exact aH.o) hb) (am (qAj (by repeat (with_reducible first | exact HB.o | refine qAq ?_ bS.o | refine qAq ?_ bT.o)) hb)))))))))))); clear aI aJ aK aQ aR aS aC aD aG aH HB; obtain ⟨aI, aJ, aK, aQ, aR, aS, aZ, aC, aD, aG, aH, HB⟩ := n_; obtain ⟨dO, dP, dQ, dR⟩ := c4_ ek aH.o; have dc := qAr aH.o 3) | ((with_reducible refine qAp (f := 9) rfl ?_); refine gL 24 Try.func9 #[.agg #[.string aq, .slice ax ae.length ay, .slice bB al.length bC, .slice bF ar.length bG]] ?_; (with_reducible refine (qA9.calls aq _ _ ae _ _ al _ _ ar cK cI _ ?side1 ?side2 ?side3 ?side4 ?side5 ?side6 A6.o).mono ?_); (case side1 => exact (Kd.R_reads' aQ.o).2.2); (case side2 => exact (Kd.R_reads' aQ.o).2.1); (case side3 => exact (Kd.S_reads' aR.o).2.2); (case side4 => exact (Kd.S_reads' aR.o).2.1); (case side5 => exact (Kd.R_reads' aS.o).2.2); (case side6 => exact (Kd.R_reads' aS.o).2.1); rintro e el ⟨cc, rfl, bb, hb⟩; refine ⟨_, rfl, ?_⟩; have n_ := a2 (Kd.R_below aI.o hb) (a2 (Kd.S_below aJ.o hb) (a2 (Kd.R_below aK.o hb) (a2 (Kd.R_below aQ.o hb) (a2 (Kd.S_below aR.o hb) (a2 (Kd.R_below aS.o hb) (a2 (Kd.R_elder' aZ.o (Kd.R_base bb) hb) (a2 (Kd.R_lower (Kd.R_new' bb (Kd.R_lt aZ.o)) (qAe HB.o)) (a2 (qAd (g := aE) (o := .cells #[.string a0_0, .slice a8 l0_1.length ab, .slice a9 l0_2.length ac, .slice aa l0_3.length ad] 39 (0, 0)) aC.o hb) (a2 (qAd (g := aF) (o := .cells #[.string a1_0, .slice af l1_1.length ai, .slice ag l1_2.length aj, .slice ah l1_3.length ak] 39 (0, 0)) aD.o hb) (a2 (qAd (g := aB) (o := .cells #[.string aY, .slice bE aV.length bA, .slice bI aW.length bD, .slice bJ aX.length bH] 27 (0, 0)) aG.o hb) (a2 (qAd (g := aA) (o := .cells #[.string aq, .slice ax ae.length ay, .slice bB al.length bC, .slice bF ar.length bG] 27 (0, 0)) aH.o hb) (am (qAj HB.o hb))))))))))))); clear aI aJ aK aQ aR aS aZ aC aD aG aH HB; obtain ⟨aI, aJ, aK, aQ, aR, aS, aZ, az, aC, aD, aG, aH, HB⟩ := n_; obtain ⟨ew, fD, dA⟩ := Kd.R_slice aZ.o; subst dA; obtain ⟨dS, dT, dU, dV⟩ := c4_ el aG.o; have dd := qAr aG.o 3) | (go_at_call 11; (with_reducible refine (qAn.calls k aY _ _ aV _ _ aW _ _ aX bw _ ?side1 ?side2 ?side3 ?side4 ?side5 ?side6 cl.o).mono ?_); (case side1 => exact (Kd.R_reads' aI.o).2.2); (case side2 => exact (Kd.R_reads' aI.o).2.1); (case side3 => exact (Kd.S_reads' aJ.o).2.2); (case side4 => exact (Kd.S_reads' aJ.o).2.1); (case side5 => exact (Kd.R_reads' aK.o).2.2); (case side6 => exact (Kd.R_reads' aK.o).2.1); rintro e fX ⟨rfl, hb⟩; have n_ := a2 (Kd.R_below aI.o hb) (a2 (Kd.S_below aJ.o hb) (a2 (Kd.R_below aK.o hb) (a2 (Kd.R_below aQ.o hb) (a2 (Kd.S_below aR.o hb) (a2 (Kd.R_below aS.o hb) (a2 (Kd.R_below aZ.o hb) (a2 (Kd.R_below az.o hb) (a2 (qAd (g := aE) (o := .cells #[.string a0_0, .slice a8 l0_1.length ab, .slice a9 l0_2.length ac, .slice aa l0_3.length ad] 39 (0, 0)) aC.o hb) (a2 (qAd (g := aF) (o := .cells #[.string a1_0, .slice af l1_1.length ai, .slice ag l1_2.length aj, .slice ah l1_3.length ak] 39 (0, 0)) aD.o hb) (a2 (qAd (g := aB) (o := .cells #[.string aY, .slice bE aV.length bA, .slice bI aW.length bD, .slice bJ aX.length bH] 27 (0, 0)) aG.o hb) (a2 (qAd (g := aA) (o := .cells #[.string aq, .slice ax ae.length ay, .slice bB al.length bC, .slice bF ar.length bG] 27 (0, 0)) aH.o hb) (am (qAj HB.o hb))))))))))))); clear aI aJ aK aQ aR aS aZ az aC aD aG aH HB; obtain ⟨aI, aJ, aK, aQ, aR, aS, aZ, az, aC, aD, aG, aH, HB⟩ := n_; (skip)) | (go_at_call 8; (with_reducible refine (qAt.calls k  cD _ eW.o).mono ?_); rintro e fY ⟨rfl, hb⟩; have n_ := am (qAj HB.o hb); clear aI aJ aK aQ aR aS aZ az aC aD aG aH HB; have HB := n_; clear n_; (skip)))
     go_ret
     exact ⟨by rfl, by exact HB.o⟩
    ·rw [if_neg ca] at H
     exact absurd H (by simp)
   ·rw [if_neg cY] at H
    have cg : (bw != 0) = true := bne_iff_ne.mpr cY
    replace H := bm H
    obtain ⟨cE, cf, H⟩ := H
    replace H : (some cE) = some r := H
    have eX := am cf
    clear cf
    obtain rfl := Option.some.inj H
    try go_wp2_with (first | ((with_reducible refine qAp (f := 9) rfl ?_); refine gL 19 Try.func9 #[.agg #[.string aY, .slice bE aV.length bA, .slice bI aW.length bD, .slice bJ aX.length bH]] ?_; (with_reducible refine (qA9.calls aY _ _ aV _ _ aW _ _ aX bd cG _ ?side1 ?side2 ?side3 ?side4 ?side5 ?side6 A5.o).mono ?_); (case side1 => refine (Kd.R_reads' (e := 71) (base := w.heap.size) (ok := fun k_ => some k_ ≠ (.slice ax ae.length ay : Value).ownBlock) (n := aV.length) (c := bA) ?_).2.2; exact (by exact (Kd.R_mono (Kd.R_mono (Kd.R_far (p := ⟨aA, 3, none⟩) (Kd.R_far (p := ⟨aA, 2, none⟩) (Kd.R_far (p := ⟨aA, 1, none⟩) (Kd.R_far (p := ⟨aA, 0, none⟩) (Kd.R_far (p := ⟨aB, 3, none⟩) (Kd.R_far (p := ⟨aB, 2, none⟩) (Kd.R_far (p := ⟨aB, 1, none⟩) (Kd.R_far (p := ⟨aB, 0, none⟩) (Kd.R_types (Kd.R_types aI.o aG.o (by decide)) aH.o (by decide)) (fun _ hk => hk.1.2) (.string aY)) (fun _ hk => hk.1.2) (.slice bE aV.length bA)) (fun _ hk => hk.1.2) (.slice bI aW.length bD)) (fun _ hk => hk.1.2) (.slice bJ aX.length bH)) (fun _ hk => hk.2) (.string aq)) (fun _ hk => hk.2) (.slice ax ae.length ay)) (fun _ hk => hk.2) (.slice bB al.length bC)) (fun _ hk => hk.2) (.slice bF ar.length bG)) (fun _ h_ => h_.1)) (fun _ h_ => h_.1)))); (case side2 => exact (Kd.R_reads' aI.o).2.1); (case side3 => refine (Kd.S_reads' (e := 80) (base := w.heap.size) (ok := fun k_ => some k_ ≠ (.slice bB al.length bC : Value).ownBlock) (n := aW.length) (c := bD) ?_).2.2; exact (by exact (Kd.S_mono (Kd.S_mono (Kd.S_far (p := ⟨aA, 3, none⟩) (Kd.S_far (p := ⟨aA, 2, none⟩) (Kd.S_far (p := ⟨aA, 1, none⟩) (Kd.S_far (p := ⟨aA, 0, none⟩) (Kd.S_far (p := ⟨aB, 3, none⟩) (Kd.S_far (p := ⟨aB, 2, none⟩) (Kd.S_far (p := ⟨aB, 1, none⟩) (Kd.S_far (p := ⟨aB, 0, none⟩) (Kd.S_types (Kd.S_types aJ.o aG.o (by decide)) aH.o (by decide)) (fun _ hk => hk.1.2) (.string aY)) (fun _ hk => hk.1.2) (.slice bE aV.length bA)) (fun _ hk => hk.1.2) (.slice bI aW.length bD)) (fun _ hk => hk.1.2) (.slice bJ aX.length bH)) (fun _ hk => hk.2) (.string aq)) (fun _ hk => hk.2) (.slice ax ae.length ay)) (fun _ hk => hk.2) (.slice bB al.length bC)) (fun _ hk => hk.2) (.slice bF ar.length bG)) (fun _ h_ => h_.1)) (fun _ h_ => h_.1)))); (case side4 => exact (Kd.S_reads' aJ.o).2.1); (case side5 => refine (Kd.R_reads' (e := 82) (base := w.heap.size) (ok := fun k_ => some k_ ≠ (.slice bF ar.length bG : Value).ownBlock) (n := aX.length) (c := bH) ?_).2.2; exact (by exact (Kd.R_mono (Kd.R_mono (Kd.R_far (p := ⟨aA, 3, none⟩) (Kd.R_far (p := ⟨aA, 2, none⟩) (Kd.R_far (p := ⟨aA, 1, none⟩) (Kd.R_far (p := ⟨aA, 0, none⟩) (Kd.R_far (p := ⟨aB, 3, none⟩) (Kd.R_far (p := ⟨aB, 2, none⟩) (Kd.R_far (p := ⟨aB, 1, none⟩) (Kd.R_far (p := ⟨aB, 0, none⟩) (Kd.R_types (Kd.R_types aK.o aG.o (by decide)) aH.o (by decide)) (fun _ hk => hk.1.2) (.string aY)) (fun _ hk => hk.1.2) (.slice bE aV.length bA)) (fun _ hk => hk.1.2) (.slice bI aW.length bD)) (fun _ hk => hk.1.2) (.slice bJ aX.length bH)) (fun _ hk => hk.2) (.string aq)) (fun _ hk => hk.2) (.slice ax ae.length ay)) (fun _ hk => hk.2) (.slice bB al.length bC)) (fun _ hk => hk.2) (.slice bF ar.length bG)) (fun _ h_ => h_.1)) (fun _ h_ => h_.1)))); (case side6 => exact (Kd.R_reads' aK.o).2.1); rintro e em ⟨ch, rfl, bb, hb⟩; refine ⟨_, rfl, ?_⟩; have n_ := a2 (Kd.R_below (by exact (Kd.R_mono (Kd.R_mono (Kd.R_far (p := ⟨aA, 3, none⟩) (Kd.R_far (p := ⟨aA, 2, none⟩) (Kd.R_far (p := ⟨aA, 1, none⟩) (Kd.R_far (p := ⟨aA, 0, none⟩) (Kd.R_far (p := ⟨aB, 3, none⟩) (Kd.R_far (p := ⟨aB, 2, none⟩) (Kd.R_far (p := ⟨aB, 1, none⟩) (Kd.R_far (p := ⟨aB, 0, none⟩) (Kd.R_types (Kd.R_types aI.o aG.o (by decide)) aH.o (by decide)) (fun _ hk => hk.1.2) (.string aY)) (fun _ hk => hk.1.2) (.slice bE aV.length bA)) (fun _ hk => hk.1.2) (.slice bI aW.length bD)) (fun _ hk => hk.1.2) (.slice bJ aX.length bH)) (fun _ hk => hk.2) (.string aq)) (fun _ hk => hk.2) (.slice ax ae.length ay)) (fun _ hk => hk.2) (.slice bB al.length bC)) (fun _ hk => hk.2) (.slice bF ar.length bG)) (fun _ h_ => h_.1)) (fun _ h_ => h_.1))) hb) (a2 (Kd.S_below (by exact (Kd.S_mono (Kd.S_mono (Kd.S_far (p := ⟨aA, 3, none⟩) (Kd.S_far (p := ⟨aA, 2, none⟩) (Kd.S_far (p := ⟨aA, 1, none⟩) (Kd.S_far (p := ⟨aA, 0, none⟩) (Kd.S_far (p := ⟨aB, 3, none⟩) (Kd.S_far (p := ⟨aB, 2, none⟩) (Kd.S_far (p := ⟨aB, 1, none⟩) (Kd.S_far (p := ⟨aB, 0, none⟩) (Kd.S_types (Kd.S_types aJ.o aG.o (by decide)) aH.o (by decide)) (fun _ hk => hk.1.2) (.string aY)) (fun _ hk => hk.1.2) (.slice bE aV.length bA)) (fun _ hk => hk.1.2) (.slice bI aW.length bD)) (fun _ hk => hk.1.2) (.slice bJ aX.length bH)) (fun _ hk => hk.2) (.string aq)) (fun _ hk => hk.2) (.slice ax ae.length ay)) (fun _ hk => hk.2) (.slice bB al.length bC)) (fun _ hk => hk.2) (.slice bF ar.length bG)) (fun _ h_ => h_.1)) (fun _ h_ => h_.1))) hb) (a2 (Kd.R_below (by exact (Kd.R_mono (Kd.R_mono (Kd.R_far (p := ⟨aA, 3, none⟩) (Kd.R_far (p := ⟨aA, 2, none⟩) (Kd.R_far (p := ⟨aA, 1, none⟩) (Kd.R_far (p := ⟨aA, 0, none⟩) (Kd.R_far (p := ⟨aB, 3, none⟩) (Kd.R_far (p := ⟨aB, 2, none⟩) (Kd.R_far (p := ⟨aB, 1, none⟩) (Kd.R_far (p := ⟨aB, 0, none⟩) (Kd.R_types (Kd.R_types aK.o aG.o (by decide)) aH.o (by decide)) (fun _ hk => hk.1.2) (.string aY)) (fun _ hk => hk.1.2) (.slice bE aV.length bA)) (fun _ hk => hk.1.2) (.slice bI aW.length bD)) (fun _ hk => hk.1.2) (.slice bJ aX.length bH)) (fun _ hk => hk.2) (.string aq)) (fun _ hk => hk.2) (.slice ax ae.length ay)) (fun _ hk => hk.2) (.slice bB al.length bC)) (fun _ hk => hk.2) (.slice bF ar.length bG)) (fun _ h_ => h_.1)) (fun _ h_ => h_.1))) hb) (a2 (Kd.R_below (by exact (Kd.R_mono (Kd.R_mono (Kd.R_far (p := ⟨aA, 3, none⟩) (Kd.R_far (p := ⟨aA, 2, none⟩) (Kd.R_far (p := ⟨aA, 1, none⟩) (Kd.R_far (p := ⟨aA, 0, none⟩) (Kd.R_far (p := ⟨aB, 3, none⟩) (Kd.R_far (p := ⟨aB, 2, none⟩) (Kd.R_far (p := ⟨aB, 1, none⟩) (Kd.R_far (p := ⟨aB, 0, none⟩) (Kd.R_types (Kd.R_types aQ.o aG.o (by decide)) aH.o (by decide)) (fun _ hk => hk.1.2) (.string aY)) (fun _ hk => hk.1.2) (.slice bE aV.length bA)) (fun _ hk => hk.1.2) (.slice bI aW.length bD)) (fun _ hk => hk.1.2) (.slice bJ aX.length bH)) (fun _ hk => hk.2) (.string aq)) (fun _ hk => hk.2) (.slice ax ae.length ay)) (fun _ hk => hk.2) (.slice bB al.length bC)) (fun _ hk => hk.2) (.slice bF ar.length bG)) (fun _ h_ => h_.1)) (fun _ h_ => h_.1))) hb) (a2 (Kd.S_below (by exact (Kd.S_mono (Kd.S_mono (Kd.S_far (p := ⟨aA, 3, none⟩) (Kd.S_far (p := ⟨aA, 2, none⟩) (Kd.S_far (p := ⟨aA, 1, none⟩) (Kd.S_far (p := ⟨aA, 0, none⟩) (Kd.S_far (p := ⟨aB, 3, none⟩) (Kd.S_far (p := ⟨aB, 2, none⟩) (Kd.S_far (p := ⟨aB, 1, none⟩) (Kd.S_far (p := ⟨aB, 0, none⟩) (Kd.S_types (Kd.S_types aR.o aG.o (by decide)) aH.o (by decide)) (fun _ hk => hk.1.2) (.string aY)) (fun _ hk => hk.1.2) (.slice bE aV.length bA)) (fun _ hk => hk.1.2) (.slice bI aW.length bD)) (fun _ hk => hk.1.2) (.slice bJ aX.length bH)) (fun _ hk => hk.2) (.string aq)) (fun _ hk => hk.2) (.slice ax ae.length ay)) (fun _ hk => hk.2) (.slice bB al.length bC)) (fun _ hk => hk.2) (.slice bF ar.length bG)) (fun _ h_ => h_.1)) (fun _ h_ => h_.1))) hb) (a2 (Kd.R_below (by exact (Kd.R_mono (Kd.R_mono (Kd.R_far (p := ⟨aA, 3, none⟩) (Kd.R_far (p := ⟨aA, 2, none⟩) (Kd.R_far (p := ⟨aA, 1, none⟩) (Kd.R_far (p := ⟨aA, 0, none⟩) (Kd.R_far (p := ⟨aB, 3, none⟩) (Kd.R_far (p := ⟨aB, 2, none⟩) (Kd.R_far (p := ⟨aB, 1, none⟩) (Kd.R_far (p := ⟨aB, 0, none⟩) (Kd.R_types (Kd.R_types aS.o aG.o (by decide)) aH.o (by decide)) (fun _ hk => hk.1.2) (.string aY)) (fun _ hk => hk.1.2) (.slice bE aV.length bA)) (fun _ hk => hk.1.2) (.slice bI aW.length bD)) (fun _ hk => hk.1.2) (.slice bJ aX.length bH)) (fun _ hk => hk.2) (.string aq)) (fun _ hk => hk.2) (.slice ax ae.length ay)) (fun _ hk => hk.2) (.slice bB al.length bC)) (fun _ hk => hk.2) (.slice bF ar.length bG)) (fun _ h_ => h_.1)) (fun _ h_ => h_.1))) hb) (a2 (Kd.R_lower bb (qAe (by repeat (with_reducible first | exact HB.o | refine qAq ?_ bS.o | refine qAq ?_ bT.o)))) (a2 (qAd (g := aE) (o := .cells #[.string a0_0, .slice a8 l0_1.length ab, .slice a9 l0_2.length ac, .slice aa l0_3.length ad] 39 (0, 0)) (by refine qAg ?_ aO.o _; refine qAg ?_ aO.o _; refine qAg ?_ aO.o _; refine qAg ?_ aO.o _; refine qAg ?_ aM.o _; refine qAg ?_ aM.o _; refine qAg ?_ aM.o _; refine qAg ?_ aM.o _; exact aC.o) hb) (a2 (qAd (g := aF) (o := .cells #[.string a1_0, .slice af l1_1.length ai, .slice ag l1_2.length aj, .slice ah l1_3.length ak] 39 (0, 0)) (by refine qAg ?_ aP.o _; refine qAg ?_ aP.o _; refine qAg ?_ aP.o _; refine qAg ?_ aP.o _; refine qAg ?_ aN.o _; refine qAg ?_ aN.o _; refine qAg ?_ aN.o _; refine qAg ?_ aN.o _; exact aD.o) hb) (a2 (qAd (g := aB) (o := .cells #[.string aY, .slice bE aV.length bA, .slice bI aW.length bD, .slice bJ aX.length bH] 27 (0, 0)) (by refine qAg ?_ aT.o _; refine qAg ?_ aT.o _; refine qAg ?_ aT.o _; refine qAg ?_ aT.o _; refine qAo (cs := #[.string aY, .slice bE aV.length bA, .slice bI aW.length bD, .slice none 0 0]) ?_ 3 _ rfl; refine qAo (cs := #[.string aY, .slice bE aV.length bA, .slice none 0 0, .slice none 0 0]) ?_ 2 _ rfl; refine qAo (cs := #[.string aY, .slice none 0 0, .slice none 0 0, .slice none 0 0]) ?_ 1 _ rfl; refine qAo (cs := #[.string ⟨#[]⟩, .slice none 0 0, .slice none 0 0, .slice none 0 0]) ?_ 0 _ rfl; exact aG.o) hb) (a2 (qAd (g := aA) (o := .cells #[.string aq, .slice ax ae.length ay, .slice bB al.length bC, .slice bF ar.length bG] 27 (0, 0)) (by refine qAo (cs := #[.string aq, .slice ax ae.length ay, .slice bB al.length bC, .slice none 0 0]) ?_ 3 _ rfl; refine qAo (cs := #[.string aq, .slice ax ae.length ay, .slice none 0 0, .slice none 0 0]) ?_ 2 _ rfl; refine qAo (cs := #[.string aq, .slice none 0 0, .slice none 0 0, .slice none 0 0]) ?_ 1 _ rfl; refine qAo (cs := #[.string ⟨#[]⟩, .slice none 0 0, .slice none 0 0, .slice none 0 0]) ?_ 0 _ rfl; refine qAg ?_ aU.o _; refine qAg ?_ aU.o _; refine qAg ?_ aU.o _; refine qAg ?_ aU.o _; exact aH.o) hb) (am (qAj (by repeat (with_reducible first | exact HB.o | refine qAq ?_ bS.o | refine qAq ?_ bT.o)) hb)))))))))))); clear aI aJ aK aQ aR aS aC aD aG aH HB; obtain ⟨aI, aJ, aK, aQ, aR, aS, aZ, aC, aD, aG, aH, HB⟩ := n_; obtain ⟨dW, dX, dY, dZ⟩ := c4_ em aH.o; have de := qAr aH.o 3) | ((with_reducible refine qAp (f := 9) rfl ?_); refine gL 24 Try.func9 #[.agg #[.string aq, .slice ax ae.length ay, .slice bB al.length bC, .slice bF ar.length bG]] ?_; (with_reducible refine (qA9.calls aq _ _ ae _ _ al _ _ ar cK cI _ ?side1 ?side2 ?side3 ?side4 ?side5 ?side6 A6.o).mono ?_); (case side1 => exact (Kd.R_reads' aQ.o).2.2); (case side2 => exact (Kd.R_reads' aQ.o).2.1); (case side3 => exact (Kd.S_reads' aR.o).2.2); (case side4 => exact (Kd.S_reads' aR.o).2.1); (case side5 => exact (Kd.R_reads' aS.o).2.2); (case side6 => exact (Kd.R_reads' aS.o).2.1); rintro e en ⟨cc, rfl, bb, hb⟩; refine ⟨_, rfl, ?_⟩; have n_ := a2 (Kd.R_below aI.o hb) (a2 (Kd.S_below aJ.o hb) (a2 (Kd.R_below aK.o hb) (a2 (Kd.R_below aQ.o hb) (a2 (Kd.S_below aR.o hb) (a2 (Kd.R_below aS.o hb) (a2 (Kd.R_elder' aZ.o (Kd.R_base bb) hb) (a2 (Kd.R_lower (Kd.R_new' bb (Kd.R_lt aZ.o)) (qAe HB.o)) (a2 (qAd (g := aE) (o := .cells #[.string a0_0, .slice a8 l0_1.length ab, .slice a9 l0_2.length ac, .slice aa l0_3.length ad] 39 (0, 0)) aC.o hb) (a2 (qAd (g := aF) (o := .cells #[.string a1_0, .slice af l1_1.length ai, .slice ag l1_2.length aj, .slice ah l1_3.length ak] 39 (0, 0)) aD.o hb) (a2 (qAd (g := aB) (o := .cells #[.string aY, .slice bE aV.length bA, .slice bI aW.length bD, .slice bJ aX.length bH] 27 (0, 0)) aG.o hb) (a2 (qAd (g := aA) (o := .cells #[.string aq, .slice ax ae.length ay, .slice bB al.length bC, .slice bF ar.length bG] 27 (0, 0)) aH.o hb) (am (qAj HB.o hb))))))))))))); clear aI aJ aK aQ aR aS aZ aC aD aG aH HB; obtain ⟨aI, aJ, aK, aQ, aR, aS, aZ, az, aC, aD, aG, aH, HB⟩ := n_; obtain ⟨ex, fE, dB⟩ := Kd.R_slice aZ.o; subst dB; obtain ⟨d2, d3, d4, d5⟩ := c4_ en aG.o; have df := qAr aG.o 3) | (go_at_call 11; (with_reducible refine (qAn.calls k aY _ _ aV _ _ aW _ _ aX bw _ ?side1 ?side2 ?side3 ?side4 ?side5 ?side6 cl.o).mono ?_); (case side1 => exact (Kd.R_reads' aI.o).2.2); (case side2 => exact (Kd.R_reads' aI.o).2.1); (case side3 => exact (Kd.S_reads' aJ.o).2.2); (case side4 => exact (Kd.S_reads' aJ.o).2.1); (case side5 => exact (Kd.R_reads' aK.o).2.2); (case side6 => exact (Kd.R_reads' aK.o).2.1); rintro e f0 ⟨rfl, hb⟩; have n_ := a2 (Kd.R_below aI.o hb) (a2 (Kd.S_below aJ.o hb) (a2 (Kd.R_below aK.o hb) (a2 (Kd.R_below aQ.o hb) (a2 (Kd.S_below aR.o hb) (a2 (Kd.R_below aS.o hb) (a2 (Kd.R_below aZ.o hb) (a2 (Kd.R_below az.o hb) (a2 (qAd (g := aE) (o := .cells #[.string a0_0, .slice a8 l0_1.length ab, .slice a9 l0_2.length ac, .slice aa l0_3.length ad] 39 (0, 0)) aC.o hb) (a2 (qAd (g := aF) (o := .cells #[.string a1_0, .slice af l1_1.length ai, .slice ag l1_2.length aj, .slice ah l1_3.length ak] 39 (0, 0)) aD.o hb) (a2 (qAd (g := aB) (o := .cells #[.string aY, .slice bE aV.length bA, .slice bI aW.length bD, .slice bJ aX.length bH] 27 (0, 0)) aG.o hb) (a2 (qAd (g := aA) (o := .cells #[.string aq, .slice ax ae.length ay, .slice bB al.length bC, .slice bF ar.length bG] 27 (0, 0)) aH.o hb) (am (qAj HB.o hb))))))))))))); clear aI aJ aK aQ aR aS aZ az aC aD aG aH HB; obtain ⟨aI, aJ, aK, aQ, aR, aS, aZ, az, aC, aD, aG, aH, HB⟩ := n_; (skip)) | (go_at_call 8; (with_reducible refine (qAt.calls k  cE _ eX.o).mono ?_); rintro e f1 ⟨rfl, hb⟩; have n_ := am (qAj HB.o hb); clear aI aJ aK aQ aR aS aZ az aC aD aG aH HB; have HB := n_; clear n_; (skip)))
    go_ret
    exact ⟨by rfl, by exact HB.o⟩
  ·rw [if_neg c1] at H
   exact absurd H (by simp)
end Q
end
section
namespace Q
open Go.RowKit PA PB PC
open DecLaw Val Ins Wr Enc
theorem qCI.small {m : ByteArray} {vs : List S71} {fs : List S80} {rs : List S82} (h : qCI m vs fs rs) : smallO vs fs rs := by
 have h1 := h.vl
 have h2 := h.fl
 exact ⟨by omega, by omega, h.rl, fun x hx => by obtain ⟨_, a, b, c, _⟩ := h.f x hx; exact ⟨a, b, c⟩⟩
theorem same_eq {m : ByteArray} {vs : List S71} {fs : List S80} {rs : List S82} (h : qCI m vs fs rs) (m' : ByteArray) (vs' : List S71) (fs' : List S80) (rs' : List S82) : qAK.f m vs fs rs m' vs' fs' rs' = some (sameO m vs fs rs m' vs' fs' rs') := by
 unfold qAK.f
 rw [if_pos h.small]
theorem pack_eq {m : ByteArray} {vs : List S71} {fs : List S80} {rs : List S82} (h : qCI m vs fs rs) : qA9.f m vs fs rs = some (if qBI m vs fs rs ≠ 0 then ([], qBI m vs fs rs) else if 16384 < (qB6 m vs fs rs).length then ([], 3) else (qB6 m vs fs rs, 0)) := by
 unfold qA9.f
 rw [if_pos h]
 (repeat' split) <;> rfl
theorem qDv {m : ByteArray} {vs : List S71} {fs : List S80} {rs : List S82} (h : qCi m vs fs rs) (hg : qCI m vs fs rs) : qBh (qB6 m vs fs rs) := by
 have be_b : ∀ (n : Int) (k : Nat), qBh (be n k k) := be_bytes
 have raw_b : ∀ s : ByteArray, qBh (rawB (qBt s)) := fun s x hx => by
  unfold rawB at hx
  rcases List.mem_append.1 hx with h | h
  ·exact be_b _ _ x h
  obtain ⟨y, _, rfl⟩ := List.mem_map.1 (show x ∈ s.data.toList.map (fun y : UInt8 => (y.toNat : Int)) from h)
  have := y.toNat_lt
  constructor <;> omega
 have one_b : ∀ n : Int, qBh [n % 256] := fun n x hx => by rw [List.mem_singleton.1 hx]; omega
 have app : ∀ {a b : List Int}, qBh a → qBh b → qBh (a ++ b) := fun ha hb x hx => (List.mem_append.1 hx).elim (ha x) (hb x)
 have flat : ∀ {α : Type} (f : α → List Int) (l : List α), (∀ x ∈ l, qBh (f x)) → qBh (l.flatMap f) := fun f l hf x hx => by
  obtain ⟨y, hy, hxy⟩ := List.mem_flatMap.1 hx
  exact hf y hy x hxy
 have byb : ∀ l : List Int, qBh (byB l) := fun l x hx => by
  obtain ⟨y, _, rfl⟩ := List.mem_map.1 hx
  omega
 have rawl : ∀ l : List Int, qBh l → qBh (rawB l) := fun l hl => app (be_b _ _) hl
 have ins : ∀ x : InsD, qBh (insB x) := fun x y hy => by
  unfold insB at hy
  rcases List.mem_cons.1 hy with h | h
  ·rw [h]; omega
  split at h
  ·rcases List.mem_cons.1 h with h | h
   ·rw [h]; omega
   exact be_b _ _ y h
  exact be_b _ _ y h
 unfold qB6
 refine app (by unfold qBh; decide) (app (raw_b m) (app (app (be_b _ _) (flat _ _ fun x _ => ?_)) (app (app (be_b _ _) (flat _ _ fun x _ => ?_)) (app (be_b _ _) (flat _ _ fun x _ => ?_)))))
 ·exact app (raw_b _) (app (one_b _) (be_b _ _))
 ·unfold nfnB fnB
  exact app (raw_b _) (app (app (app (app (app (one_b _) (byb _)) (one_b _)) (one_b _)) (byb _)) (rawl _ (flat _ _ fun y _ => ins y)))
 exact app (be_b _ _) (app (be_b _ _) (app (one_b _) (app (raw_b _) (raw_b _))))
theorem back_told {m : ByteArray} {vs : List S71} {fs : List S80} {rs : List S82} (hg : qCI m vs fs rs) (h0 : qBI m vs fs rs = 0) (hl : ¬ 16384 < (qB6 m vs fs rs).length) : Ev (fun k => qAc.f k (qB6 m vs fs rs)) (m, vs, fs, rs, 0) := by
 have h := qCi.of h0
 have hw := h.whole hg (by omega)
 have ht := tailP_ev m vs fs rs hg hl
 rw [if_pos h0] at ht
 exact unpack_ev _ (qDv h hg) _ hl ⟨fun o ho => by rw [hw] at ho; obtain rfl := Option.some.inj ho; exact ht, fun hn => by rw [hw] at hn; cases hn⟩
theorem strOf_iff {a b : List Int} (ha : qBh a) (hb : qBh b) : ((strOfNums a).toList == (strOfNums b).toList) = eqB a b := by
 symm
 refine qCE ?_
 rw [beq_iff_eq, qCg]
 constructor
 ·intro h
  have := congrArg qBt h
  rwa [qDX a ha, qDX b hb] at this
 intro h; rw [h]
theorem back_core {m : ByteArray} {vs : List S71} {fs : List S80} {rs : List S82} {m' : ByteArray} {vs' : List S71} {fs' : List S80} {rs' : List S82} (g : qCI m vs fs rs) (g' : qCI m' vs' fs' rs') (h0 : qBI m vs fs rs = 0) (h0' : qBI m' vs' fs' rs' = 0)
  (hl : ¬ 16384 < (qB6 m vs fs rs).length) (hl' : ¬ 16384 < (qB6 m' vs' fs' rs').length) : sameO m vs fs rs m' vs' fs' rs' = eqB (qB6 m vs fs rs) (qB6 m' vs' fs' rs') := by
 refine qCE ?_
 rw [qB2]
 constructor
 ·intro h
  have h1 := (qCi.of h0).whole g (by omega)
  have h2 := (qCi.of h0').whole g' (by omega)
  rw [h, h2] at h1
  exact (Option.some.inj h1).symm
 ·intro h
  injection h with e0 h; injection h with e1 h; injection h with e2 e3
  rw [e0, e1, e2, e3]
theorem back_ev (m : ByteArray) (vs : List S94) (fs : List S100) (rs : List S102) (g : qBm 1048576 ⟨m, vs, fs, rs⟩) (m' : ByteArray) (vs' : List S94) (fs' : List S100) (rs' : List S102) (g' : qBm 1048576 ⟨m', vs', fs', rs'⟩) : Ev (fun k => foundrylaw15_ObjectBack.f k m vs fs rs m' vs' fs' rs') true := by
 have hx : ∀ {m : ByteArray} {vs : List S94} {fs : List S100} {rs : List S102} (g : qBm 1048576 ⟨m, vs, fs, rs⟩), ∀ x ∈ fs, x.f1.f0.f0.length ≤ 1048576 ∧ x.f1.f1.length ≤ 1048576 ∧ x.f1.f2.length ≤ 1048576 := fun g x hx => by
  obtain ⟨_, ⟨⟨h1, _⟩, _⟩, ⟨h2, _⟩, ⟨h3, _⟩⟩ := g.2.2.1.2 x hx
  exact ⟨h1, h2, h3⟩
 have ho := own_ev m vs fs rs g.2.2.2.1 g.2.2.1.1 g.2.1.1 (hx g)
 have ho' := own_ev m' vs' fs' rs' g'.2.2.2.1 g'.2.2.1.1 g'.2.1.1 (hx g')
 have hg := own_good m vs fs rs g
 have hg' := own_good m' vs' fs' rs' g'
 unfold foundrylaw15_ObjectBack.f
 refine Ev.bind ho (Ev.bind ho' ?_)
 generalize vs.map ofRV = V at hg ⊢
 generalize fs.map ofRN = F at hg ⊢
 generalize rs.map ofRR = R at hg ⊢
 generalize vs'.map ofRV = V' at hg' ⊢
 generalize fs'.map ofRN = F' at hg' ⊢
 generalize rs'.map ofRR = R' at hg' ⊢
 clear ho ho' hx g g'
 have hp := pack_eq hg
 have hp' := pack_eq hg'
 simp only [hp, hp', Option.bind_some]
 by_cases h0 : qBI m V F R = 0
 rotate_left
 ·simp only [h0, ne_eq, not_false_eq_true, if_true, if_false, List.length_nil, Int.natCast_zero]
  refine Ev.bind (qEs m V F R hg) ?_
  simp only [h0, if_false]
  exact Ev.bind alive_ev (Ev.now _)
 by_cases hl : 16384 < (qB6 m V F R).length
 ·simp only [h0, hl, ne_eq, not_true_eq_false, if_false, if_true, List.length_nil, show ¬ ((3 : Int) = 0) from by decide, Int.natCast_zero]
  have hr := qEs m V F R hg
  refine Ev.bind hr ?_
  simp only [h0, if_true]
  exact Ev.bind alive_ev (Ev.now _)
 simp only [h0, hl, ne_eq, not_true_eq_false, if_false, if_true]
 refine Ev.bind (back_told hg h0 hl) ?_
 simp only [if_true, same_eq hg, Option.bind_some, show sameO m V F R m V F R = true from qB2.2 rfl]
 refine Ev.bind (qEs m V F R hg) ?_
 simp only [h0, if_true]
 refine Ev.bind alive_ev ?_
 simp only [if_true]
 by_cases h0' : qBI m' V' F' R' = 0
 rotate_left
 ·simp only [h0', not_false_eq_true, if_true, if_false]
  exact Ev.now _
 by_cases hl' : 16384 < (qB6 m' V' F' R').length
 ·simp only [h0', hl', not_true_eq_false, if_false, if_true, show ¬ ((3 : Int) = 0) from by decide]
  exact Ev.now _
 simp only [h0', hl', not_true_eq_false, if_false, if_true]
 rw [strOf_iff (qDv (qCi.of h0) hg) (qDv (qCi.of h0') hg'), back_core hg hg' h0 h0' hl hl']
 refine Ev.congr (f := fun _ => some true) (fun k => ?_) (Ev.now _)
 rw [beq_self_eq_true]
end Q
end
end Go.Proofs.Ytfjpnjbinbhcfaa
