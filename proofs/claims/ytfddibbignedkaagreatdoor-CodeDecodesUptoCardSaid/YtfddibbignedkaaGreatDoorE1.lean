/- CodeDecodes, where what it reads is of bulk at most 1048576: any bytes: the program's Decode and the document's make the same instructions of them, or the same error. -/
import Derived.Test.YtfddibbignedkaaGreatDoorD1
import Derived.Test.YtfddibbignedkaaGreatDoorCards
import Derived.Test.YtfddibbignedkaaGreatDoorTie
import Derived.WalkKit
import Derived.ProofKit
import Derived.OpenShut
import Derived.ShutString
import Derived.Below
import Derived.LaidMore
import Derived.Lay
import Derived.SevenTiedAt
import Derived.Stop.Joined
import Derived.MakeChecks
import Derived.JoinedCond
import Derived.Deep.DeepHandedRow
set_option maxHeartbeats 8000000
set_option maxRecDepth 100000
set_option linter.unusedVariables false
set_option linter.unusedSimpArgs false
namespace Go.Proofs.YtfddibbignedkaaGreatDoor
section
namespace Q
open Go.RowKit YA YC YB
attribute [local go_sem] max2_int min2_int max_two min_two max_three min_three max_four min_four
mutual
def qAf.l0 : Nat → List Int → List (S50) → Option ((List (S50)) × Int)
 | 0, _, _ => none
 | k + 1, x0, x4 => if (x0.length : Int) > 0 then (if 0 < (x0.length : Int) then ((qBv.f (wrap64 (rd x0 0)) 0 0 0).bind fun aI => (if aI = 0 then (qAf.j1 k x0 x4 aI true (wrap64 (rd x0 0)) 0 0 0) else (qAf.j1 k x0 x4 aI (decide (aI > (x0.length : Int))) (wrap64 (rd x0 0)) 0 0 0))) else (none)) else (some (x4, 0))
def qAf.j1 : Nat → List Int → List (S50) → Int → Bool → Int → Int → Int → Int → Option ((List (S50)) × Int)
 | 0, _, _, _, _, _, _, _, _ => none
 | k + 1, x0, x4, x6, dD, aQ, aT, aV, aU => if dD = true then (some (([] : List (S50)), 51)) else (if aQ = 1 then (if 1 < (x0.length : Int) then (qAf.l1 k x0 x4 x6 2 aQ aT (wrap64 (rd x0 1)) aU) else (none)) else (qAf.l2 k x0 x4 x6 1 aQ aT aV aU))
def qAf.j4 : Nat → List Int → List (S50) → Int → Int → Int → Int → Int → Option ((List (S50)) × Int)
 | 0, _, _, _, _, _, _, _ => none
 | k + 1, x0, x4, x6, aQ, aT, aV, aU => (qAK.f aQ aT aV aU).bind fun bC => (if bC = true then (if (x4.length : Int) = 4096 then (some (([] : List (S50)), 3)) else (if x4.length < 4398046511104 then (if 0 ≤ x6 then (if x6 ≤ (x0.length : Int) then (qAf.l0 k (x0.drop (x6 : Int).toNat) (x4 ++ [(⟨aQ, aT, (⟨aV, aU⟩ : S48)⟩ : S50)])) else (none)) else (none)) else (none))) else (some (([] : List (S50)), 51)))
def qAf.l1 : Nat → List Int → List (S50) → Int → Int → Int → Int → Int → Int → Option ((List (S50)) × Int)
 | 0, _, _, _, _, _, _, _, _ => none
 | k + 1, x0, x4, x6, x7, aQ, aT, aV, aU => if x7 < 10 then (if 0 ≤ x7 then (if x7 < (x0.length : Int) then (qAf.l1 k x0 x4 x6 (wrap64 (x7 + 1)) aQ aT aV (Go.bits .or .u64 (IntKind.u64.wrap (aU * 256)) (IntKind.u64.wrap (rd x0 x7)))) else (none)) else (none)) else (qAf.j4 k x0 x4 x6 aQ aT aV aU)
def qAf.l2 : Nat → List Int → List (S50) → Int → Int → Int → Int → Int → Int → Option ((List (S50)) × Int)
 | 0, _, _, _, _, _, _, _, _ => none
 | k + 1, x0, x4, x6, x8, aQ, aT, aV, aU => if x8 < x6 then (if 0 ≤ x8 then (if x8 < (x0.length : Int) then (qAf.l2 k x0 x4 x6 (wrap64 (x8 + 1)) aQ (Go.bits .or .i64 (wrap64 (aT * 256)) (wrap64 (rd x0 x8))) aV aU) else (none)) else (none)) else (qAf.j4 k x0 x4 x6 aQ aT aV aU)
end
def qAf.f (k : Nat) (l0 : List Int) : Option ((List (S50)) × Int) := qAf.l0 k l0 ([] : List (S50))
def qAf.T12 : Bool × List (List Nat × List Nat) := (true, [([], []), ([0], [0]), ([1], [1]), ([2], [2]), ([], []), ([], []), ([4, 5], [4, 5]), ([6], [6]), ([7], [7]), ([3, 8], [3, 8]), ([0, 1, 2, 3, 4, 5, 6, 7, 8, 9], []), ([10, 0, 1, 2, 3, 4, 5, 6, 7, 8, 9], [10]), ([11, 9, 0, 1, 2, 3, 4, 5, 6, 7, 8, 9], [9, 11])])
def qAf.B12 : List Nat := [0, 1, 3, 7, 0, 0, 48, 112, 240, 511, 1023, 2047, 4095]
theorem qAf.tab12 : rtab .any (opsOf Tryz.f40 12) = qAf.T12 := by kernel_rfl
theorem qAf.bits12 : qCd qAf.T12.2 qAf.B12 = true := by kernel_rfl
def qAf.T16 : Bool × List (List Nat × List Nat) := (true, [([], []), ([0], [0]), ([1], [1]), ([], []), ([], []), ([3, 4], [3, 4]), ([5], [5]), ([6], [6]), ([2, 7], [2, 7]), ([0, 1, 2, 3, 4, 5, 6, 7, 8], []), ([9, 8, 0, 1, 2, 3, 4, 5, 6, 7, 8], [8, 9])])
def qAf.B16 : List Nat := [0, 1, 3, 0, 0, 24, 56, 120, 255, 511, 1023]
theorem qAf.tab16 : rtab .any (opsOf Tryz.f40 16) = qAf.T16 := by kernel_rfl
theorem qAf.bits16 : qCd qAf.T16.2 qAf.B16 = true := by kernel_rfl
theorem qAf.calls (k : Nat) (P0_ : Nat → Prop) (A0 : Option Addr) (c0 : Nat) (l0 : List Int) (r1 : List (S50)) (r2 : Int) (w : World) (hs0 : Kd.V (Kd.int .u8) 5 w w.heap.size (fun k_ => P0_ k_) (.slice A0 l0.length c0) l0) (h : qAf.f k l0 = some (r1, r2)) :
  Calls Tryz.prog 40 #[.slice A0 l0.length c0] w fun e w' => ∃ v0_ : Value, e = .returned (.tuple #[v0_, .int .i64 r2]) ∧ Kd.R k50 50 w' w.heap.size (fun k_ => (w.heap.size ≤ k_)) v0_ r1 ∧ Below w.heap.size w w' := by
 have cv := am (show Kd.V (Kd.int .u8) 5 w w.heap.size (fun k_ => (P0_ k_ ∨ w.heap.size ≤ k_)) (.slice A0 l0.length c0) l0 from Kd.V_mono hs0 (fun k_ hk => .inl hk))
 have HB := am (Below.refl w.heap.size w)
 have H : (qAf.l0 k l0 ([] : List (S50))) = some (r1, r2) := h
 clear h
 have H' := am H
 clear H
 go_enter Tryz.func40, Tryz.ntmps40
 go_wp2
 go_loopg [0, 4] k (fun kq v0 v4 w' => ∃ (aA : List Int) (aR : List (S50)), qAd (qAf.l0 kq aA aR = some (r1, r2)) ∧ qAd (kq ≤ k) ∧ qAd (Kd.V (Kd.int .u8) 5 w' w.heap.size (fun k_ => (P0_ k_ ∨ w.heap.size ≤ k_) ∧ some k_ ≠ (v4 : Value).ownBlock) v0 aA) ∧ qAd (Kd.R k50 50 w' w.heap.size (fun k_ => (w.heap.size ≤ k_)) v4 aR) ∧ qAd (Below w.heap.size w w'))
 case atStart => exact ⟨(l0), (([] : List (S50))), H', ⟨Nat.le_refl _⟩, ⟨by (with_reducible repeat (fail)); exact Kd.V_mono cv.o (fun _ hk => ⟨hk, (by simp [Value.ownBlock])⟩)⟩, ⟨by (exact Kd.R_nil _ _ _ _ _)⟩, ⟨by repeat ((with_reducible (exact HB.o)))⟩⟩
 case round =>
  clear H'
  obtain ⟨aA, aR, HA, al, aJ, aK, HB⟩ := hrel
  cases gk with
  | zero => exact absurd HA.o (by simp [qAf.l0])
  | succ k1 =>
   have H := HA.o
   clear HA
   simp only [qAf.l0] at H
   by_cases c2 : (aA.length : Int) > 0
   rotate_left
   ·rw [if_neg c2] at H
    have bi : decide (0 < aA.length) = false := decide_eq_false (by omega)
    clear c2
    simp only [Option.some.injEq, Prod.mk.injEq] at H
    obtain ⟨rfl, rfl⟩ := H
    obtain ⟨cu, cy, ce⟩ := Kd.V_slice aJ.o
    subst ce
    go_wp2
    go_ret2
    exact ⟨_, by (rfl), by (with_reducible repeat (fail)); exact aK.o, by repeat ((with_reducible (exact HB.o)))⟩
   rw [if_pos c2] at H
   have cT := d1 c2
   have bi : decide (0 < aA.length) = true := decide_eq_true (by omega)
   clear c2
   obtain ⟨c3, H⟩ := gd H
   have cU := d1 c3
   have cV : decide (0 < aA.length) = true := decide_eq_true (by omega)
   clear c3
   replace H := bm H
   obtain ⟨aI, ch, H⟩ := H
   replace H : (if aI = 0 then (qAf.j1 k1 aA aR aI true (wrap64 (rd aA 0)) 0 0 0) else (qAf.j1 k1 aA aR aI (decide (aI > (aA.length : Int))) (wrap64 (rd aA 0)) 0 0 0)) = some (r1, r2) := H
   have A4 := am ch
   clear ch
   have cS := am H
   clear H
   obtain ⟨dE, an, cz⟩ := Kd.V_slice aJ.o
   subst cz
   have ay : 0 ≤ (0 : Int) := (by omega)
   have bA : 0 < (aA.length : Int) := of_decide_eq_true (by (with_reducible assumption))
   obtain ⟨aW, cX, a9⟩ := Kd.at_int (Kd.V_reads' aJ.o).2.2 0 ay bA
   cases cX
   have qi825 : (0 < aA.length) = True := eq_true (by omega)
   (try rw [show ((0 : Int)).toNat = 0 from rfl] at a9)
   (try rw [Addr.add_zero'] at a9)
   replace ay := eq_true ay
   replace bA := eq_true bA
   go_upto_region 5 with (first | ((with_reducible refine qAV (N := 5) rfl ?_); (try (refine qBw (by rfl) ?_; dsimp only)); refine bx 5 #[.int .i64 0, .int .i64 0, .int .i64 0, .int .u64 0] 50 ?_; intro aH hg w7 hbox hb; have n0_ := am (Kd.V_below (Kd.V_elderB (by (with_reducible repeat (fail)); exact aJ.o) aH (Nat.le_of_eq hg.symm)) hb); have n1_ := am (Kd.R_below (Kd.R_elderB (by (with_reducible repeat (fail)); exact aK.o) aH (Nat.le_of_eq hg.symm)) hb); have n2_ := am (qAq (by repeat ((with_reducible (exact HB.o)))) hb); have n3_ := am (hbox); have n4_ := am ((by rw [hg]; exact (qAm (by repeat ((with_reducible (exact HB.o))))) : w.heap.size ≤ aH)); have n5_ := am ((by rw [hg]; exact (qAm (by repeat ((with_reducible (exact HB.o))))) : w.heap.size ≤ aH)); clear aJ; clear aK; clear HB; have aJ := n0_; have aK := n1_; have HB := n2_; have aG := n3_; have ac := n5_; clear n0_ n1_ n2_ n3_ n4_ n5_; clear hb hbox hg; obtain ⟨bJ, bK, bL, bM⟩ := c4_ w7 aG.o; obtain ⟨bN, bO, bP, bQ⟩ := z4_ aG.o) | ((with_reducible refine qA7 (f := 25) rfl ?_); refine gL 18 Tryz.func25 #[.agg #[.int .i64 (wrap64 (rd aA 0)), .int .i64 0, .int .i64 0, .int .u64 0]] ?_; (with_reducible refine (qBv.calls (wrap64 (rd aA 0)) 0 0 0 aI _ A4.o).mono ?_); rintro e w9 ⟨rfl, hb⟩; refine ⟨_, rfl, ?_⟩; have n0_ := am (Kd.V_below (by (with_reducible repeat (fail)); exact (Kd.V_mono (Kd.V_far (p := ⟨aH, 3, none⟩) (Kd.V_far (p := ⟨aH, 2, none⟩) (Kd.V_far (p := ⟨aH, 1, none⟩) (Kd.V_far (p := ⟨aH, 0, none⟩) (Kd.V_mono aJ.o (fun k_ hk => (⟨hk, hk.2⟩ : _ ∧ k_ ≠ aH))) (fun _ hk => hk.2) (.int .i64 (wrap64 (rd aA 0)))) (fun _ hk => hk.2) (.int .i64 0)) (fun _ hk => hk.2) (.int .i64 0)) (fun _ hk => hk.2) (.int .u64 0)) (fun _ h_ => h_.1))) hb); have n1_ := am (Kd.R_below (by (with_reducible repeat (fail)); exact (Kd.R_mono (Kd.R_far (p := ⟨aH, 3, none⟩) (Kd.R_far (p := ⟨aH, 2, none⟩) (Kd.R_far (p := ⟨aH, 1, none⟩) (Kd.R_far (p := ⟨aH, 0, none⟩) (Kd.R_mono aK.o (fun k_ hk => (⟨hk, hk.2⟩ : _ ∧ k_ ≠ aH))) (fun _ hk => hk.2) (.int .i64 (wrap64 (rd aA 0)))) (fun _ hk => hk.2) (.int .i64 0)) (fun _ hk => hk.2) (.int .i64 0)) (fun _ hk => hk.2) (.int .u64 0)) (fun _ h_ => h_.1))) hb); have n2_ := am (qAk (g := aH) (o := .cells #[.int .i64 (wrap64 (rd aA 0)), .int .i64 0, .int .i64 0, .int .u64 0] 50 (0, 0)) (by (with_reducible repeat (fail)); refine qAQ (cs := #[.int .i64 (wrap64 (rd aA 0)), .int .i64 0, .int .i64 0, .int .u64 0]) ?_ 3 _ rfl; (with_reducible repeat (fail)); refine qAQ (cs := #[.int .i64 (wrap64 (rd aA 0)), .int .i64 0, .int .i64 0, .int .u64 0]) ?_ 2 _ rfl; (with_reducible repeat (fail)); refine qAQ (cs := #[.int .i64 (wrap64 (rd aA 0)), .int .i64 0, .int .i64 0, .int .u64 0]) ?_ 1 _ rfl; (with_reducible repeat (fail)); refine qAQ (cs := #[.int .i64 0, .int .i64 0, .int .i64 0, .int .u64 0]) ?_ 0 _ rfl; (with_reducible repeat (fail)); exact aG.o) hb); have n3_ := am (qAq (by repeat ((with_reducible first | exact HB.o | refine qAi ?_ ac.o))) hb); clear aJ; clear aK; clear aG; clear HB; have aJ := n0_; have aK := n1_; have aG := n2_; have HB := n3_; clear n0_ n1_ n2_ n3_; (skip); (skip); (skip)))
   (skip)
   go_cut [26] (fun dA wc => ∃ (kq : Nat) (ag : Bool), dA = .bool ag ∧ qAd (qAf.j1 kq aA aR aI ag (wrap64 (rd aA 0)) 0 0 0 = some (r1, r2)) ∧ qAd (kq ≤ k1) ∧ qAd (Kd.V (Kd.int .u8) 5 wc w.heap.size (fun k_ => (P0_ k_ ∨ w.heap.size ≤ k_) ∧ some k_ ≠ (u4 : Value).ownBlock ∧ k_ ≠ aH) (.slice (some aW) aA.length an) aA) ∧ qAd (Kd.R k50 50 wc w.heap.size (fun k_ => (w.heap.size ≤ k_) ∧ k_ ≠ aH) u4 aR) ∧ qAd (wc.heap[aH]? = some (.cells #[.int .i64 (wrap64 (rd aA 0)), .int .i64 0, .int .i64 0, .int .u64 0] 50 (0, 0))) ∧ qAd (Below w.heap.size w wc))
   case first =>
    have H := cS.o
    clear cS
    by_cases c10 : aI = 0
    ·rw [if_pos c10] at H
     have ba : (aI == 0) = true := beq_iff_eq.mpr c10
     clear c10
     ((skip))
     have H' := am H
     clear H
     go_wp2
     go_meet
     case rel => exact ⟨_, (true), (by (rfl)), H', ⟨by have := al.o; (omega)⟩, ⟨by (with_reducible repeat (fail)); exact Kd.V_mono aJ.o (fun _ hk => ⟨hk.1.1, ⟨hk.1.2, hk.2⟩⟩)⟩, ⟨by (with_reducible repeat (fail)); exact aK.o⟩, ⟨by (with_reducible repeat (fail)); exact aG.o⟩, ⟨by repeat ((with_reducible (exact HB.o)))⟩⟩
    rw [if_neg c10] at H
    have ba : (aI == 0) = false := bf c10
    ((skip))
    have H' := am H
    clear H
    go_wp2
    go_meet
    case rel => exact ⟨_, (decide (aI > (aA.length : Int))), (by (rfl)), H', ⟨by have := al.o; (omega)⟩, ⟨by (with_reducible repeat (fail)); exact Kd.V_mono aJ.o (fun _ hk => ⟨hk.1.1, ⟨hk.1.2, hk.2⟩⟩)⟩, ⟨by (with_reducible repeat (fail)); exact aK.o⟩, ⟨by (with_reducible repeat (fail)); exact aG.o⟩, ⟨by repeat ((with_reducible (exact HB.o)))⟩⟩
   case rest =>
    clear cS
    skip
    skip
    skip
    skip
    skip
    skip
    skip
    skip
    skip
    skip
    skip
    skip
    skip
    obtain ⟨kq, ag, rfl, HA, bD, aJ, aK, aG, HB⟩ := hcut
    cases kq with
    | zero => exact absurd HA.o (by simp [qAf.j1])
    | succ bS =>
     have H := HA.o
     clear HA
     simp only [qAf.j1] at H
     by_cases bk : ag = true
     ·subst bk
      replace H : (some (([] : List (S50)), 51)) = some (r1, r2) := by rw [if_pos rfl] at H; exact H
      simp only [Option.some.injEq, Prod.mk.injEq] at H
      obtain ⟨rfl, rfl⟩ := H
      go_wp2
      go_ret2
      exact ⟨_, by (rfl), by (exact Kd.R_nil _ _ _ _ _), by repeat ((with_reducible (exact HB.o)))⟩
     replace bk := Bool.eq_false_iff.mpr bk
     subst bk
     replace H : (if (wrap64 (rd aA 0)) = 1 then (if 1 < (aA.length : Int) then (qAf.l1 bS aA aR aI 2 (wrap64 (rd aA 0)) 0 (wrap64 (rd aA 1)) 0) else (none)) else (qAf.l2 bS aA aR aI 1 (wrap64 (rd aA 0)) 0 0 0)) = some (r1, r2) := by rw [if_neg (show ¬ (false = true) by decide)] at H; exact H
     have bH := am H
     clear H
     obtain ⟨aZ, a1, a3, a4⟩ := c4_ wc aG.o
     obtain ⟨a5, a6, a7, a8⟩ := z4_ aG.o
     go_upto_if 29 with (fail)
     go_cut [] (fun wc => ∃ (kq : Nat) (aC : Int) (aD : Int) (aE : Int), qAd (qAf.j4 kq aA aR aI (wrap64 (rd aA 0)) aC aD aE = some (r1, r2)) ∧ qAd (kq ≤ bS) ∧ qAd (Kd.V (Kd.int .u8) 5 wc w.heap.size (fun k_ => (P0_ k_ ∨ w.heap.size ≤ k_) ∧ some k_ ≠ (u4 : Value).ownBlock ∧ k_ ≠ aH) (.slice (some aW) aA.length an) aA) ∧ qAd (Kd.R k50 50 wc w.heap.size (fun k_ => (w.heap.size ≤ k_) ∧ k_ ≠ aH) u4 aR) ∧ qAd (wc.heap[aH]? = some (.cells #[.int .i64 (wrap64 (rd aA 0)), .int .i64 aC, .int .i64 aD, .int .u64 aE] 50 (0, 0))) ∧ qAd (Below w.heap.size w wc))
     case first =>
      have H := bH.o
      clear bH
      by_cases bF : (wrap64 (rd aA 0)) = 1
      rotate_left
      ·rw [if_neg bF] at H
       have aa : ((wrap64 (rd aA 0)) == 1) = false := bf bF
       have ah : ((wrap64 (rd aA 0)) != 1) = true := bne_iff_ne.mpr bF
       ((rw [aa]))
       have H' := am H
       clear H
       go_wp2
       go_loopg [8] bS (fun kq v8 w' => ∃ (aY : Int) (aM : Int), v8 = .int .i64 aY ∧ qAd (qAf.l2 kq aA aR aI aY (wrap64 (rd aA 0)) aM 0 0 = some (r1, r2)) ∧ qAd (kq ≤ bS) ∧ qAd (Kd.V (Kd.int .u8) 5 w' w.heap.size (fun k_ => (P0_ k_ ∨ w.heap.size ≤ k_) ∧ some k_ ≠ (u4 : Value).ownBlock ∧ k_ ≠ aH) (.slice (some aW) aA.length an) aA) ∧ qAd (Kd.R k50 50 w' w.heap.size (fun k_ => (w.heap.size ≤ k_) ∧ k_ ≠ aH) u4 aR) ∧ qAd (w'.heap[aH]? = some (.cells #[.int .i64 (wrap64 (rd aA 0)), .int .i64 aM, .int .i64 0, .int .u64 0] 50 (0, 0))) ∧ qAd (Below w.heap.size w w'))
       case atStart => exact ⟨(1), (0), (by (rfl)), H', ⟨Nat.le_refl _⟩, ⟨by (with_reducible repeat (fail)); exact aJ.o⟩, ⟨by (with_reducible repeat (fail)); exact aK.o⟩, ⟨by (with_reducible repeat (fail)); exact aG.o⟩, ⟨by repeat ((with_reducible (exact HB.o)))⟩⟩
       case round =>
        clear H'
        skip
        skip
        skip
        skip
        skip
        skip
        skip
        skip
        skip
        skip
        skip
        skip
        skip
        skip
        skip
        skip
        skip
        skip
        skip
        skip
        skip
        skip
        skip
        skip
        skip
        skip
        skip
        skip
        skip
        skip
        skip
        skip
        skip
        skip
        skip
        skip
        skip
        skip
        skip
        skip
        skip
        skip
        skip
        skip
        skip
        skip
        skip
        skip
        skip
        skip
        skip
        skip
        skip
        skip
        skip
        skip
        obtain ⟨aY, aM, rfl, HA, bI, aJ, aK, aG, HB⟩ := hrel
        cases gk with
        | zero => exact absurd HA.o (by simp [qAf.l2])
        | succ k3 =>
         have H := HA.o
         clear HA
         simp only [qAf.l2] at H
         by_cases bZ : aY < aI
         rotate_left
         ·rw [if_neg bZ] at H
          replace bZ := d0 bZ
          have H' := am H
          clear H
          go_wp2
          go_meet
          case rel => exact ⟨_, (aM), (0), (0), H', ⟨by have := al.o; have := bD.o; have := bI.o; (omega)⟩, ⟨by (with_reducible repeat (fail)); exact aJ.o⟩, ⟨by (with_reducible repeat (fail)); exact aK.o⟩, ⟨by (with_reducible repeat (fail)); exact aG.o⟩, ⟨by repeat ((with_reducible (exact HB.o)))⟩⟩
         rw [if_pos bZ] at H
         replace bZ := d1 bZ
         obtain ⟨bq, H⟩ := gd H
         replace bq := d1 bq
         obtain ⟨br, H⟩ := gd H
         replace br := d1 br
         have H' := am H
         clear H
         try go_wp2
         have n0_ := am (Kd.V_drew aJ.o)
         have n1_ := am (Kd.R_drew aK.o)
         have n2_ := am (qAt aG.o)
         have n3_ := am (qAj HB.o)
         clear aJ
         clear aK
         clear aG
         clear HB
         have aJ := n0_
         have aK := n1_
         have aG := n2_
         have HB := n3_
         clear n0_ n1_ n2_ n3_
         have bU : 0 ≤ (aY : Int) := of_decide_eq_true (by (with_reducible assumption))
         have bW : aY < (aA.length : Int) := of_decide_eq_true (by (with_reducible assumption))
         obtain ⟨b9, ca, af⟩ := Kd.at_int (Kd.V_reads' aJ.o).2.2 aY bU bW
         obtain rfl : aW = b9 := (by injection ca)
         replace bU := eq_true bU
         replace bW := eq_true bW
         refine qCi (n := 11) (S := fun w' => w'.cell? ⟨aH, 0, none⟩ = some (.int .i64 (wrap64 (rd aA 0))) ∧ w'.cell? ⟨aH, 1, none⟩ = some (.int .i64 aM) ∧ w'.cell? ⟨aH, 2, none⟩ = some (.int .i64 0) ∧ w'.cell? ⟨aH, 3, none⟩ = some (.int .u64 0) ∧ w'.cell? (aW.add (aY).toNat) = some (.int .u8 (rd aA aY))) (ds := [10]) (mK 11 0) (by kernel_rfl) rfl rfl ⟨(qAa aG.o 0).trans rfl, (qAa aG.o 1).trans rfl, (qAa aG.o 2).trans rfl, (qAa aG.o 3).trans rfl, af⟩ (fun hHeld => ?_); refine qBn qAf.tab16 qAf.bits16 (fun HT_ HW_ => ?_)
         generalize wr.drew = dG at aJ aK aG HB af hHeld ⊢
         refine pu 0 57 (mK 11 1) (qAh HT_.o (by kernel_rfl)) ?_
         refine pu 3 60 (mK 11 9) (qAh HT_.o (by kernel_rfl)) ?_
         refine pu 4 61 (mK 11 25) (qAh HT_.o (by kernel_rfl)) ?_
         refine pu 5 62 (mK 11 57) (qAh HT_.o (by kernel_rfl)) ?_
         refine tk 1 58 (mK 11 59) (qA6 HT_.o HW_.o (by kernel_rfl)) hHeld ?_
         refine qAw (i := 2) (N := some 59) (v := ?_) (a' := ?_) (mK 11 63) rfl rfl (qAh HT_.o (by kernel_rfl)) (fun _ _ _ h => h) (Or.inl ⟨by rfl, ?_⟩) ?_ ?_
         rotate_left
         ·intro w'
          go_simp
          with_reducible rfl
         rotate_left
         ·simp only [Act.put, List.setIfInBounds_toArray, List.set_cons_zero, List.set_cons_succ, qAr]
          rfl
         refine tk 6 63 (mK 11 127) (qA6 HT_.o HW_.o (by kernel_rfl)) hHeld ?_
         refine qAw (i := 7) (N := some 64) (v := ?_) (a' := ?_) (mK 11 255) rfl rfl (qAh HT_.o (by kernel_rfl)) (fun _ _ _ h => h) (Or.inl ⟨by rfl, ?_⟩) ?_ ?_
         rotate_left
         ·intro w'
          go_simp
          with_reducible rfl
         rotate_left
         ·simp only [Act.put, List.setIfInBounds_toArray, List.set_cons_zero, List.set_cons_succ, qAr]
          rfl
         refine pu 8 65 (mK 11 511) (qAh HT_.o (by kernel_rfl)) ?_
         refine pu 9 66 (mK 11 1023) (qAh HT_.o (by kernel_rfl)) ?_
         refine last_ (i := 10) (N := none) (mK 11 2047) rfl rfl (qBp HT_.o (by kernel_rfl)) (by decide) (fun K hK => ?_)
         have hfs26 := qAb aG.o 1
         refine skip_ (w1 := ?_) (by rfl) rfl ?_ ?_
         rotate_left
         ·go_simp
          rfl
         refine hK.o _ _ ?_
         clear hK K
         refine qCS (qBA HT_.o (by kernel_rfl)) ?_
         try go_wp2
         go_roundg k3
         case measure => have := al.o; have := bD.o; have := bI.o; omega
         case rel => exact ⟨(wrap64 (aY + 1)), (Go.bits .or .i64 (wrap64 (aM * 256)) (wrap64 (rd aA aY))), (by (rfl)), H', ⟨by have := al.o; have := bD.o; have := bI.o; omega⟩, ⟨by (with_reducible repeat (fail)); exact Kd.V_mono (Kd.V_far (p := ⟨aH, 1, none⟩) (Kd.V_mono aJ.o (fun k_ hk => (⟨hk, hk.2.2⟩ : _ ∧ k_ ≠ aH))) (fun _ hk => hk.2) (.int .i64 (Go.bits .or .i64 (wrap64 (aM * 256)) (wrap64 (rd aA aY))))) (fun _ hk => ⟨hk.1.1, ⟨hk.1.2.1, hk.1.2.2⟩⟩)⟩, ⟨by (with_reducible repeat (fail)); exact Kd.R_mono (Kd.R_far (p := ⟨aH, 1, none⟩) (Kd.R_mono aK.o (fun k_ hk => (⟨hk, hk.2⟩ : _ ∧ k_ ≠ aH))) (fun _ hk => hk.2) (.int .i64 (Go.bits .or .i64 (wrap64 (aM * 256)) (wrap64 (rd aA aY))))) (fun _ hk => ⟨hk.1.1, hk.1.2⟩)⟩, ⟨by (with_reducible repeat (fail)); refine qAQ (cs := #[.int .i64 (wrap64 (rd aA 0)), .int .i64 aM, .int .i64 0, .int .u64 0]) ?_ 1 _ rfl; (with_reducible repeat (fail)); exact aG.o⟩, ⟨by repeat ((with_reducible first | exact HB.o | refine qAi ?_ ac.o))⟩⟩
      rw [if_pos bF] at H
      have aa : ((wrap64 (rd aA 0)) == 1) = true := beq_iff_eq.mpr bF
      have ah : ((wrap64 (rd aA 0)) != 1) = false := bn bF
      clear bF
      ((rw [aa]))
      obtain ⟨bl, H⟩ := gd H
      have bb := d1 bl
      have bc : decide (1 < aA.length) = true := decide_eq_true (by omega)
      clear bl
      have H' := am H
      clear H
      have az : 0 ≤ (1 : Int) := (by omega)
      have bB : 1 < (aA.length : Int) := of_decide_eq_true (by (with_reducible assumption))
      obtain ⟨b7, cY, ad⟩ := Kd.at_int (Kd.V_reads' aJ.o).2.2 1 az bB
      obtain rfl : aW = b7 := (by injection cY)
      (try simp only [show (1 : Int).toNat = 1 from rfl, Nat.reduceEqDiff, Go.Addr.add, ↓reduceIte] at ad)
      (skip)
      replace az := eq_true az
      replace bB := eq_true bB
      obtain ⟨ao, ap, aq, ar⟩ := c4_ wc aG.o
      obtain ⟨au, av, aw, ax⟩ := z4_ aG.o
      go_wp2
      go_loopg [7] bS (fun kq v7 w' => ∃ (aX : Int) (aN : Int), v7 = .int .i64 aX ∧ qAd (qAf.l1 kq aA aR aI aX (wrap64 (rd aA 0)) 0 (wrap64 (rd aA 1)) aN = some (r1, r2)) ∧ qAd (kq ≤ bS) ∧ qAd (Kd.V (Kd.int .u8) 5 w' w.heap.size (fun k_ => (P0_ k_ ∨ w.heap.size ≤ k_) ∧ some k_ ≠ (u4 : Value).ownBlock ∧ k_ ≠ aH) (.slice (some aW) aA.length an) aA) ∧ qAd (Kd.R k50 50 w' w.heap.size (fun k_ => (w.heap.size ≤ k_) ∧ k_ ≠ aH) u4 aR) ∧ qAd (w'.heap[aH]? = some (.cells #[.int .i64 (wrap64 (rd aA 0)), .int .i64 0, .int .i64 (wrap64 (rd aA 1)), .int .u64 aN] 50 (0, 0))) ∧ qAd (Below w.heap.size w w'))
      case atStart => exact ⟨(2), (0), (by (rfl)), H', ⟨Nat.le_refl _⟩, ⟨by (with_reducible repeat (fail)); exact Kd.V_mono (Kd.V_far (p := ⟨aH, 2, none⟩) (Kd.V_mono aJ.o (fun k_ hk => (⟨hk, hk.2.2⟩ : _ ∧ k_ ≠ aH))) (fun _ hk => hk.2) (.int .i64 (wrap64 (rd aA 1)))) (fun _ hk => ⟨hk.1.1, ⟨hk.1.2.1, hk.1.2.2⟩⟩)⟩, ⟨by (with_reducible repeat (fail)); exact Kd.R_mono (Kd.R_far (p := ⟨aH, 2, none⟩) (Kd.R_mono aK.o (fun k_ hk => (⟨hk, hk.2⟩ : _ ∧ k_ ≠ aH))) (fun _ hk => hk.2) (.int .i64 (wrap64 (rd aA 1)))) (fun _ hk => ⟨hk.1.1, hk.1.2⟩)⟩, ⟨by (with_reducible repeat (fail)); refine qAQ (cs := #[.int .i64 (wrap64 (rd aA 0)), .int .i64 0, .int .i64 0, .int .u64 0]) ?_ 2 _ rfl; (with_reducible repeat (fail)); exact aG.o⟩, ⟨by repeat ((with_reducible first | exact HB.o | refine qAi ?_ ac.o))⟩⟩
      case round =>
       clear H'
       skip
       skip
       skip
       skip
       skip
       skip
       skip
       skip
       skip
       skip
       skip
       skip
       skip
       skip
       skip
       skip
       skip
       skip
       skip
       skip
       skip
       skip
       skip
       skip
       skip
       skip
       skip
       skip
       skip
       skip
       skip
       skip
       skip
       skip
       skip
       obtain ⟨aX, aN, rfl, HA, bI, aJ, aK, aG, HB⟩ := hrel
       cases gk with
       | zero => exact absurd HA.o (by simp [qAf.l1])
       | succ k3 =>
        have H := HA.o
        clear HA
        simp only [qAf.l1] at H
        by_cases bY : aX < 10
        rotate_left
        ·rw [if_neg bY] at H
         replace bY := d0 bY
         have H' := am H
         clear H
         go_wp2
         go_meet
         case rel => exact ⟨_, (0), ((wrap64 (rd aA 1))), (aN), H', ⟨by have := al.o; have := bD.o; have := bI.o; (omega)⟩, ⟨by (with_reducible repeat (fail)); exact aJ.o⟩, ⟨by (with_reducible repeat (fail)); exact aK.o⟩, ⟨by (with_reducible repeat (fail)); exact aG.o⟩, ⟨by repeat ((with_reducible (exact HB.o)))⟩⟩
        rw [if_pos bY] at H
        replace bY := d1 bY
        obtain ⟨bo, H⟩ := gd H
        replace bo := d1 bo
        obtain ⟨bp, H⟩ := gd H
        replace bp := d1 bp
        have H' := am H
        clear H
        try go_wp2
        have n0_ := am (Kd.V_drew aJ.o)
        have n1_ := am (Kd.R_drew aK.o)
        have n2_ := am (qAt aG.o)
        have n3_ := am (qAj HB.o)
        clear aJ
        clear aK
        clear aG
        clear HB
        have aJ := n0_
        have aK := n1_
        have aG := n2_
        have HB := n3_
        clear n0_ n1_ n2_ n3_
        have bT : 0 ≤ (aX : Int) := of_decide_eq_true (by (with_reducible assumption))
        have bV : aX < (aA.length : Int) := of_decide_eq_true (by (with_reducible assumption))
        obtain ⟨b8, cZ, ae⟩ := Kd.at_int (Kd.V_reads' aJ.o).2.2 aX bT bV
        obtain rfl : aW = b8 := (by injection cZ)
        replace bT := eq_true bT
        replace bV := eq_true bV
        refine qCi (n := 13) (S := fun w' => w'.cell? ⟨aH, 0, none⟩ = some (.int .i64 (wrap64 (rd aA 0))) ∧ w'.cell? ⟨aH, 1, none⟩ = some (.int .i64 0) ∧ w'.cell? ⟨aH, 2, none⟩ = some (.int .i64 (wrap64 (rd aA 1))) ∧ w'.cell? ⟨aH, 3, none⟩ = some (.int .u64 aN) ∧ w'.cell? (aW.add (aX).toNat) = some (.int .u8 (rd aA aX))) (ds := [12]) (mK 13 0) (by kernel_rfl) rfl rfl ⟨(qAa aG.o 0).trans rfl, (qAa aG.o 1).trans rfl, (qAa aG.o 2).trans rfl, (qAa aG.o 3).trans rfl, ae⟩ (fun hHeld => ?_); refine qBn qAf.tab12 qAf.bits12 (fun HT_ HW_ => ?_)
        generalize wr.drew = dF at aJ aK aG HB ae hHeld ⊢
        refine pu 0 40 (mK 13 1) (qAh HT_.o (by kernel_rfl)) ?_
        refine pu 1 41 (mK 13 3) (qAh HT_.o (by kernel_rfl)) ?_
        refine pu 4 44 (mK 13 19) (qAh HT_.o (by kernel_rfl)) ?_
        refine pu 5 45 (mK 13 51) (qAh HT_.o (by kernel_rfl)) ?_
        refine pu 6 46 (mK 13 115) (qAh HT_.o (by kernel_rfl)) ?_
        refine tk 2 42 (mK 13 119) (qA6 HT_.o HW_.o (by kernel_rfl)) hHeld ?_
        refine pu 3 43 (mK 13 127) (qAh HT_.o (by kernel_rfl)) ?_
        refine tk 7 47 (mK 13 255) (qA6 HT_.o HW_.o (by kernel_rfl)) hHeld ?_
        refine pu 8 48 (mK 13 511) (qAh HT_.o (by kernel_rfl)) ?_
        refine pu 9 49 (mK 13 1023) (qAh HT_.o (by kernel_rfl)) ?_
        refine pu 10 50 (mK 13 2047) (qAh HT_.o (by kernel_rfl)) ?_
        refine pu 11 51 (mK 13 4095) (qAh HT_.o (by kernel_rfl)) ?_
        refine last_ (i := 12) (N := none) (mK 13 8191) rfl rfl (qBp HT_.o (by kernel_rfl)) (by decide) (fun K hK => ?_)
        have hfs21 := qAb aG.o 3
        refine skip_ (w1 := ?_) (by rfl) rfl ?_ ?_
        rotate_left
        ·go_simp
         rfl
        refine hK.o _ _ ?_
        clear hK K
        refine qCS (qBA HT_.o (by kernel_rfl)) ?_
        try go_wp2
        go_roundg k3
        case measure => have := al.o; have := bD.o; have := bI.o; omega
        case rel => exact ⟨(wrap64 (aX + 1)), (Go.bits .or .u64 (IntKind.u64.wrap (aN * 256)) (IntKind.u64.wrap (rd aA aX))), (by (rfl)), H', ⟨by have := al.o; have := bD.o; have := bI.o; omega⟩, ⟨by (with_reducible repeat (fail)); exact Kd.V_mono (Kd.V_far (p := ⟨aH, 3, none⟩) (Kd.V_mono aJ.o (fun k_ hk => (⟨hk, hk.2.2⟩ : _ ∧ k_ ≠ aH))) (fun _ hk => hk.2) (.int .u64 (Go.bits .or .u64 (IntKind.u64.wrap (aN * 256)) (IntKind.u64.wrap (rd aA aX))))) (fun _ hk => ⟨hk.1.1, ⟨hk.1.2.1, hk.1.2.2⟩⟩)⟩, ⟨by (with_reducible repeat (fail)); exact Kd.R_mono (Kd.R_far (p := ⟨aH, 3, none⟩) (Kd.R_mono aK.o (fun k_ hk => (⟨hk, hk.2⟩ : _ ∧ k_ ≠ aH))) (fun _ hk => hk.2) (.int .u64 (Go.bits .or .u64 (IntKind.u64.wrap (aN * 256)) (IntKind.u64.wrap (rd aA aX))))) (fun _ hk => ⟨hk.1.1, hk.1.2⟩)⟩, ⟨by (with_reducible repeat (fail)); refine qAQ (cs := #[.int .i64 (wrap64 (rd aA 0)), .int .i64 0, .int .i64 (wrap64 (rd aA 1)), .int .u64 aN]) ?_ 3 _ rfl; (with_reducible repeat (fail)); exact aG.o⟩, ⟨by repeat ((with_reducible first | exact HB.o | refine qAi ?_ ac.o))⟩⟩
     case rest =>
      clear bH
      skip
      skip
      skip
      skip
      skip
      skip
      skip
      skip
      skip
      skip
      skip
      skip
      skip
      skip
      skip
      skip
      skip
      skip
      skip
      skip
      skip
      skip
      skip
      skip
      skip
      skip
      skip
      skip
      skip
      skip
      skip
      skip
      skip
      skip
      skip
      skip
      skip
      skip
      skip
      skip
      skip
      skip
      skip
      skip
      skip
      skip
      skip
      skip
      skip
      skip
      skip
      skip
      skip
      skip
      skip
      skip
      skip
      skip
      skip
      skip
      skip
      skip
      skip
      skip
      skip
      skip
      skip
      skip
      skip
      obtain ⟨kq, aC, aD, aE, HA, b2, aJ, aK, aG, HB⟩ := hcut
      cases kq with
      | zero => exact absurd HA.o (by simp [qAf.j4])
      | succ ak =>
       have H := HA.o
       clear HA
       simp only [qAf.j4] at H
       replace H := bm H
       obtain ⟨bC, b1, H⟩ := H
       replace H : (if bC = true then (if (aR.length : Int) = 4096 then (some (([] : List (S50)), 3)) else (if aR.length < 4398046511104 then (if 0 ≤ aI then (if aI ≤ (aA.length : Int) then (qAf.l0 ak (aA.drop (aI : Int).toNat) (aR ++ [(⟨(wrap64 (rd aA 0)), aC, (⟨aD, aE⟩ : S48)⟩ : S50)])) else (none)) else (none)) else (none))) else (some (([] : List (S50)), 51))) = some (r1, r2) := H
       have cQ := am b1
       clear b1
       by_cases bs : bC = true
       rotate_left
       ·replace bs := Bool.eq_false_iff.mpr bs
        subst bs
        replace H : (some (([] : List (S50)), 51)) = some (r1, r2) := by rw [if_neg (show ¬ (false = true) by decide)] at H; exact H
        simp only [Option.some.injEq, Prod.mk.injEq] at H
        obtain ⟨rfl, rfl⟩ := H
        obtain ⟨cL, cM, cN, cO⟩ := c4_ wc aG.o
        go_wp2_with (((with_reducible refine qA7 (f := 23) rfl ?_); refine gL 68 Tryz.func23 #[.agg #[.int .i64 (wrap64 (rd aA 0)), .int .i64 aC, .int .i64 aD, .int .u64 aE]] ?_; (with_reducible refine (qAK.calls (wrap64 (rd aA 0)) aC aD aE false _ cQ.o).mono ?_); rintro e dJ ⟨rfl, hb⟩; refine ⟨_, rfl, ?_⟩; have n0_ := am (Kd.V_below (by (with_reducible repeat (fail)); exact aJ.o) hb); have n1_ := am (Kd.R_below (by (with_reducible repeat (fail)); exact aK.o) hb); have n2_ := am (qAk (g := aH) (o := .cells #[.int .i64 (wrap64 (rd aA 0)), .int .i64 aC, .int .i64 aD, .int .u64 aE] 50 (0, 0)) (by (with_reducible repeat (fail)); exact aG.o) hb); have n3_ := am (qAq (by repeat ((with_reducible (exact HB.o)))) hb); clear aJ; clear aK; clear aG; clear HB; have HB := n3_; clear n0_ n1_ n2_ n3_; (skip); (skip); (skip)))
        go_ret2
        exact ⟨_, by (rfl), by (exact Kd.R_nil _ _ _ _ _), by repeat ((with_reducible (exact HB.o)))⟩
       subst bs
       replace H : (if (aR.length : Int) = 4096 then (some (([] : List (S50)), 3)) else (if aR.length < 4398046511104 then (if 0 ≤ aI then (if aI ≤ (aA.length : Int) then (qAf.l0 ak (aA.drop (aI : Int).toNat) (aR ++ [(⟨(wrap64 (rd aA 0)), aC, (⟨aD, aE⟩ : S48)⟩ : S50)])) else (none)) else (none)) else (none))) = some (r1, r2) := by rw [if_pos rfl] at H; exact H
       by_cases b0 : (aR.length : Int) = 4096
       ·rw [if_pos b0] at H
        have bh : ((aR.length : Int) == 4096) = true := beq_iff_eq.mpr b0
        clear b0
        simp only [Option.some.injEq, Prod.mk.injEq] at H
        obtain ⟨rfl, rfl⟩ := H
        obtain ⟨bz, cA, cB, cC⟩ := c4_ wc aG.o
        go_wp2_with (((with_reducible refine qA7 (f := 23) rfl ?_); refine gL 68 Tryz.func23 #[.agg #[.int .i64 (wrap64 (rd aA 0)), .int .i64 aC, .int .i64 aD, .int .u64 aE]] ?_; (with_reducible refine (qAK.calls (wrap64 (rd aA 0)) aC aD aE true _ cQ.o).mono ?_); rintro e dH ⟨rfl, hb⟩; refine ⟨_, rfl, ?_⟩; have n0_ := am (Kd.V_below (by (with_reducible repeat (fail)); exact aJ.o) hb); have n1_ := am (Kd.R_below (by (with_reducible repeat (fail)); exact aK.o) hb); have n2_ := am (qAk (g := aH) (o := .cells #[.int .i64 (wrap64 (rd aA 0)), .int .i64 aC, .int .i64 aD, .int .u64 aE] 50 (0, 0)) (by (with_reducible repeat (fail)); exact aG.o) hb); have n3_ := am (qAq (by repeat ((with_reducible (exact HB.o)))) hb); clear aJ; clear aK; clear aG; clear HB; have aJ := n0_; have aK := n1_; have HB := n3_; clear n0_ n1_ n2_ n3_; (skip); (skip); (skip); obtain ⟨ct, cx, cc⟩ := Kd.R_slice aK.o; subst cc))
        go_ret2
        exact ⟨_, by (rfl), by (exact Kd.R_nil _ _ _ _ _), by repeat ((with_reducible (exact HB.o)))⟩
       rw [if_neg b0] at H
       have bh : ((aR.length : Int) == 4096) = false := bf b0
       have cn : ((aR.length : Int) != 4096) = true := bne_iff_ne.mpr b0
       obtain ⟨bu, H⟩ := gd H
       have b5 := am bu
       clear bu
       obtain ⟨bX, ai⟩ : ∃ y_ : List (S50), y_ = (aR ++ [(⟨(wrap64 (rd aA 0)), aC, (⟨aD, aE⟩ : S48)⟩ : S50)]) := ⟨_, rfl⟩
       replace H : (if 0 ≤ aI then (if aI ≤ (aA.length : Int) then (qAf.l0 ak (aA.drop (aI : Int).toNat) bX) else (none)) else (none)) = some (r1, r2) := by (rw [ai]; with_reducible exact H)
       have b6 := am ai
       clear ai
       obtain ⟨bj, H⟩ := gd H
       have co := eq_true bj
       replace bj := d1 bj
       obtain ⟨bw, H⟩ := gd H
       replace bw := d1 bw
       obtain ⟨ab, aj⟩ : ∃ y_ : List Int, y_ = (aA.drop (aI : Int).toNat) := ⟨_, rfl⟩
       replace H : (qAf.l0 ak ab bX) = some (r1, r2) := by (rw [aj]; with_reducible exact H)
       have bE := am aj
       clear aj
       have H' := am H
       clear H
       obtain ⟨cD, cE, cF, cG⟩ := c4_ wc aG.o
       go_wp2_with (first | ((with_reducible refine qA7 (f := 23) rfl ?_); refine gL 68 Tryz.func23 #[.agg #[.int .i64 (wrap64 (rd aA 0)), .int .i64 aC, .int .i64 aD, .int .u64 aE]] ?_; (with_reducible refine (qAK.calls (wrap64 (rd aA 0)) aC aD aE true _ cQ.o).mono ?_); rintro e dC ⟨rfl, hb⟩; refine ⟨_, rfl, ?_⟩; have n0_ := am (Kd.V_below (by (with_reducible repeat (fail)); exact aJ.o) hb); have n1_ := am (Kd.R_below (by (with_reducible repeat (fail)); exact aK.o) hb); have n2_ := am (qAk (g := aH) (o := .cells #[.int .i64 (wrap64 (rd aA 0)), .int .i64 aC, .int .i64 aD, .int .u64 aE] 50 (0, 0)) (by (with_reducible repeat (fail)); exact aG.o) hb); have n3_ := am (qAq (by repeat ((with_reducible (exact HB.o)))) hb); clear aJ; clear aK; clear aG; clear HB; have aJ := n0_; have aK := n1_; have aG := n2_; have HB := n3_; clear n0_ n1_ n2_ n3_; (skip); (skip); (skip); obtain ⟨cR, cW, cd⟩ := Kd.R_slice aK.o; subst cd; obtain ⟨cH, cI, cJ, cK⟩ := c4_ dC aG.o; have cP := qAb aG.o 3) | ((with_reducible refine qCn (b := .append) (xs := #[.tmp 73, .tmp 75]) rfl ?_); (try (refine qBw (by rfl) ?_; dsimp only)); at_builtin; refine Kd.R_append k50 (w0 := w) w.heap.size rfl (.tmp 73) (.tmp 75) 25 50 (.agg #[(.int .i64 0), (.int .i64 0), (.int .i64 0), (.int .u64 0)]) 32 rfl Tryz.underlying25 info50 rfl (by decide) (by omega) (.slice cR aR.length cW) aR (⟨(wrap64 (rd aA 0)), aC, (⟨aD, aE⟩ : S48)⟩ : S50) [.int .i64 (wrap64 (rd aA 0)), .int .i64 aC, .int .i64 aD, .int .u64 aE] (fun k_ => (w.heap.size ≤ k_) ∧ k_ ≠ aH) (fun _ => False) rfl rfl ?aP (fun _ hk => hk.elim) ?aF ?aO ?aB ?aS ?aL ?_; (case aP => exact k50_mkM _ _ _ (⟨(wrap64 (rd aA 0)), aC, (⟨aD, aE⟩ : S48)⟩ : S50)); (case aB => exact (by repeat ((with_reducible (exact HB.o))))); (case aF => exact (fun k_ hk => ⟨(Nat.le_trans (qAm (by repeat ((with_reducible (exact HB.o))))) hk), Kd.freshB (g := aH) (o := .cells #[.int .i64 (wrap64 (rd aA 0)), .int .i64 aC, .int .i64 aD, .int .u64 aE] 50 (0, 0)) (by (with_reducible repeat (fail)); exact aG.o) k_ hk⟩)); (case aO => exact (by (with_reducible repeat (fail)); exact aK.o)); (case aS => exact (qAm (by repeat ((with_reducible (exact HB.o)))))); (case aL => have := b5.o; omega); intro dB dI ho hb hg cr; rw [← b6.o] at ho; have n0_ := am (Kd.V_afterv (ok := (fun k_ => (P0_ k_ ∨ w.heap.size ≤ k_) ∧ k_ ≠ aH)) (by (with_reducible repeat (fail)); exact Kd.V_mono aJ.o (fun _ hk => ⟨⟨hk.1, hk.2.2⟩, hk.2.1⟩)) hg cr); have n1_ := am (qBN (g := aH) (o := .cells #[.int .i64 (wrap64 (rd aA 0)), .int .i64 aC, .int .i64 aD, .int .u64 aE] 50 (0, 0)) (by (with_reducible repeat (fail)); exact aG.o) hg (Kd.R_away aK.o (fun _ hk => hk.2))); have n2_ := am (hb); have n3_ := am (ho); clear aJ; clear aG; clear HB; clear aK; have aJ := n0_; have HB := n2_; have b3 := n3_; clear n0_ n1_ n2_ n3_; clear ho hb hg cr; have cg : (aI : Int) ≤ ((aA.length : Int) : Int) := of_decide_eq_true (by (with_reducible assumption)); obtain ⟨i041, bG, _, hsz41, _⟩ := info_parts info5; have hroom41 : aA.length ≤ an := (Kd.V_reads' aJ.o).2.1; have hC41 : Kd.F (Kd.int .u8) _ _ (some aW) aA.length aA := (Kd.V_at (base := w.heap.size) aJ.o).2.2; have cf : (0 : Int) ≤ (aI : Int) := of_decide_eq_true (by (with_reducible assumption)); have hcut41 := cut_from (P := Tryz.prog) 53 5 .i64 Tryz.underlying53 bG 1 hsz41 (some aW) aA.length an aI cf cg; have hr41 := Kd.F_cut (m := (aI : Int).toNat) (c := an) hC41 (by omega) hroom41; obtain ⟨ci, hA41⟩ : ∃ A1, A1 = (if an = (aI : Int).toNat then (some aW) else ((some aW) : Option Addr).map (·.add ((aI : Int).toNat * 1))) := ⟨_, rfl⟩; obtain ⟨cw, hc41⟩ : ∃ c1, c1 = an - (aI : Int).toNat := ⟨_, rfl⟩; have bR : ab.length = aA.length - (aI : Int).toNat := (by rw [bE.o, List.length_drop] <;> omega); rw [show (aA).drop (aI : Int).toNat = ab from bE.o.symm] at hr41; replace hr41 : Kd.F (Kd.int .u8) _ _ ci ab.length ab := (by rw [hA41]; exact hr41); rw [← bR, ← hA41, ← hc41] at hcut41; have b4 := am (show Kd.V (Kd.int .u8) 5 _ w.heap.size _ (.slice ci ab.length cw) ab from Kd.V_mk (by rw [bR, hc41]; exact Nat.sub_le_sub_right hroom41 _) hr41); clear hr41 hC41 hroom41 bG hsz41 hc41; clear bR hA41; replace cg := eq_true cg))
       go_roundg ak
       case measure => have := al.o; have := bD.o; have := b2.o; omega
       case rel => exact ⟨(ab), (bX), H', ⟨by have := al.o; have := bD.o; have := b2.o; omega⟩, ⟨by (with_reducible repeat (fail)); exact Kd.V_mono b4.o (fun _ hk => ⟨hk.1.1, hk.2⟩)⟩, ⟨by (with_reducible repeat (fail)); exact Kd.R_mono b3.o (fun _ hk => hk.1)⟩, ⟨by repeat ((with_reducible (exact HB.o)))⟩⟩
end Q
end
section
namespace Q
open Go.RowKit YA YC YB
open DecLaw Enc Val Ins
def numStep (n x : Int) : Int := Go.bits .or .u64 (IntKind.u64.wrap (n * 256)) (IntKind.u64.wrap x)
theorem by_take {l : List Int} (h : qBT l) (n : Nat) : qBT (l.take n) := fun x hx => h x (List.mem_of_mem_take hx)
theorem qDI {l : List Int} (h : qBT l) (n : Nat) : qBT (l.drop n) := fun x hx => h x (List.mem_of_mem_drop hx)
theorem qED : ∀ (l : List Int), qBT l → ∀ v : Int, 0 ≤ v → 0 ≤ l.foldl (fun v x => v * 256 + x) v ∧ l.foldl (fun v x => v * 256 + x) v < (v + 1) * 256 ^ l.length := by
 intro l
 induction l with
 | nil => intro _ v hv; simp; omega
 | cons x l ih =>
  intro h v hv
  have hx := h x List.mem_cons_self
  obtain ⟨h1, h2⟩ := ih (fun y hy => h y (List.mem_cons_of_mem _ hy)) (v * 256 + x) (by omega)
  refine ⟨h1, Int.lt_of_lt_of_le h2 ?_⟩
  rw [List.length_cons, Int.pow_succ]
  have : (v * 256 + x + 1) * 256 ^ l.length ≤ ((v + 1) * 256) * 256 ^ l.length := Int.mul_le_mul_of_nonneg_right (by omega) (Int.le_of_lt (Int.pow_pos (by decide)))
  have e : (v + 1) * (256 ^ l.length * 256) = ((v + 1) * 256) * 256 ^ l.length := by rw [Int.mul_assoc, Int.mul_comm (256 ^ l.length) 256]
  rw [e]; exact this
theorem qDX (l : List Int) (h : qBT l) : 0 ≤ valB l ∧ valB l < 256 ^ l.length := by
 have := qED l h 0 (Int.le_refl 0)
 unfold valB
 simpa using this
theorem numStep_eq (v x : Int) (hv : 0 ≤ v) (hv2 : v < 72057594037927936) (hx : 0 ≤ x) (hx2 : x < 256) : numStep v x = v * 256 + x := by
 unfold numStep
 rw [Dec.wrap_256, show IntKind.u64.wrap x = x from by simp [IntKind.wrap, IntKind.bits, IntKind.signed]; omega, Dec.or_low v x hv (by omega) hx hx2]
 omega
def toSR (x : InsD) : S50 := ⟨x.op, x.n, ⟨x.ty, x.b⟩⟩
theorem i64_or_nat (a b : Nat) (ha : a < 9223372036854775808) (hb : b < 9223372036854775808) : bits .or .i64 (a : Int) (b : Int) = ((a ||| b : Nat) : Int) := by
 have hx : a ||| b < 2 ^ 63 := Nat.or_lt_two_pow (by omega) (by omega)
 show IntKind.i64.wrap ((BitVec.ofInt 64 (a : Int) ||| BitVec.ofInt 64 (b : Int)).toNat : Int) = _
 rw [BitVec.toNat_or, ofInt_u64 a (by omega), ofInt_u64 b (by omega)]
 simp [IntKind.wrap, IntKind.bits, IntKind.signed]
 omega
theorem or_low64 (v x : Int) (hv : 0 ≤ v) (hv2 : v < 1099511627776) (hx : 0 ≤ x) (hx2 : x < 256) : Go.bits .or .i64 (wrap64 (v * 256)) (wrap64 x) = v * 256 + x := by
 rw [show wrap64 (v * 256) = v * 256 from by unfold wrap64; omega, show wrap64 x = x from by unfold wrap64; omega]
 obtain ⟨n, rfl⟩ := Int.eq_ofNat_of_zero_le hv
 obtain ⟨y, rfl⟩ := Int.eq_ofNat_of_zero_le hx
 have hy : y < 2 ^ 8 := by omega
 rw [show (n : Int) * 256 = ((n * 256 : Nat) : Int) from by omega, i64_or_nat _ _ (by omega) (by omega)]
 have := Nat.shiftLeft_add_eq_or_of_lt hy n
 rw [Nat.shiftLeft_eq] at this
 rw [← this]
 omega
theorem take_succ' (l : List Int) (j : Nat) (h : j < l.length) : l.take (j + 1) = l.take j ++ [l.getD j 0] := by
 rw [List.take_succ_eq_append_getElem h, List.getD_eq_getElem?_getD, List.getElem?_eq_getElem h]; rfl
theorem bits_loop (r : List Int) (hb : qBT r) (acc : List S50) (sz op n ty : Int) (h10 : 10 ≤ r.length) (R : List S50 × Int) (hR : Ev (fun k => qAf.j4 k r acc sz op n ty (valB ((r.drop 2).take 8))) R) :
  ∀ (d j : Nat), 8 - j = d → j ≤ 8 → Ev (fun k => qAf.l1 k r acc sz ((2 + j : Nat) : Int) op n ty (valB ((r.drop 2).take j))) R := by
 intro d
 induction d with
 | zero =>
  intro j hd hj
  obtain rfl : j = 8 := by omega
  refine Ev.step (fun k => ?_) hR
  simp only [qAf.l1]; rw [if_neg (by decide)]
 | succ d ih =>
  intro j hd hj
  have hlt : j < (r.drop 2).length := by rw [List.length_drop]; omega
  have hx : (r.drop 2).getD j 0 = rd r ((2 + j : Nat) : Int) := by
   unfold rd
   rw [List.getD_eq_getElem?_getD, List.getElem?_drop, List.getD_eq_getElem?_getD]; rfl
  have hxb : 0 ≤ rd r ((2 + j : Nat) : Int) ∧ rd r ((2 + j : Nat) : Int) < 256 := by
   rw [← hx, List.getD_eq_getElem?_getD, List.getElem?_eq_getElem hlt]
   exact qDI hb 2 _ (List.getElem_mem _)
  have hvb := qDX ((r.drop 2).take j) (by_take (qDI hb 2) j)
  have hlen : ((r.drop 2).take j).length = j := by rw [List.length_take]; omega
  rw [hlen] at hvb
  have hpw : ∀ j : Nat, j < 8 → (256 : Int) ^ j ≤ 72057594037927936 := by decide
  have hpj := hpw j (by omega)
  have hst := numStep_eq (valB ((r.drop 2).take j)) (rd r ((2 + j : Nat) : Int)) hvb.1 (by omega) hxb.1 hxb.2
  have hnext : valB ((r.drop 2).take (j + 1)) = valB ((r.drop 2).take j) * 256 + rd r ((2 + j : Nat) : Int) := by
   rw [take_succ' _ j hlt, qCJ, hx]
  have hrec := ih (j + 1) (by omega) (by omega)
  rw [hnext, ← hst] at hrec
  refine Ev.step (fun k => ?_) hrec
  simp only [qAf.l1]
  rw [if_pos (by omega), if_pos (by omega), if_pos (by omega), show wrap64 (((2 + j : Nat) : Int) + 1) = ((2 + (j + 1) : Nat) : Int) from by unfold wrap64; omega]
  rfl
theorem num_loop (r : List Int) (hb : qBT r) (acc : List S50) (w : Nat) (hw : w ≤ 2) (op ty b : Int) (hl : 1 + w ≤ r.length) (R : List S50 × Int) (hR : Ev (fun k => qAf.j4 k r acc ((1 + w : Nat) : Int) op (valB ((r.drop 1).take w)) ty b) R) :
  ∀ (d j : Nat), w - j = d → j ≤ w → Ev (fun k => qAf.l2 k r acc ((1 + w : Nat) : Int) ((1 + j : Nat) : Int) op (valB ((r.drop 1).take j)) ty b) R := by
 intro d
 induction d with
 | zero =>
  intro j hd hj
  obtain rfl : j = w := by omega
  refine Ev.step (fun k => ?_) hR
  simp only [qAf.l2]; rw [if_neg (by omega)]
 | succ d ih =>
  intro j hd hj
  have hlt : j < (r.drop 1).length := by rw [List.length_drop]; omega
  have hx : (r.drop 1).getD j 0 = rd r ((1 + j : Nat) : Int) := by
   unfold rd
   rw [List.getD_eq_getElem?_getD, List.getElem?_drop, List.getD_eq_getElem?_getD]; rfl
  have hxb : 0 ≤ rd r ((1 + j : Nat) : Int) ∧ rd r ((1 + j : Nat) : Int) < 256 := by
   rw [← hx, List.getD_eq_getElem?_getD, List.getElem?_eq_getElem hlt]
   exact qDI hb 1 _ (List.getElem_mem _)
  have hvb := qDX ((r.drop 1).take j) (by_take (qDI hb 1) j)
  have hlen : ((r.drop 1).take j).length = j := by rw [List.length_take]; omega
  rw [hlen] at hvb
  have hpw : ∀ j : Nat, j < 2 → (256 : Int) ^ j ≤ 256 := by decide
  have hpj := hpw j (by omega)
  have hst := or_low64 (valB ((r.drop 1).take j)) (rd r ((1 + j : Nat) : Int)) hvb.1 (by omega) hxb.1 hxb.2
  have hnext : valB ((r.drop 1).take (j + 1)) = valB ((r.drop 1).take j) * 256 + rd r ((1 + j : Nat) : Int) := by
   rw [take_succ' _ j hlt, qCJ, hx]
  have hrec := ih (j + 1) (by omega) (by omega)
  rw [hnext, ← hst] at hrec
  refine Ev.step (fun k => ?_) hrec
  simp only [qAf.l2]
  rw [if_pos (by omega), if_pos (by omega), if_pos (by omega), show wrap64 (((1 + j : Nat) : Int) + 1) = ((1 + (j + 1) : Nat) : Int) from by unfold wrap64; omega]
theorem size_wid {op : Int} (h : sizeI op ≠ 0) : sizeI op = 1 + wid op ∧ 0 ≤ wid op ∧ (op = 1 → wid op = 9) ∧ (op ≠ 1 → wid op ≤ 2) := by
 have h1 : sizeI op = 1 + wid op := by
  unfold sizeI at h ⊢
  split at h
  ·exact absurd rfl h
  rename_i hh; rw [if_neg hh]
 refine ⟨h1, ?_, ?_, ?_⟩
 ·unfold wid; (repeat' split) <;> omega
 ·intro e; unfold wid; rw [if_pos e]
 intro e; unfold wid; rw [if_neg e]; (repeat' split) <;> omega
theorem rdec_ev (c : List Int) (hc : c.length ≤ 4294967296) : ∀ (d : Nat) (r : List Int) (l : List InsD), r.length < d → qBT r → r.length ≤ c.length → l.length ≤ 4096 →
  Ev (fun k => qAf.l0 k r (l.map toSR)) ((decL d l r).1.map toSR, (decL d l r).2) := by
 intro d
 induction d with
 | zero => intro r l h; omega
 | succ d ih =>
  intro r l hd hb hrc hl
  unfold decL
  by_cases hr : r = []
  ·subst hr
   rw [if_pos rfl]
   refine Ev.step (f := fun _ => some (l.map toSR, 0)) (fun k => ?_) (Ev.now _)
   simp only [qAf.l0]; rw [if_neg (by simp)]
  rw [if_neg hr]
  have hpos : 0 < r.length := List.length_pos_iff.2 hr
  have hop0 : 0 ≤ r.getD 0 0 ∧ r.getD 0 0 < 256 := by
   rw [List.getD_eq_getElem?_getD, List.getElem?_eq_getElem hpos]
   exact hb _ (List.getElem_mem _)
  have hrd : rd r 0 = r.getD 0 0 := rfl
  have hwop : wrap64 (rd r 0) = r.getD 0 0 := by rw [hrd]; unfold wrap64; omega
  have hl0 : ∀ k, qAf.l0 (k + 1) r (l.map toSR) = (if sizeI (r.getD 0 0) = 0 then qAf.j1 k r (l.map toSR) (sizeI (r.getD 0 0)) true (r.getD 0 0) 0 0 0 else qAf.j1 k r (l.map toSR) (sizeI (r.getD 0 0)) (decide (sizeI (r.getD 0 0) > (r.length : Int))) (r.getD 0 0) 0 0 0) := fun k => by
   simp only [qAf.l0, qBv.f, Option.bind_some]
   rw [if_pos (by omega), if_pos (by omega), hwop]
  have hbad : ∀ sz, Ev (fun k => qAf.j1 k r (l.map toSR) sz true (r.getD 0 0) 0 0 0) ((([] : List InsD).map toSR, 51) : List S50 × Int) := fun sz =>
   Ev.step (f := fun _ => some ([], 51)) (fun k => by simp only [qAf.j1]; rfl) (Ev.now _)
  have hno : (sizeI (r.getD 0 0) = 0 ∨ (r.length : Int) < sizeI (r.getD 0 0)) → ¬ ((qAY r).ok = true ∧ 0 ≤ (qAY r).b ∧ (qAY r).b < 18446744073709551616 ∧ r = insB (qAY r) ++ r.drop (insB (qAY r)).length) := by
   rintro h ⟨h1, _, _, h4⟩
   have e1 := qEj h1
   have e2 : (qAY r).op = r.getD 0 0 := by
    unfold qAY
    split
    ·rename_i hh; exact hh.symm
    rfl
   rw [e2] at e1
   have e3 := congrArg List.length h4
   rw [List.length_append] at e3
   have : 0 < (insB (qAY r)).length := by unfold insB; simp
   rcases h with h | h <;> omega
  by_cases hs0 : sizeI (r.getD 0 0) = 0
  ·rw [if_neg (hno (.inl hs0))]
   exact Ev.step (fun k => (hl0 k).trans (if_pos hs0)) (hbad _)
  by_cases hsl : (r.length : Int) < sizeI (r.getD 0 0)
  ·rw [if_neg (hno (.inr hsl))]
   refine Ev.step (fun k => (hl0 k).trans ?_) (hbad (sizeI (r.getD 0 0)))
   rw [if_neg hs0, decide_eq_true (by omega)]
  obtain ⟨w1, w2, w3, w4⟩ := size_wid hs0
  have hstep : ∀ k, qAf.l0 (k + 1) r (l.map toSR) = qAf.j1 k r (l.map toSR) (sizeI (r.getD 0 0)) false (r.getD 0 0) 0 0 0 := fun k => by
   rw [hl0 k, if_neg hs0, decide_eq_false (by omega)]
  have hip := qDe r hb hs0 (by omega) hr
  have hpb : 0 ≤ (qAY r).b ∧ (qAY r).b < 18446744073709551616 := by
   unfold qAY
   split
   ·have := qDX ((r.drop 2).take 8) (by_take (qDI hb 2) 8)
    have hle : ((r.drop 2).take 8).length ≤ 8 := by rw [List.length_take]; omega
    have hpw : ∀ j : Nat, j < 9 → (256 : Int) ^ j ≤ 18446744073709551616 := by decide
    have := hpw _ (show ((r.drop 2).take 8).length < 9 by omega)
    simp only; omega
   simp
  have hlenI : (qAY r).ok = true → (insB (qAY r)).length = (sizeI (r.getD 0 0)).toNat := by
   intro h1
   have e1 := qEj h1
   have e2 : (qAY r).op = r.getD 0 0 := by
    unfold qAY
    split
    ·rename_i hh; exact hh.symm
    rfl
   rw [e2] at e1; omega
  have hj4 : Ev (fun k => qAf.j4 k r (l.map toSR) (sizeI (r.getD 0 0)) (qAY r).op (qAY r).n (qAY r).ty (qAY r).b)
    (((if (qAY r).ok = true ∧ 0 ≤ (qAY r).b ∧ (qAY r).b < 18446744073709551616 ∧ r = insB (qAY r) ++ r.drop (insB (qAY r)).length then (if l.length = 4096 then (([] : List InsD), (3 : Int)) else decL d (l ++ [qAY r]) (r.drop (insB (qAY r)).length)) else ([], 51)).1.map toSR, (if (qAY r).ok = true ∧ 0 ≤ (qAY r).b ∧ (qAY r).b < 18446744073709551616 ∧ r = insB (qAY r) ++ r.drop (insB (qAY r)).length then (if l.length = 4096 then (([] : List InsD), (3 : Int)) else decL d (l ++ [qAY r]) (r.drop (insB (qAY r)).length)) else ([], 51)).2)) := by
   have hrt : qAK.f (qAY r).op (qAY r).n (qAY r).ty (qAY r).b = some (qAY r).ok := if_pos hpb
   cases hok : (qAY r).ok with
   | false =>
    rw [if_neg (by simp)]
    refine Ev.step (f := fun _ => some ([], 51)) (fun k => ?_) (Ev.now _)
    simp only [qAf.j4, hrt, hok, Option.bind_some]
    rw [if_neg (by simp)]
   | true =>
    have hln := hlenI hok
    rw [if_pos ⟨rfl, hpb.1, hpb.2, by rw [hln]; exact hip.symm⟩]
    by_cases h4096 : l.length = 4096
    ·rw [if_pos h4096]
     refine Ev.step (f := fun _ => some ([], 3)) (fun k => ?_) (Ev.now _)
     simp only [qAf.j4, hrt, hok, Option.bind_some]
     rw [if_pos trivial, if_pos (by rw [List.length_map]; omega)]
    rw [if_neg h4096, hln]
    have hrec := ih (r.drop (sizeI (r.getD 0 0)).toNat) (l ++ [qAY r]) (by rw [List.length_drop]; omega) (qDI hb _) (by rw [List.length_drop]; omega) (by simp; omega)
    refine Ev.step (fun k => ?_) hrec
    simp only [qAf.j4, hrt, hok, Option.bind_some]
    rw [if_pos trivial, if_neg (by rw [List.length_map]; omega), if_pos (by rw [List.length_map]; omega), if_pos (by omega), if_pos (by omega), List.map_append]
    rfl
  by_cases h1 : r.getD 0 0 = 1
  rotate_left
  ·have h2 := w4 h1
   have hwN : ((widN (r.getD 0 0) : Nat) : Int) = wid (r.getD 0 0) := by unfold widN; omega
   have hp : qAY r = ⟨r.getD 0 0, valB ((r.drop 1).take (widN (r.getD 0 0))), 0, 0⟩ := by unfold qAY; rw [if_neg h1]
   rw [hp] at hj4 ⊢
   simp only at hj4 ⊢
   have hsz : sizeI (r.getD 0 0) = ((1 + widN (r.getD 0 0) : Nat) : Int) := by omega
   rw [hsz] at hj4
   have hlp := num_loop r hb (l.map toSR) (widN (r.getD 0 0)) (by omega) (r.getD 0 0) 0 0 (by omega) _ hj4 (widN (r.getD 0 0)) 0 (by omega) (by omega)
   refine Ev.step hstep (Ev.step (fun k => ?_) hlp)
   simp only [qAf.j1]
   rw [if_neg (by decide), if_neg h1, hsz]
   rfl
  have h9 := w3 h1
  have h10 : 10 ≤ r.length := by omega
  have hp : qAY r = ⟨1, 0, r.getD 1 0, valB ((r.drop 2).take 8)⟩ := by unfold qAY; rw [if_pos h1]
  have hx1 : 0 ≤ r.getD 1 0 ∧ r.getD 1 0 < 256 := by
   rw [List.getD_eq_getElem?_getD, List.getElem?_eq_getElem (by omega)]
   exact hb _ (List.getElem_mem _)
  rw [hp] at hj4 ⊢
  simp only at hj4 ⊢
  have hlp := bits_loop r hb (l.map toSR) (sizeI (r.getD 0 0)) 1 0 (r.getD 1 0) h10 _ hj4 8 0 rfl (by omega)
  refine Ev.step hstep (Ev.step (fun k => ?_) hlp)
  simp only [qAf.j1]
  rw [if_neg (by decide), if_pos h1, if_pos (by omega), show wrap64 (rd r 1) = r.getD 1 0 from by show wrap64 (r.getD 1 0) = _; unfold wrap64; omega, h1]
  rfl
theorem rdecode_ev (c : List Int) (hb : qBT c) (hc : c.length ≤ 4294967296) : Ev (fun k => qAf.f k c) ((decL (c.length + 1) [] c).1.map toSR, (decL (c.length + 1) [] c).2) :=
 rdec_ev c hc (c.length + 1) c [] (by omega) hb (Nat.le_refl _) (by simp)
end Q
end
section
namespace Q
open Go.RowKit YA YC YB
attribute [local go_sem] max2_int min2_int max_two min_two max_three min_three max_four min_four
def foundrylaw14_CodeDecodes.f (k : Nat) (l0 : List Int) : Option (Bool) := (some (([] : List Int) : List Int)).bind fun aJ => (if aJ.length + l0.length < 140737488355328 then ((qAB.f (aJ ++ l0)).bind fun aG => ((qAf.f k l0).bind fun aC => ((qAl.f k aG.1 aC.1).bind fun aI => (if aI = true then (if aG.2 = aC.2 then ((qAz.f).bind fun aE => (some aE)) else (none)) else (none))))) else (none))
theorem foundrylaw14_CodeDecodes.calls (k : Nat) (A0 : Option Addr) (c0 : Nat) (l0 : List Int) (r : Bool) (w : World) (hr0 : Kd.C (Kd.int .u8) w A0 l0.length l0) (hc0 : l0.length ≤ c0) (h : foundrylaw14_CodeDecodes.f k l0 = some r) :
  Calls Tryz.prog 11 #[.slice A0 l0.length c0] w fun e w' => e = .returned (.bool r) ∧ Below w.heap.size w w' := by
 have ag := am hr0
 have ah := am hc0
 clear hr0 hc0
 have HB := am (Below.refl w.heap.size w)
 have H : ((some (([] : List Int) : List Int)).bind fun aJ => (if aJ.length + l0.length < 140737488355328 then ((qAB.f (aJ ++ l0)).bind fun aG => ((qAf.f k l0).bind fun aC => ((qAl.f k aG.1 aC.1).bind fun aI => (if aI = true then (if aG.2 = aC.2 then ((qAz.f).bind fun aE => (some aE)) else (none)) else (none))))) else (none))) = some r := h
 clear h
 obtain ⟨aJ, aK⟩ : ∃ y_ : List Int, y_ = (([] : List Int)) := ⟨_, rfl⟩
 replace H : (if aJ.length + l0.length < 140737488355328 then ((qAB.f (aJ ++ l0)).bind fun aG => ((qAf.f k l0).bind fun aC => ((qAl.f k aG.1 aC.1).bind fun aI => (if aI = true then (if aG.2 = aC.2 then ((qAz.f).bind fun aE => (some aE)) else (none)) else (none))))) else (none)) = some r := by first | (rw [aK]; with_reducible exact H) | (have H2_ := (Option.bind_some _ _).symm.trans H; rw [aK]; with_reducible exact H2_) | (have H2_ := (Option.bind_some _ _).symm.trans H; with_reducible exact H2_) | with_reducible exact H | (rw [aK]; exact H) | exact H
 have aV := am aK
 clear aK
 by_cases c2 : aJ.length + l0.length < 140737488355328
 ·rw [if_pos c2] at H
  have a4 := am c2
  clear c2
  obtain ⟨aW, aM⟩ : ∃ y_ : List Int, y_ = (aJ ++ l0) := ⟨_, rfl⟩
  replace H : ((qAB.f aW).bind fun aG => ((qAf.f k l0).bind fun aC => ((qAl.f k aG.1 aC.1).bind fun aI => (if aI = true then (if aG.2 = aC.2 then ((qAz.f).bind fun aE => (some aE)) else (none)) else (none))))) = some r := by first | (rw [aM]; with_reducible exact H) | (have H2_ := (Option.bind_some _ _).symm.trans H; rw [aM]; with_reducible exact H2_) | (have H2_ := (Option.bind_some _ _).symm.trans H; with_reducible exact H2_) | with_reducible exact H | (rw [aM]; exact H) | exact H
  have aX := am aM
  clear aM
  replace H := bm H
  obtain ⟨⟨aQ, aN⟩, ac, H⟩ := H
  replace H : ((qAf.f k l0).bind fun aC => ((qAl.f k aQ aC.1).bind fun aI => (if aI = true then (if aN = aC.2 then ((qAz.f).bind fun aE => (some aE)) else (none)) else (none)))) = some r := H
  have A3 := am ac
  clear ac
  replace H := bm H
  obtain ⟨⟨aT, aP⟩, ad, H⟩ := H
  replace H : ((qAl.f k aQ aT).bind fun aI => (if aI = true then (if aN = aP then ((qAz.f).bind fun aE => (some aE)) else (none)) else (none))) = some r := H
  have A4 := am ad
  clear ad
  replace H := bm H
  obtain ⟨aI, ae, H⟩ := H
  replace H : (if aI = true then (if aN = aP then ((qAz.f).bind fun aE => (some aE)) else (none)) else (none)) = some r := H
  have A5 := am ae
  clear ae
  by_cases c6 : aI = true
  ·subst c6
   replace H : (if aN = aP then ((qAz.f).bind fun aE => (some aE)) else (none)) = some r := by rw [if_pos rfl] at H; exact H
   by_cases c7 : aN = aP
   ·rw [if_pos c7] at H
    have ai : (aN == aP) = true := beq_iff_eq.mpr c7
    have aj : (aN != aP) = false := bn c7
    clear c7
    replace H := bm H
    obtain ⟨aE, af, H⟩ := H
    replace H : (some aE) = some r := H
    have A8 := am af
    clear af
    obtain rfl := Option.some.inj H
    go_enter Tryz.func11, Tryz.ntmps11
    go_wp2_with (first | ((with_reducible refine qAV (N := 8) rfl ?_); refine Kd.R_lit (Kd.int .u8) _ 5 ?hg (N := 8) ?hd (xs := ([] : List Int)) (inner := []) (ok := fun _ => True) (okp := fun _ => True) ?hr ?hp (fun _ hk => hk) trivial (Below.refl _ _) (Nat.le_refl _) (by simp) ?_; (case hd => rfl); (case hg => rfl); (case hr => first | (go_simp; done) | (go_simp; rfl)); (case hp => exact (Reps.none _ _)); intro ab w9 ho10 hb hg_ hnew_; clear hg_ hnew_; (first | rw [← aV.o] at ho10 | (simp only [Int.reduceToNat] at ho10; rw [← aV.o] at ho10)); have n0_ := am (Kd.R_lower ho10 (qAm (by repeat (first | (with_reducible first | exact HB.o | apply qAg | apply qAe | apply qAj) | exact HB.o)))); have n1_ := am (qAq (by repeat (first | (with_reducible first | exact HB.o | apply qAg | apply qAe | apply qAj) | exact HB.o)) hb); clear HB; have aU := n0_; have HB := n1_; clear n0_ n1_; clear hb ho10) | ((with_reducible refine qCn (b := .append) (xs := #[.tmp 8, .tmp 9]) rfl ?_); at_builtin; refine Kd.R_append_rows (Kd.int .u8) (w0 := w) w.heap.size rfl (.tmp 8) (.tmp 9) 53 5 (.int .u8 0) 1 rfl Tryz.underlying53 info5 rfl (by decide) (by omega) ab aJ l0 _ _ _ (fun _ => True) (fun _ => False) rfl rfl ?aO ?aR (fun _ _ h => h) (fun _ h => h.elim) ?aF ?aB ?aS ?aL ?_; (case aR => repeat (first | exact (Kd.C_below ag.o HB.o) | (with_reducible refine Kd.C_alloc ?_ _) | (with_reducible refine Kd.C_drewN ?_ _) | (with_reducible refine Kd.C_drew ?_))); (case aB => exact (by repeat (first | (with_reducible first | exact HB.o | apply qAg | apply qAe | apply qAj) | exact HB.o))); (case aF => exact (fun _ _ => trivial)); (case aO => exact (by (with_reducible repeat (first | apply Kd.R_alloc | apply Kd.R_drewN | apply Kd.R_drew)); exact aU.o)); (case aS => exact (qAm (by repeat (first | (with_reducible first | exact HB.o | apply qAg | apply qAe | apply qAj) | exact HB.o)))); (case aL => have := a4.o; omega); intro al ap ho hb hg ak; rw [← aX.o] at ho; have n0_ := am (hb); have n1_ := am (ho); clear HB; clear aU; have HB := n0_; have aA := n1_; clear n0_ n1_; clear ho hb hg ak; obtain ⟨aZ, a5, a8⟩ := Kd.R_slice aA.o; subst a8) | ((with_reducible refine qA7 (f := 39) rfl ?_); refine qBG (some 11) rfl rfl Tryz.func39 (by kernel_rfl) rfl #[.slice aZ aW.length a5] rfl (by (try simp only [List.map_toArray, List.map_cons, List.map_nil]); first | done | rfl | (simp only [List.length_drop, List.length_take]; rfl)) ?_; (with_reducible refine (qAB.calls _ _ aW aQ aN _ ?side1 ?side2 A3.o).mono ?_); (case side1 => repeat (first | exact (Kd.R_reads' aA.o).2.2 | (with_reducible refine Kd.C_alloc ?_ _) | (with_reducible refine Kd.C_drewN ?_ _) | (with_reducible refine Kd.C_drew ?_))); (case side2 => exact (Kd.R_reads' aA.o).2.1); rintro e aq ⟨an, rfl, aY, hb⟩; refine ⟨_, rfl, ?_⟩; have n0_ := am (Kd.R_below (by (with_reducible repeat (first | apply Kd.R_alloc | apply Kd.R_drewN | apply Kd.R_drew)); exact aA.o) hb); have n1_ := am (Kd.R_lower aY (qAm (by repeat (first | (with_reducible first | exact HB.o | apply qAg | apply qAe | apply qAj) | exact HB.o)))); have n2_ := am (qAq (by repeat (first | (with_reducible first | exact HB.o | apply qAg | apply qAe | apply qAj) | exact HB.o)) hb); clear aA; clear HB; have aA := n0_; have aD := n1_; have HB := n2_; clear n0_ n1_ n2_) | ((with_reducible refine qA7 (f := 40) rfl ?_); refine qBG (some 16) rfl rfl Tryz.func40 (by kernel_rfl) rfl #[.slice A0 l0.length c0] rfl (by (try simp only [List.map_toArray, List.map_cons, List.map_nil]); first | done | rfl | (simp only [List.length_drop, List.length_take]; rfl)) ?_; (with_reducible refine (qAf.calls k (fun k_ => k_ < w.heap.size) _ _ l0 aT aP _ ?side1 A4.o).mono ?_); (case side1 => exact Kd.V_mk ah.o (Kd.F_below (Kd.C_F (Kd.heap_int .u8) ag.o) (by repeat (first | (with_reducible first | exact HB.o | apply qAg | apply qAe | apply qAj) | exact HB.o)))); rintro e ar ⟨ao, rfl, aY, hb⟩; refine ⟨_, rfl, ?_⟩; have n0_ := am (Kd.R_below (by (with_reducible repeat (first | apply Kd.R_alloc | apply Kd.R_drewN | apply Kd.R_drew)); exact aA.o) hb); have n1_ := am (Kd.R_below (by (with_reducible repeat (first | apply Kd.R_alloc | apply Kd.R_drewN | apply Kd.R_drew)); exact aD.o) hb); have n2_ := am (Kd.R_lower (Kd.R_mono (ok' := fun k_ => True) aY (fun _ hk_ => trivial)) (qAm (by repeat (first | (with_reducible first | exact HB.o | apply qAg | apply qAe | apply qAj) | exact HB.o)))); have n3_ := am (qAq (by repeat (first | (with_reducible first | exact HB.o | apply qAg | apply qAe | apply qAj) | exact HB.o)) hb); clear aA; clear aD; clear HB; have aA := n0_; have aD := n1_; have aH := n2_; have HB := n3_; clear n0_ n1_ n2_ n3_; obtain ⟨a1, a6, a9⟩ := Kd.R_slice aD.o; subst a9; obtain ⟨a3, a7, aa⟩ := Kd.R_slice aH.o; subst aa) | ((with_reducible refine qA7 (f := 35) rfl ?_); refine qBG (some 21) rfl rfl Tryz.func35 (by kernel_rfl) rfl #[.slice a1 aQ.length a6, .slice a3 aT.length a7] rfl (by (try simp only [List.map_toArray, List.map_cons, List.map_nil]); first | done | rfl | (simp only [List.length_drop, List.length_take]; rfl)) ?_; (with_reducible refine (qAl.calls k _ _ aQ _ _ aT true _ ?side1 ?side2 ?side3 ?side4 A5.o).mono ?_); (case side1 => repeat (first | exact (Kd.R_reads' aD.o).2.2 | (with_reducible refine Kd.C_alloc ?_ _) | (with_reducible refine Kd.C_drewN ?_ _) | (with_reducible refine Kd.C_drew ?_))); (case side2 => exact (Kd.R_reads' aD.o).2.1); (case side3 => repeat (first | exact (Kd.R_reads' aH.o).2.2 | (with_reducible refine Kd.C_alloc ?_ _) | (with_reducible refine Kd.C_drewN ?_ _) | (with_reducible refine Kd.C_drew ?_))); (case side4 => exact (Kd.R_reads' aH.o).2.1); rintro e au ⟨rfl, hb⟩; refine ⟨_, rfl, ?_⟩; have n0_ := am (Kd.R_below (by (with_reducible repeat (first | apply Kd.R_alloc | apply Kd.R_drewN | apply Kd.R_drew)); exact aA.o) hb); have n1_ := am (Kd.R_below (by (with_reducible repeat (first | apply Kd.R_alloc | apply Kd.R_drewN | apply Kd.R_drew)); exact aD.o) hb); have n2_ := am (Kd.R_below (by (with_reducible repeat (first | apply Kd.R_alloc | apply Kd.R_drewN | apply Kd.R_drew)); exact aH.o) hb); have n3_ := am (qAq (by repeat (first | (with_reducible first | exact HB.o | apply qAg | apply qAe | apply qAj) | exact HB.o)) hb); clear aA; clear aD; clear aH; clear HB; have aA := n0_; have aD := n1_; have aH := n2_; have HB := n3_; clear n0_ n1_ n2_ n3_) | (go_at_call 17; (with_reducible refine (qAz.calls  aE _ A8.o).mono ?_); rintro e av ⟨rfl, hb⟩; have n0_ := am (Kd.R_below (by (with_reducible repeat (first | apply Kd.R_alloc | apply Kd.R_drewN | apply Kd.R_drew)); exact aA.o) hb); have n1_ := am (Kd.R_below (by (with_reducible repeat (first | apply Kd.R_alloc | apply Kd.R_drewN | apply Kd.R_drew)); exact aD.o) hb); have n2_ := am (Kd.R_below (by (with_reducible repeat (first | apply Kd.R_alloc | apply Kd.R_drewN | apply Kd.R_drew)); exact aH.o) hb); have n3_ := am (qAq (by repeat (first | (with_reducible first | exact HB.o | apply qAg | apply qAe | apply qAj) | exact HB.o)) hb); clear aA; clear aD; clear aH; clear HB; have aA := n0_; have aD := n1_; have aH := n2_; have HB := n3_; clear n0_ n1_ n2_ n3_))
    go_ret
    exact ⟨by first | rfl | (simp [errW_none, errW_some] <;> rfl) | (simp [*, errW_none, errW_some] <;> rfl), by repeat (first | (with_reducible first | exact HB.o | apply qAg | apply qAe | apply qAj) | exact HB.o)⟩
   ·rw [if_neg c7] at H
    exact absurd H (by simp)
  ·replace c6 := Bool.eq_false_iff.mpr c6
   subst c6
   replace H : (none) = some r := by rw [if_neg (show ¬ (false = true) by decide)] at H; exact H
   exact absurd H (by simp)
 ·rw [if_neg c2] at H
  exact absurd H (by simp)
end Q
end
section
namespace Q
open Go.RowKit YA YC YB
open Val Ins DecLaw Enc
namespace C14
theorem u8_wf {n : Int} (h : (Lit.int .u8 n).wf = true) : 0 ≤ n ∧ n < 256 := by
 simp [Lit.wf, IntKind.min, IntKind.max, IntKind.bits, IntKind.signed] at h
 omega
theorem decL_len : ∀ (k : Nat) (l : List InsD) (r : List Int), l.length ≤ 4096 → (decL k l r).1.length ≤ 4096
 | 0, l, r, _ => by simp [decL]
 | k + 1, l, r, h => by
  unfold decL
  split
  ·exact h
  split
  ·split
   ·simp
   rename_i h1
   exact decL_len k _ _ (by rw [List.length_append]; simp; omega)
  simp
theorem decodes_ev (b : List Int) (hg : b.length ≤ 1048576 ∧ ∀ x ∈ b, (Lit.int .u8 x).wf = true) : Ev (fun k => foundrylaw14_CodeDecodes.f k b) true := by
 obtain ⟨hl, hw⟩ := hg
 have hb : qBT b := fun x hx => u8_wf (hw x hx)
 have hD : qAB.f b = some ((decL (b.length + 1) [] b).1.map toS, (decL (b.length + 1) [] b).2) := by
  unfold qAB.f
  rw [if_pos]
  exact List.all_eq_true.2 fun x hx => by simpa using hb x hx
 have hlen := decL_len (b.length + 1) [] b (by simp)
 have e : (decL (b.length + 1) [] b).1.map toS = ((decL (b.length + 1) [] b).1.map toSR).map ofI := by
  rw [List.map_map]; rfl
 have h := same_ev ((decL (b.length + 1) [] b).1.map toSR) (by rw [List.length_map]; omega)
 rw [← e] at h
 unfold foundrylaw14_CodeDecodes.f
 have c : ([] : List Int).length + b.length < 140737488355328 := by simp; omega
 simp only [Option.bind_some, c, if_true, List.nil_append, hD]
 refine Ev.bind (rdecode_ev b hb (by omega)) ?_
 refine Ev.bind h ?_
 simp only [if_true, live_eq, Option.bind_some]
 exact Ev.now _
end C14
end Q
end
section
namespace codeDecodes
open Go.ChangeShapes Go.WideShapes Go.ChangeAt Go.RowKit
theorem own : ownKnob Tryz.prog.godebug = none := by kernel_rfl
theorem laidOut : laidOutB Tryz.prog = true := by kernel_rfl
theorem contract (H : Type) (enc : TypeId × Value → H) (W : World) (base : Nat) (args : Array Value) (ds gs : List (DataW H)) (before : List MemPlace)
  (hval0 : ∀ (j : Nat) t v, Tryz.f11.params[j]? = some t → args[j]? = some v → Value.okWide Tryz.prog W .any base t v)
  (hW : DataW.Whole enc Tryz.prog Tryz.f11.params.toList Rows.codeDecodesSpec.vars false W args.toList ds gs before) (hk0 : decide (Rows.uptoBulkAll (ds ++ gs) ≤ 1048576) = true) :
  Calls Tryz.prog 11 args W fun e W' => ∃ v, e = .returned v ∧ Rows.codeDecodesSpec.post enc Tryz.prog Tryz.f11 false true false false W args v W' := by
 have hval : ∀ (j : Nat) t v, Tryz.f11.params[j]? = some t → args[j]? = some v → Value.okWide Tryz.prog W .any base t v := hval0
 have hW' := hW
 obtain ⟨p, q, hA0, hV, rfl, hfz, hnd⟩ := hW
 have hA : DataW.TrodAll enc Tryz.prog W 0 (fun _ => true) true Tryz.f11.params.toList args.toList ds p := hA0
 rw [Tryz.params11] at hA hval
 obtain ⟨v0, vs0, d0, ds0, p0, q0, hargs, rfl, rfl, h0, r0⟩ := trodAll_cons hA
 obtain ⟨rfl, rfl, rfl⟩ := trodAll_nil r0
 obtain rfl : args = #[v0] := by cases args; simp_all
 obtain ⟨rfl, rfl⟩ := trodVars_none hV
 have hk := of_decide_eq_true hk0
 simp only [List.append_nil, Rows.uptoBulkAll] at hk
 have k0 := h0
 have lt0 : ∀ x ∈ p0, x.block < W.heap.size := by obtain ⟨m, hm⟩ := k0; exact DataW.trod_lt m _ _ _ hm
 obtain ⟨sa0, sl0, sc0, rfl⟩ := okWide_slice Tryz.underlying53 (hval 0 53 v0 rfl rfl)
 obtain ⟨fuel0, hf0⟩ := h0
 obtain ⟨x0, hK0, hG0⟩ := (Q.opens_slice Tryz.underlying53 (by kernel_rfl) (Q.opens_int (w := W) (N := 1048576) (k := .u8) (by kernel_rfl))) H enc 0 (fun _ => true) true fuel0 _ _ hf0 (by show Rows.uptoBulk d0 ≤ _; omega)
 obtain ⟨A0, c0, he0, l0, g0⟩ := hK0
 have he0 : [Value.slice sa0 sl0 sc0] = [Value.slice A0 x0.length c0] := he0
 injection he0 with he0 _
 simp only [Value.slice.injEq] at he0
 obtain ⟨rfl, rfl, rfl⟩ := he0
 clear hf0
 obtain ⟨k, hkk⟩ := (Q.C14.decodes_ev x0 hG0).rounds
 clear hA0 hval0
 refine (Q.foundrylaw14_CodeDecodes.calls k sa0 sc0 x0 true W g0 l0 hkk).mono fun e W' ⟨he', bel⟩ => ?_
 subst he'
 exact ⟨_, rfl, _, _, _, [], _, [], hW', trodAll_mk1 (shut_bool Tryz.underlying4 _), (trodAll_cons_mk (Below.trod laidOut (by kernel_rfl) (of_decide_eq_true (by kernel_rfl)) k0 bel lt0) trodAll_mk0), rfl, bel.frame _, fun h => by cases h⟩
theorem row_shaped {H : Type} {enc : TypeId × Value → H} {C : Checked} {os : Os} {f : FuncId} {fn : Func} {s : OpenSpec} {conds : List PathCond} {apart : Bool} {laid : List (String × DataW Unit)} (modest : Bool) (w0 : World) (args : Array Value) (hos : w0.os = os)
  (hsh : (w0.forCall (fun _ _ => 0) ⟨#[], args, []⟩).Shaped C.prog)
  (hok : Input.okWideB C.prog (w0.forCall (fun _ _ => 0) ⟨#[], args, []⟩) f ⟨#[], args, []⟩ = true)
  (hrow : s.preRow enc C.prog fn conds apart laid (w0.forCall (fun _ _ => 0) ⟨#[], args, []⟩).memory args) :
  ∃ (w : World) (tape : Tape) (i : Input), w.os = os ∧ (w.forCall tape i).Shaped C.prog ∧ i.vars = [] ∧ Input.okWide C.prog (w.forCall tape i) .any w.heap.size f i ∧
   s.preRow enc C.prog fn conds apart laid (w.forCall tape i).memory i.args ∧ ({ modest := modest } : Assume).holds C.prog (lone (Frame.enter C.prog f i.args .normal) [] (w.forCall tape i)) :=
 ⟨w0, fun _ _ => 0, ⟨#[], args, []⟩, hos, hsh, (Input.okWide_of_okWideB (base := 0) hok).1, (Input.okWide_of_okWideB hok).2, hrow, by
   simp only [Assume.holds]
   exact ⟨by simp, by simp, fun _ => Modest.zero, by simp, by simp⟩⟩
theorem laid_met (os : Os) : laidMet Tryz.prog Rows.codeDecodesUptoRow.laid (((World.laidAll Tryz.prog os Rows.codeDecodesUptoRow.laid)).forCall (fun _ _ => 0) ⟨#[], #[.slice none 0 0], []⟩).memory := laidMet_laidAll _ (by kernel_rfl) (by kernel_rfl)
theorem reads (os : Os) {H : Type} (enc : TypeId × Value → H) : ∃ places, DataW.whole enc Tryz.prog ((World.laidAll Tryz.prog os Rows.codeDecodesUptoRow.laid).forCall (fun _ _ => 0) ⟨#[], #[.slice none 0 0], []⟩).memory Tryz.f11.params.toList Rows.codeDecodesSpec.vars false (#[.slice none 0 0] : Array Value).toList 8 = some ([.nil], [], places) :=
 ⟨[], by kernel_rfl⟩
theorem lifted (os : Os) (started : os.Started) (H : Type) (enc : TypeId × Value → H) (F : Stop.Interp) :
  ReturnsInHanded {} Tryz.checked os 11 .any ((Rows.OpenSpec.upto Rows.codeDecodesSpec).preRow enc Tryz.prog Tryz.f11 Rows.codeDecodesUptoRow.domain false Rows.codeDecodesUptoRow.laid) (((Rows.OpenSpec.upto Rows.codeDecodesSpec).at F).post enc Tryz.prog Tryz.f11 false true false false) := by
 obtain ⟨places, hx⟩ := reads os enc
 refine returnsInHanded_of_row (C := Tryz.checked) (s := Rows.OpenSpec.upto Rows.codeDecodesSpec) own started (by kernel_rfl) Tryz.func11
  (row_shaped (enc := enc) (C := Tryz.checked) false (World.laidAll Tryz.prog os Rows.codeDecodesUptoRow.laid) #[.slice none 0 0] (World.laidAll_os _ _ _) (World.shaped_of_ZipB (by kernel_rfl) (by kernel_rfl)) (by kernel_rfl)
    (OpenSpec.preRow_of_cond (s := Rows.OpenSpec.upto Rows.codeDecodesSpec) 8 hx (by kernel_rfl) (fun k hk => by cases hk; kernel_rfl) (by kernel_rfl) (laid_met os))) ?_
 intro W base args ds gs before hval hW _ hcond _ hL _ _
 exact contract H enc W base args ds gs before hval hW (hcond _ rfl)
theorem saidUpto : Rows.CodeDecodesUptoSaid :=
 OpenClaim.holds_of_cond 11 Tryz.f11 rfl rfl rfl rfl rfl rfl rfl ⟨rfl, rfl, rfl, rfl, rfl⟩ rfl rfl rfl rfl rfl (by kernel_rfl) Tryz.func11 (by kernel_rfl)
  (of_decide_eq_true (by kernel_rfl)) (by unfold Func.isWrapper; first | (rw [if_pos (by decide +kernel)]; kernel_rfl) | (rw [if_neg (by decide +kernel)]; exact ⟨rfl, rfl⟩))
  (fun os started H enc _ F => by rw [OpenClaim.pre_eq_preRow]; exact lifted os started H enc F)
theorem plain (f : FuncId) (fn : Func) (hf : Tryz.pinned.checked.prog.funcNamed "foundry/foundrylaw14.CodeDecodes" = some f) (hfn : Tryz.pinned.checked.prog.funcs[f]? = some fn) :
  false = Tryz.pinned.checked.prog.looks [] ∧ ∀ (j : Nat) t, fn.params[j]? = some t → Tryz.pinned.checked.prog.wantsStandIn t = false := by
 obtain rfl : f = 11 := Option.some.inj ((show Tryz.prog.funcNamed "foundry/foundrylaw14.CodeDecodes" = some 11 by kernel_rfl).symm.trans hf) |>.symm
 obtain rfl : fn = Tryz.f11 := (Option.some.inj (Tryz.func11.symm.trans hfn)).symm
 refine ⟨by kernel_rfl, fun j t ht => ?_⟩
 rw [Tryz.params11] at ht
 have hm : t = 53 := by simpa using Array.mem_of_getElem? ht
 rcases hm with rfl
 ·exact (show Tryz.prog.wantsStandIn 53 = false by kernel_rfl)
theorem card : Rows.CodeDecodesUptoCardSaid :=
 Claim7.holds_tied_plain_at .later [] _ _ _ _ saidUpto (fun _ h => by cases h) (by kernel_rfl) (fun _ h => by cases h) codeDecodesUpto_row_tie rfl ⟨rfl, rfl⟩ (by kernel_rfl) rfl plain (by kernel_rfl)
end codeDecodes

theorem codeDecodes_card : Rows.CodeDecodesUptoCardSaid := codeDecodes.card
end
end Go.Proofs.YtfddibbignedkaaGreatDoor
