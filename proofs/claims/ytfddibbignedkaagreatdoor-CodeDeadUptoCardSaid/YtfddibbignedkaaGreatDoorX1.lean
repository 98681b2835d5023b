/- CodeDead, where what it reads is of bulk at most 1048576: an instruction that is never come to may be any other right one, but nothing else changes. -/
import Derived.Test.YtfddibbignedkaaGreatDoorB4
import Derived.Test.YtfddibbignedkaaGreatDoorH1
set_option maxHeartbeats 8000000
set_option maxRecDepth 100000
set_option linter.unusedVariables false
set_option linter.unusedSimpArgs false
namespace Go.Proofs.YtfddibbignedkaaGreatDoor
section
namespace Q
open Go.RowKit YA YC YB
attribute [local go_sem] max2_int min2_int max_two min_two max_three min_three max_four min_four
def foundrylaw14_alike.l0 : Nat → List Int → List Int → Int → Option (Bool)
 | 0, _, _, _ => none
 | k + 1, x0, x1, x5 => if x5 < (x0.length : Int) then (if 0 ≤ x5 then (if x5 < (x1.length : Int) then (if (rd x0 x5) = (rd x1 x5) then (foundrylaw14_alike.l0 k x0 x1 (wrap64 (x5 + 1))) else (some false)) else (none)) else (none)) else (some true)
def foundrylaw14_alike.f (k : Nat) (l0 : List Int) (l1 : List Int) : Option (Bool) := if (l0.length : Int) = (l1.length : Int) then (foundrylaw14_alike.l0 k l0 l1 0) else (some false)
theorem foundrylaw14_alike.calls (k : Nat) (A0 : Option Addr) (c0 : Nat) (l0 : List Int) (A1 : Option Addr) (c1 : Nat) (l1 : List Int) (r : Bool) (w : World) (hr0 : Kd.C (Kd.int .i64) w A0 l0.length l0) (hc0 : l0.length ≤ c0) (hr1 : Kd.C (Kd.int .i64) w A1 l1.length l1) (hc1 : l1.length ≤ c1) (h : foundrylaw14_alike.f k l0 l1 = some r) :
  Calls Tryz.prog 31 #[.slice A0 l0.length c0, .slice A1 l1.length c1] w fun e w' => e = .returned (.bool r) ∧ qAX w w' := by
 have aS := am hr0
 have aW := am hc0
 clear hr0 hc0
 have aT := am hr1
 have aX := am hc1
 clear hr1 hc1
 have H : (if (l0.length : Int) = (l1.length : Int) then (foundrylaw14_alike.l0 k l0 l1 0) else (some false)) = some r := h
 clear h
 by_cases c3 : (l0.length : Int) = (l1.length : Int)
 ·rw [if_pos c3] at H
  have aL : ((l0.length : Int) == (l1.length : Int)) = true := beq_iff_eq.mpr c3
  have aM : ((l0.length : Int) != (l1.length : Int)) = false := bn c3
  have aN : (l0.length == l1.length) = true := by first | simpa using c3 | (simp at c3 ⊢; omega)
  clear c3
  have H' := am H
  clear H
  go_enter Tryz.func31, Tryz.ntmps31
  go_wp2
  repeat (go_quiet (fail); try go_wp2)
  go_loopg [5] k (fun kq v5 w' => ∃ (aA : Int), v5 = .int .i64 aA ∧ qAd (foundrylaw14_alike.l0 kq l0 l1 aA = some r) ∧ qAd (kq ≤ k) ∧ qAX w w')
  case atStart => exact ⟨(0), (by first | rfl | (simp; done) | (simp [*]; done)), H', ⟨Nat.le_refl _⟩, by repeat (first | exact qAX.refl _ | apply qAX.step)⟩
  case round =>
   clear H'
   obtain ⟨aA, rfl, HA, aR, ⟨m1, rfl⟩⟩ := hrel
   cases gk with
   | zero => exact absurd HA.o (by simp [foundrylaw14_alike.l0])
   | succ k1 =>
    have H := HA.o
    clear HA
    simp only [foundrylaw14_alike.l0] at H
    by_cases c4 : aA < (l0.length : Int)
    rotate_left
    ·rw [if_neg c4] at H
     replace c4 := d0 c4
     obtain rfl := Option.some.inj H
     go_wp2
     repeat (go_quiet (fail); try go_wp2)
     go_ret
     exact ⟨by first | rfl | (simp; done) | (simp [*]; done), by repeat (first | exact qAX.refl _ | apply qAX.step)⟩
    rw [if_pos c4] at H
    replace c4 := d1 c4
    obtain ⟨c5, H⟩ := gd H
    replace c5 := d1 c5
    obtain ⟨c6, H⟩ := gd H
    replace c6 := d1 c6
    by_cases c7 : (rd l0 aA) = (rd l1 aA)
    rotate_left
    ·rw [if_neg c7] at H
     have aP : ((rd l0 aA) == (rd l1 aA)) = false := bf c7
     have aQ : ((rd l0 aA) != (rd l1 aA)) = true := bne_iff_ne.mpr c7
     obtain rfl := Option.some.inj H
     have aB : 0 ≤ (aA : Int) := of_decide_eq_true (by first | (with_reducible assumption) | assumption)
     have aD : aA < (l0.length : Int) := of_decide_eq_true (by first | (with_reducible assumption) | assumption)
     obtain ⟨aJ, aH, aF⟩ := Kd.at_int aS.o aA aB aD
     cases aH
     replace aB := eq_true aB
     replace aD := eq_true aD
     have aC : 0 ≤ (aA : Int) := of_decide_eq_true (by first | (with_reducible assumption) | assumption)
     have aE : aA < (l1.length : Int) := of_decide_eq_true (by first | (with_reducible assumption) | assumption)
     obtain ⟨aK, aI, aG⟩ := Kd.at_int aT.o aA aC aE
     cases aI
     replace aC := eq_true aC
     replace aE := eq_true aE
     go_wp2
     repeat (go_quiet (fail); try go_wp2)
     go_ret
     exact ⟨by first | rfl | (simp; done) | (simp [*]; done), by repeat (first | exact qAX.refl _ | apply qAX.step)⟩
    rw [if_pos c7] at H
    have aP : ((rd l0 aA) == (rd l1 aA)) = true := beq_iff_eq.mpr c7
    have aQ : ((rd l0 aA) != (rd l1 aA)) = false := bn c7
    clear c7
    have H' := am H
    clear H
    have aB : 0 ≤ (aA : Int) := of_decide_eq_true (by first | (with_reducible assumption) | assumption)
    have aD : aA < (l0.length : Int) := of_decide_eq_true (by first | (with_reducible assumption) | assumption)
    obtain ⟨aJ, aH, aF⟩ := Kd.at_int aS.o aA aB aD
    cases aH
    replace aB := eq_true aB
    replace aD := eq_true aD
    have aC : 0 ≤ (aA : Int) := of_decide_eq_true (by first | (with_reducible assumption) | assumption)
    have aE : aA < (l1.length : Int) := of_decide_eq_true (by first | (with_reducible assumption) | assumption)
    obtain ⟨aK, aI, aG⟩ := Kd.at_int aT.o aA aC aE
    cases aI
    replace aC := eq_true aC
    replace aE := eq_true aE
    go_wp2
    repeat (go_quiet (fail); try go_wp2)
    go_roundg k1
    case measure => have := aR.o; omega
    case rel => exact ⟨(wrap64 (aA + 1)), (by first | rfl | (simp; done) | (simp [*]; done)), H', ⟨by have := aR.o; omega⟩, by repeat (first | exact qAX.refl _ | apply qAX.step)⟩
 ·rw [if_neg c3] at H
  have aL : ((l0.length : Int) == (l1.length : Int)) = false := bf c3
  have aM : ((l0.length : Int) != (l1.length : Int)) = true := bne_iff_ne.mpr c3
  have aN : (l0.length == l1.length) = false := by first | simpa using c3 | (simp at c3 ⊢; omega)
  obtain rfl := Option.some.inj H
  go_enter Tryz.func31, Tryz.ntmps31
  go_wp2
  repeat (go_quiet (fail); try go_wp2)
  go_ret
  exact ⟨by first | rfl | (simp; done) | (simp [*]; done), by repeat (first | exact qAX.refl _ | apply qAX.step)⟩
mutual
def foundrylaw14_CodeDead.j0 : Nat → Int → Bool → List Int → Int → List Int → List (S50) → List Int → Int → List Int → List (S51) → List (S34) → List Int → Int → Int → Int → Int → Option (Bool)
 | 0, _, _, _, _, _, _, _, _, _, _, _, _, _, _, _, _ => none
 | k + 1, x2, hG, el, em, en, eo, cD, cE, cF, bw, bs, bu, ep, eq, er, es => if hG = true then (some true) else ((qAG.f k el em en eo).bind fun bi => (if 0 ≤ x2 then (if x2 < (bi.2.2.2.length : Int) then ((some (bi.2.2.2.set (x2 : Int).toNat (⟨ep, eq, (⟨er, es⟩ : S48)⟩ : S51) : List (S51))).bind fun ba => ((qAN.f bi.1 bi.2.1 bi.2.2.1 ba bs bu).bind fun cK => (if cK.2 = 0 then (foundrylaw14_CodeDead.j1 k (cK.1 != 0) cD cE cF bw bs bu bi.1 bi.2.1 bi.2.2.1 ba) else (foundrylaw14_CodeDead.j1 k true cD cE cF bw bs bu bi.1 bi.2.1 bi.2.2.1 ba)))) else (none)) else (none)))
def foundrylaw14_CodeDead.j1 : Nat → Bool → List Int → Int → List Int → List (S51) → List (S34) → List Int → List Int → Int → List Int → List (S51) → Option (Bool)
 | 0, _, _, _, _, _, _, _, _, _, _, _ => none
 | k + 1, hH, cD, cE, cF, bw, bs, bu, cT, cU, cV, cW => if hH = true then (none) else (foundrylaw14_CodeDead.l0 k 0 cD cE cF bw bs bu cT cU cV cW)
def foundrylaw14_CodeDead.l0 : Nat → Int → List Int → Int → List Int → List (S51) → List (S34) → List Int → List Int → Int → List Int → List (S51) → Option (Bool)
 | 0, _, _, _, _, _, _, _, _, _, _, _ => none
 | k + 1, fv, cD, cE, cF, bw, bs, bu, cT, cU, cV, cW => if fv < (bw.length : Int) then ((qBI.f cD cE cF bw bs bu fv).bind fun dI => ((qBI.f cT cU cV cW bs bu fv).bind fun cY => (if (dI.2.2 != cY.2.2) = true then (none) else (if dI.2.1 = cY.2.1 then ((foundrylaw14_alike.f k dI.1 cY.1).bind fun cl => (if cl = true then (foundrylaw14_CodeDead.l0 k (wrap64 (fv + 1)) cD cE cF bw bs bu cT cU cV cW) else (none))) else (none))))) else (some true)
end
def foundrylaw14_CodeDead.f (k : Nat) (l0_0 : List Int) (a0_1 : Int) (l0_2 : List Int) (l0_3 : List (S50)) (l1_0 : List (S24)) (l1_1 : List Int) (a2 : Int) (a3_0 : Int) (a3_1 : Int) (a3_2 : Int) (a3_3 : Int) : Option (Bool) := (qAz.f).bind fun dD => (if dD = true then ((qAG.f k l0_0 a0_1 l0_2 l0_3).bind fun aL => ((qAx.f k l1_0 l1_1).bind fun ag => ((qAN.f aL.1 aL.2.1 aL.2.2.1 aL.2.2.2 ag.1 ag.2).bind fun cJ => ((qBI.f aL.1 aL.2.1 aL.2.2.1 aL.2.2.2 ag.1 ag.2 a2).bind fun cA => (if cJ.2 = 0 then (if cA.2.2 = true then (foundrylaw14_CodeDead.j0 k a2 true l0_0 a0_1 l0_2 l0_3 aL.1 aL.2.1 aL.2.2.1 aL.2.2.2 ag.1 ag.2 a3_0 a3_1 a3_2 a3_3) else (if a2 < 0 then (foundrylaw14_CodeDead.j0 k a2 true l0_0 a0_1 l0_2 l0_3 aL.1 aL.2.1 aL.2.2.1 aL.2.2.2 ag.1 ag.2 a3_0 a3_1 a3_2 a3_3) else (if a2 ≥ (aL.2.2.2.length : Int) then (foundrylaw14_CodeDead.j0 k a2 true l0_0 a0_1 l0_2 l0_3 aL.1 aL.2.1 aL.2.2.1 aL.2.2.2 ag.1 ag.2 a3_0 a3_1 a3_2 a3_3) else ((qDJ.f a3_0 a3_1 a3_2 a3_3).bind fun bz => (foundrylaw14_CodeDead.j0 k a2 (!bz) l0_0 a0_1 l0_2 l0_3 aL.1 aL.2.1 aL.2.2.1 aL.2.2.2 ag.1 ag.2 a3_0 a3_1 a3_2 a3_3))))) else (foundrylaw14_CodeDead.j0 k a2 true l0_0 a0_1 l0_2 l0_3 aL.1 aL.2.1 aL.2.2.1 aL.2.2.2 ag.1 ag.2 a3_0 a3_1 a3_2 a3_3)))))) else (none))
def foundrylaw14_CodeDead.T3 : Bool × List (List Nat × List Nat) := (true, [([], []), ([0], [0]), ([], []), ([2, 1], [2]), ([], []), ([], []), ([4, 1, 3, 0, 1, 4, 5], [1, 4]), ([5, 3, 6, 0, 1, 2, 3, 4, 5, 6], [3, 5])])
def foundrylaw14_CodeDead.B3 : List Nat := [0, 1, 0, 7, 0, 0, 63, 127]
theorem foundrylaw14_CodeDead.tab3 : rtab .any (opsOf Tryz.f8 3) = foundrylaw14_CodeDead.T3 := by kernel_rfl
theorem foundrylaw14_CodeDead.bits3 : qCd foundrylaw14_CodeDead.T3.2 foundrylaw14_CodeDead.B3 = true := by kernel_rfl
theorem foundrylaw14_CodeDead.calls (k : Nat) (aa : Option Addr) (ad : Nat) (l0_0 : List Int) (a0_1 : Int) (ab : Option Addr) (ae : Nat) (l0_2 : List Int) (ac : Option Addr) (af : Nat) (l0_3 : List (S50)) (aj : Option Addr) (al : Nat) (l1_0 : List (S24)) (ak : Option Addr) (an : Nat) (l1_1 : List Int) (a2 : Int) (a3_0 : Int) (a3_1 : Int) (a3_2 : Int) (a3_3 : Int) (r : Bool) (w : World) (hr0_0 : Kd.C (Kd.int .i64) w aa l0_0.length l0_0) (hc0_0 : l0_0.length ≤ ad) (hr0_2 : Kd.C (Kd.int .i64) w ab l0_2.length l0_2) (hc0_2 : l0_2.length ≤ ae) (hr0_3 : Kd.C k50 w ac l0_3.length l0_3) (hc0_3 : l0_3.length ≤ af) (hr1_0 : Kd.C k24 w aj l1_0.length l1_0) (hc1_0 : l1_0.length ≤ al) (hr1_1 : Kd.C (Kd.int .i64) w ak l1_1.length l1_1) (hc1_1 : l1_1.length ≤ an) (h : foundrylaw14_CodeDead.f k l0_0 a0_1 l0_2 l0_3 l1_0 l1_1 a2 a3_0 a3_1 a3_2 a3_3 = some r) :
  Calls Tryz.prog 8 #[.agg #[.slice aa l0_0.length ad, .int .i64 a0_1, .slice ab l0_2.length ae, .slice ac l0_3.length af], .agg #[.slice aj l1_0.length al, .slice ak l1_1.length an], .int .i64 a2, .agg #[.int .i64 a3_0, .int .i64 a3_1, .int .i64 a3_2, .int .u64 a3_3]] w fun e w' => e = .returned (.bool r) ∧ Below w.heap.size w w' := by
 have ci := am hr0_0
 have ce := am hc0_0
 clear hr0_0 hc0_0
 have cj := am hr0_2
 have cf := am hc0_2
 clear hr0_2 hc0_2
 have ck := am hr0_3
 have cg := am hc0_3
 clear hr0_3 hc0_3
 have cq := am hr1_0
 have co := am hc1_0
 clear hr1_0 hc1_0
 have cr := am hr1_1
 have cp := am hc1_1
 clear hr1_1 hc1_1
 have HB := am (Below.refl w.heap.size w)
 have H : ((qAz.f).bind fun dD => (if dD = true then ((qAG.f k l0_0 a0_1 l0_2 l0_3).bind fun aL => ((qAx.f k l1_0 l1_1).bind fun ag => ((qAN.f aL.1 aL.2.1 aL.2.2.1 aL.2.2.2 ag.1 ag.2).bind fun cJ => ((qBI.f aL.1 aL.2.1 aL.2.2.1 aL.2.2.2 ag.1 ag.2 a2).bind fun cA => (if cJ.2 = 0 then (if cA.2.2 = true then (foundrylaw14_CodeDead.j0 k a2 true l0_0 a0_1 l0_2 l0_3 aL.1 aL.2.1 aL.2.2.1 aL.2.2.2 ag.1 ag.2 a3_0 a3_1 a3_2 a3_3) else (if a2 < 0 then (foundrylaw14_CodeDead.j0 k a2 true l0_0 a0_1 l0_2 l0_3 aL.1 aL.2.1 aL.2.2.1 aL.2.2.2 ag.1 ag.2 a3_0 a3_1 a3_2 a3_3) else (if a2 ≥ (aL.2.2.2.length : Int) then (foundrylaw14_CodeDead.j0 k a2 true l0_0 a0_1 l0_2 l0_3 aL.1 aL.2.1 aL.2.2.1 aL.2.2.2 ag.1 ag.2 a3_0 a3_1 a3_2 a3_3) else ((qDJ.f a3_0 a3_1 a3_2 a3_3).bind fun bz => (foundrylaw14_CodeDead.j0 k a2 (!bz) l0_0 a0_1 l0_2 l0_3 aL.1 aL.2.1 aL.2.2.1 aL.2.2.2 ag.1 ag.2 a3_0 a3_1 a3_2 a3_3))))) else (foundrylaw14_CodeDead.j0 k a2 true l0_0 a0_1 l0_2 l0_3 aL.1 aL.2.1 aL.2.2.1 aL.2.2.2 ag.1 ag.2 a3_0 a3_1 a3_2 a3_3)))))) else (none))) = some r := h
 clear h
 replace H := bm H
 obtain ⟨dD, gU, H⟩ := H
 replace H : (if dD = true then ((qAG.f k l0_0 a0_1 l0_2 l0_3).bind fun aL => ((qAx.f k l1_0 l1_1).bind fun ag => ((qAN.f aL.1 aL.2.1 aL.2.2.1 aL.2.2.2 ag.1 ag.2).bind fun cJ => ((qBI.f aL.1 aL.2.1 aL.2.2.1 aL.2.2.2 ag.1 ag.2 a2).bind fun cA => (if cJ.2 = 0 then (if cA.2.2 = true then (foundrylaw14_CodeDead.j0 k a2 true l0_0 a0_1 l0_2 l0_3 aL.1 aL.2.1 aL.2.2.1 aL.2.2.2 ag.1 ag.2 a3_0 a3_1 a3_2 a3_3) else (if a2 < 0 then (foundrylaw14_CodeDead.j0 k a2 true l0_0 a0_1 l0_2 l0_3 aL.1 aL.2.1 aL.2.2.1 aL.2.2.2 ag.1 ag.2 a3_0 a3_1 a3_2 a3_3) else (if a2 ≥ (aL.2.2.2.length : Int) then (foundrylaw14_CodeDead.j0 k a2 true l0_0 a0_1 l0_2 l0_3 aL.1 aL.2.1 aL.2.2.1 aL.2.2.2 ag.1 ag.2 a3_0 a3_1 a3_2 a3_3) else ((qDJ.f a3_0 a3_1 a3_2 a3_3).bind fun bz => (foundrylaw14_CodeDead.j0 k a2 (!bz) l0_0 a0_1 l0_2 l0_3 aL.1 aL.2.1 aL.2.2.1 aL.2.2.2 ag.1 ag.2 a3_0 a3_1 a3_2 a3_3))))) else (foundrylaw14_CodeDead.j0 k a2 true l0_0 a0_1 l0_2 l0_3 aL.1 aL.2.1 aL.2.2.1 aL.2.2.2 ag.1 ag.2 a3_0 a3_1 a3_2 a3_3)))))) else (none)) = some r := H
 have A5 := am gU
 clear gU
 by_cases c6 : dD = true
 ·subst c6
  replace H : ((qAG.f k l0_0 a0_1 l0_2 l0_3).bind fun aL => ((qAx.f k l1_0 l1_1).bind fun ag => ((qAN.f aL.1 aL.2.1 aL.2.2.1 aL.2.2.2 ag.1 ag.2).bind fun cJ => ((qBI.f aL.1 aL.2.1 aL.2.2.1 aL.2.2.2 ag.1 ag.2 a2).bind fun cA => (if cJ.2 = 0 then (if cA.2.2 = true then (foundrylaw14_CodeDead.j0 k a2 true l0_0 a0_1 l0_2 l0_3 aL.1 aL.2.1 aL.2.2.1 aL.2.2.2 ag.1 ag.2 a3_0 a3_1 a3_2 a3_3) else (if a2 < 0 then (foundrylaw14_CodeDead.j0 k a2 true l0_0 a0_1 l0_2 l0_3 aL.1 aL.2.1 aL.2.2.1 aL.2.2.2 ag.1 ag.2 a3_0 a3_1 a3_2 a3_3) else (if a2 ≥ (aL.2.2.2.length : Int) then (foundrylaw14_CodeDead.j0 k a2 true l0_0 a0_1 l0_2 l0_3 aL.1 aL.2.1 aL.2.2.1 aL.2.2.2 ag.1 ag.2 a3_0 a3_1 a3_2 a3_3) else ((qDJ.f a3_0 a3_1 a3_2 a3_3).bind fun bz => (foundrylaw14_CodeDead.j0 k a2 (!bz) l0_0 a0_1 l0_2 l0_3 aL.1 aL.2.1 aL.2.2.1 aL.2.2.2 ag.1 ag.2 a3_0 a3_1 a3_2 a3_3))))) else (foundrylaw14_CodeDead.j0 k a2 true l0_0 a0_1 l0_2 l0_3 aL.1 aL.2.1 aL.2.2.1 aL.2.2.2 ag.1 ag.2 a3_0 a3_1 a3_2 a3_3)))))) = some r := by rw [if_pos rfl] at H; exact H
  replace H := bm H
  obtain ⟨⟨aP, au, aR, aV⟩, gV, H⟩ := H
  replace H : ((qAx.f k l1_0 l1_1).bind fun ag => ((qAN.f aP au aR aV ag.1 ag.2).bind fun cJ => ((qBI.f aP au aR aV ag.1 ag.2 a2).bind fun cA => (if cJ.2 = 0 then (if cA.2.2 = true then (foundrylaw14_CodeDead.j0 k a2 true l0_0 a0_1 l0_2 l0_3 aP au aR aV ag.1 ag.2 a3_0 a3_1 a3_2 a3_3) else (if a2 < 0 then (foundrylaw14_CodeDead.j0 k a2 true l0_0 a0_1 l0_2 l0_3 aP au aR aV ag.1 ag.2 a3_0 a3_1 a3_2 a3_3) else (if a2 ≥ (aV.length : Int) then (foundrylaw14_CodeDead.j0 k a2 true l0_0 a0_1 l0_2 l0_3 aP au aR aV ag.1 ag.2 a3_0 a3_1 a3_2 a3_3) else ((qDJ.f a3_0 a3_1 a3_2 a3_3).bind fun bz => (foundrylaw14_CodeDead.j0 k a2 (!bz) l0_0 a0_1 l0_2 l0_3 aP au aR aV ag.1 ag.2 a3_0 a3_1 a3_2 a3_3))))) else (foundrylaw14_CodeDead.j0 k a2 true l0_0 a0_1 l0_2 l0_3 aP au aR aV ag.1 ag.2 a3_0 a3_1 a3_2 a3_3))))) = some r := H
  have A7 := am gV
  clear gV
  replace H := bm H
  obtain ⟨⟨ao, aW⟩, fl, H⟩ := H
  replace H : ((qAN.f aP au aR aV ao aW).bind fun cJ => ((qBI.f aP au aR aV ao aW a2).bind fun cA => (if cJ.2 = 0 then (if cA.2.2 = true then (foundrylaw14_CodeDead.j0 k a2 true l0_0 a0_1 l0_2 l0_3 aP au aR aV ao aW a3_0 a3_1 a3_2 a3_3) else (if a2 < 0 then (foundrylaw14_CodeDead.j0 k a2 true l0_0 a0_1 l0_2 l0_3 aP au aR aV ao aW a3_0 a3_1 a3_2 a3_3) else (if a2 ≥ (aV.length : Int) then (foundrylaw14_CodeDead.j0 k a2 true l0_0 a0_1 l0_2 l0_3 aP au aR aV ao aW a3_0 a3_1 a3_2 a3_3) else ((qDJ.f a3_0 a3_1 a3_2 a3_3).bind fun bz => (foundrylaw14_CodeDead.j0 k a2 (!bz) l0_0 a0_1 l0_2 l0_3 aP au aR aV ao aW a3_0 a3_1 a3_2 a3_3))))) else (foundrylaw14_CodeDead.j0 k a2 true l0_0 a0_1 l0_2 l0_3 aP au aR aV ao aW a3_0 a3_1 a3_2 a3_3)))) = some r := H
  have A8 := am fl
  clear fl
  replace H := bm H
  obtain ⟨⟨gK, dE⟩, gW, H⟩ := H
  replace H : ((qBI.f aP au aR aV ao aW a2).bind fun cA => (if dE = 0 then (if cA.2.2 = true then (foundrylaw14_CodeDead.j0 k a2 true l0_0 a0_1 l0_2 l0_3 aP au aR aV ao aW a3_0 a3_1 a3_2 a3_3) else (if a2 < 0 then (foundrylaw14_CodeDead.j0 k a2 true l0_0 a0_1 l0_2 l0_3 aP au aR aV ao aW a3_0 a3_1 a3_2 a3_3) else (if a2 ≥ (aV.length : Int) then (foundrylaw14_CodeDead.j0 k a2 true l0_0 a0_1 l0_2 l0_3 aP au aR aV ao aW a3_0 a3_1 a3_2 a3_3) else ((qDJ.f a3_0 a3_1 a3_2 a3_3).bind fun bz => (foundrylaw14_CodeDead.j0 k a2 (!bz) l0_0 a0_1 l0_2 l0_3 aP au aR aV ao aW a3_0 a3_1 a3_2 a3_3))))) else (foundrylaw14_CodeDead.j0 k a2 true l0_0 a0_1 l0_2 l0_3 aP au aR aV ao aW a3_0 a3_1 a3_2 a3_3))) = some r := H
  have A9 := am gW
  clear gW
  replace H := bm H
  obtain ⟨⟨gM, gN, fF⟩, fK, H⟩ := H
  replace H : (if dE = 0 then (if fF = true then (foundrylaw14_CodeDead.j0 k a2 true l0_0 a0_1 l0_2 l0_3 aP au aR aV ao aW a3_0 a3_1 a3_2 a3_3) else (if a2 < 0 then (foundrylaw14_CodeDead.j0 k a2 true l0_0 a0_1 l0_2 l0_3 aP au aR aV ao aW a3_0 a3_1 a3_2 a3_3) else (if a2 ≥ (aV.length : Int) then (foundrylaw14_CodeDead.j0 k a2 true l0_0 a0_1 l0_2 l0_3 aP au aR aV ao aW a3_0 a3_1 a3_2 a3_3) else ((qDJ.f a3_0 a3_1 a3_2 a3_3).bind fun bz => (foundrylaw14_CodeDead.j0 k a2 (!bz) l0_0 a0_1 l0_2 l0_3 aP au aR aV ao aW a3_0 a3_1 a3_2 a3_3))))) else (foundrylaw14_CodeDead.j0 k a2 true l0_0 a0_1 l0_2 l0_3 aP au aR aV ao aW a3_0 a3_1 a3_2 a3_3)) = some r := H
  have gp := am fK
  clear fK
  have ew := am H
  clear H
  go_enter Tryz.func8, Tryz.ntmps8
  try go_wp2_with (first | ((with_reducible refine qAV (N := 4) rfl ?_); (try (refine qBw (by rfl) ?_; dsimp only)); refine bx 4 #[.slice aa l0_0.length ad, .int .i64 a0_1, .slice ab l0_2.length ae, .slice ac l0_3.length af] 27 ?_; intro aD hg hI hbox hb; have n0_ := am (qAq (by repeat ((with_reducible (exact HB.o)))) hb); have n1_ := am (hbox); have n2_ := am ((by rw [hg]; exact (qAm (by repeat ((with_reducible (exact HB.o))))) : w.heap.size ≤ aD)); have n3_ := am ((by rw [hg]; exact (qAm (by repeat ((with_reducible (exact HB.o))))) : w.heap.size ≤ aD)); clear HB; have HB := n0_; have aA := n1_; clear n0_ n1_ n2_ n3_; clear hb hbox hg) | ((with_reducible refine qAV (N := 5) rfl ?_); (try (refine qBw (by rfl) ?_; dsimp only)); refine bx 5 #[.slice aj l1_0.length al, .slice ak l1_1.length an] 30 ?_; intro aF hg hJ hbox hb; have n0_ := am (qAk (g := aD) (o := .cells #[.slice aa l0_0.length ad, .int .i64 a0_1, .slice ab l0_2.length ae, .slice ac l0_3.length af] 27 (0, 0)) (by (with_reducible repeat (fail)); exact aA.o) hb); have n1_ := am (qAq (by repeat ((with_reducible (exact HB.o)))) hb); have n2_ := am (hbox); have n3_ := am ((by rw [hg]; exact (qAm (by repeat ((with_reducible (exact HB.o))))) : w.heap.size ≤ aF)); have n4_ := am ((by rw [hg]; exact (qAm (by repeat ((with_reducible (exact HB.o))))) : w.heap.size ≤ aF)); have n5_ := am ((by rw [hg]; exact Nat.ne_of_lt (qAZ (g := aD) (o := .cells #[.slice aa l0_0.length ad, .int .i64 a0_1, .slice ab l0_2.length ae, .slice ac l0_3.length af] 27 (0, 0)) (by (with_reducible repeat (fail)); exact aA.o)) : aD ≠ aF)); have n6_ := am ((by rw [hg]; exact Nat.ne_of_gt (qAZ (g := aD) (o := .cells #[.slice aa l0_0.length ad, .int .i64 a0_1, .slice ab l0_2.length ae, .slice ac l0_3.length af] 27 (0, 0)) (by (with_reducible repeat (fail)); exact aA.o)) : aF ≠ aD)); clear aA; clear HB; have aA := n0_; have HB := n1_; have aC := n2_; clear n0_ n1_ n2_ n3_ n4_ n5_ n6_; clear hb hbox hg) | ((with_reducible refine qAV (N := 7) rfl ?_); (try (refine qBw (by rfl) ?_; dsimp only)); refine bx 7 #[.int .i64 a3_0, .int .i64 a3_1, .int .i64 a3_2, .int .u64 a3_3] 50 ?_; intro aH hg hL hbox hb; have n0_ := am (qAk (g := aD) (o := .cells #[.slice aa l0_0.length ad, .int .i64 a0_1, .slice ab l0_2.length ae, .slice ac l0_3.length af] 27 (0, 0)) (by (with_reducible repeat (fail)); exact aA.o) hb); have n1_ := am (qAk (g := aF) (o := .cells #[.slice aj l1_0.length al, .slice ak l1_1.length an] 30 (0, 0)) (by (with_reducible repeat (fail)); exact aC.o) hb); have n2_ := am (qAq (by repeat ((with_reducible (exact HB.o)))) hb); have n3_ := am (hbox); have n4_ := am ((by rw [hg]; exact (qAm (by repeat ((with_reducible (exact HB.o))))) : w.heap.size ≤ aH)); have n5_ := am ((by rw [hg]; exact (qAm (by repeat ((with_reducible (exact HB.o))))) : w.heap.size ≤ aH)); have n6_ := am ((by rw [hg]; exact Nat.ne_of_lt (qAZ (g := aD) (o := .cells #[.slice aa l0_0.length ad, .int .i64 a0_1, .slice ab l0_2.length ae, .slice ac l0_3.length af] 27 (0, 0)) (by (with_reducible repeat (fail)); exact aA.o)) : aD ≠ aH)); have n7_ := am ((by rw [hg]; exact Nat.ne_of_gt (qAZ (g := aD) (o := .cells #[.slice aa l0_0.length ad, .int .i64 a0_1, .slice ab l0_2.length ae, .slice ac l0_3.length af] 27 (0, 0)) (by (with_reducible repeat (fail)); exact aA.o)) : aH ≠ aD)); have n8_ := am ((by rw [hg]; exact Nat.ne_of_lt (qAZ (g := aF) (o := .cells #[.slice aj l1_0.length al, .slice ak l1_1.length an] 30 (0, 0)) (by (with_reducible repeat (fail)); exact aC.o)) : aF ≠ aH)); have n9_ := am ((by rw [hg]; exact Nat.ne_of_gt (qAZ (g := aF) (o := .cells #[.slice aj l1_0.length al, .slice ak l1_1.length an] 30 (0, 0)) (by (with_reducible repeat (fail)); exact aC.o)) : aH ≠ aF)); clear aA; clear aC; clear HB; have aA := n0_; have aC := n1_; have HB := n2_; have aG := n3_; clear n0_ n1_ n2_ n3_ n4_ n5_ n6_ n7_ n8_ n9_; clear hb hbox hg) | ((with_reducible refine qA7 (f := 17) rfl ?_); refine qBG (some 27) rfl rfl Tryz.func17 (by kernel_rfl) rfl #[] rfl (by (try simp only [List.map_toArray, List.map_nil]); (done)) ?_; (with_reducible refine (qAz.calls  true _ A5.o).mono ?_); rintro e hE ⟨rfl, hb⟩; refine ⟨_, rfl, ?_⟩; have n0_ := am (qAk (g := aD) (o := .cells #[.slice aa l0_0.length ad, .int .i64 a0_1, .slice ab l0_2.length ae, .slice ac l0_3.length af] 27 (0, 0)) (by (with_reducible repeat (fail)); exact aA.o) hb); have n1_ := am (qAk (g := aF) (o := .cells #[.slice aj l1_0.length al, .slice ak l1_1.length an] 30 (0, 0)) (by (with_reducible repeat (fail)); exact aC.o) hb); have n2_ := am (qAk (g := aH) (o := .cells #[.int .i64 a3_0, .int .i64 a3_1, .int .i64 a3_2, .int .u64 a3_3] 50 (0, 0)) (by (with_reducible repeat (fail)); exact aG.o) hb); have n3_ := am (qAq (by repeat ((with_reducible (exact HB.o)))) hb); clear aA; clear aC; clear aG; clear HB; have aA := n0_; have aC := n1_; have aG := n2_; have HB := n3_; clear n0_ n1_ n2_ n3_; (skip); (skip); (skip)))
  have n0_ := am (qAt aA.o)
  have n1_ := am (qAt aC.o)
  have n2_ := am (qAt aG.o)
  have n3_ := am (qAj HB.o)
  clear aA
  clear aC
  clear aG
  clear HB
  have aA := n0_
  have aC := n1_
  have aG := n2_
  have HB := n3_
  clear n0_ n1_ n2_ n3_
  refine qCi (n := 8) (S := fun w' => w'.cell? ⟨aD, 0, none⟩ = some (.slice aa l0_0.length ad) ∧ w'.cell? ⟨aD, 1, none⟩ = some (.int .i64 a0_1) ∧ w'.cell? ⟨aD, 2, none⟩ = some (.slice ab l0_2.length ae) ∧ w'.cell? ⟨aD, 3, none⟩ = some (.slice ac l0_3.length af) ∧ w'.cell? ⟨aF, 0, none⟩ = some (.slice aj l1_0.length al) ∧ w'.cell? ⟨aF, 1, none⟩ = some (.slice ak l1_1.length an)) (ds := []) (mK 8 0) (by kernel_rfl) rfl rfl ⟨(qAa aA.o 0).trans rfl, (qAa aA.o 1).trans rfl, (qAa aA.o 2).trans rfl, (qAa aA.o 3).trans rfl, (qAa aC.o 0).trans rfl, (qAa aC.o 1).trans rfl⟩ (fun hHeld => ?_); refine qBn foundrylaw14_CodeDead.tab3 foundrylaw14_CodeDead.bits3 (fun HT_ HW_ => ?_)
  generalize hE.drew = hM at aA aC aG HB hHeld ⊢
  refine tk 0 29 (mK 8 1) (qA6 HT_.o HW_.o (by kernel_rfl)) hHeld ?_
  refine tk 2 31 (mK 8 5) (qA6 HT_.o HW_.o (by kernel_rfl)) hHeld ?_
  refine join_ (σ := Value × Value × Value × Value × Value × Nat × Nat) 2 (mK 8 63) (fun s_ => [(30, .agg #[s_.1, .int .i64 au, s_.2.1, s_.2.2.1]), (32, .agg #[s_.2.2.2.1, s_.2.2.2.2.1]), (9, .pointer (some ⟨s_.2.2.2.2.2.1, 0, none⟩)), (10, .pointer (some ⟨s_.2.2.2.2.2.2, 0, none⟩))]) (fun s_ w' => (w'.cell? ⟨aD, 0, none⟩ = some (.slice aa l0_0.length ad) ∧ w'.cell? ⟨aD, 1, none⟩ = some (.int .i64 a0_1) ∧ w'.cell? ⟨aD, 2, none⟩ = some (.slice ab l0_2.length ae) ∧ w'.cell? ⟨aD, 3, none⟩ = some (.slice ac l0_3.length af) ∧ w'.cell? ⟨aF, 0, none⟩ = some (.slice aj l1_0.length al) ∧ w'.cell? ⟨aF, 1, none⟩ = some (.slice ak l1_1.length an)) ∧ (Kd.R (Kd.int .i64) 3 w' w.heap.size (fun k_ => some k_ ≠ (s_.2.1 : Value).ownBlock ∧ some k_ ≠ (s_.2.2.2.2.1 : Value).ownBlock) s_.1 aP) ∧ (Kd.R (Kd.int .i64) 3 w' w.heap.size (fun k_ => some k_ ≠ (s_.1 : Value).ownBlock ∧ some k_ ≠ (s_.2.2.2.2.1 : Value).ownBlock) s_.2.1 aR) ∧ (Kd.R k51 51 w' w.heap.size (fun _ => True) s_.2.2.1 aV) ∧ (Kd.S k34 34 w' w.heap.size (fun k_ => some k_ ≠ (s_.1 : Value).ownBlock ∧ some k_ ≠ (s_.2.1 : Value).ownBlock ∧ some k_ ≠ (s_.2.2.2.2.1 : Value).ownBlock) s_.2.2.2.1 ao) ∧ (Kd.R (Kd.int .i64) 3 w' w.heap.size (fun k_ => some k_ ≠ (s_.1 : Value).ownBlock ∧ some k_ ≠ (s_.2.1 : Value).ownBlock) s_.2.2.2.2.1 aW) ∧ (w'.heap[aD]? = some (.cells #[.slice aa l0_0.length ad, .int .i64 a0_1, .slice ab l0_2.length ae, .slice ac l0_3.length af] 27 (0, 0))) ∧ (w'.heap[aF]? = some (.cells #[.slice aj l1_0.length al, .slice ak l1_1.length an] 30 (0, 0))) ∧ (w'.heap[aH]? = some (.cells #[.int .i64 a3_0, .int .i64 a3_1, .int .i64 a3_2, .int .u64 a3_3] 50 (0, 0))) ∧ (w'.heap[s_.2.2.2.2.2.1]? = some (.cells #[.slice none 0 0, .int .i64 0, .slice none 0 0, .slice none 0 0] 37 (0, 0))) ∧ (w'.heap[s_.2.2.2.2.2.2]? = some (.cells #[.slice none 0 0, .slice none 0 0] 41 (0, 0))) ∧ (w.heap.size ≤ s_.2.2.2.2.2.1) ∧ (w.heap.size ≤ s_.2.2.2.2.2.1) ∧ (aD ≠ s_.2.2.2.2.2.1) ∧ (s_.2.2.2.2.2.1 ≠ aD) ∧ (aF ≠ s_.2.2.2.2.2.1) ∧ (s_.2.2.2.2.2.1 ≠ aF) ∧ (aH ≠ s_.2.2.2.2.2.1) ∧ (s_.2.2.2.2.2.1 ≠ aH) ∧ (s_.2.2.2.2.2.2 ≠ s_.2.2.2.2.2.1) ∧ (s_.2.2.2.2.2.1 ≠ s_.2.2.2.2.2.2) ∧ (w.heap.size ≤ s_.2.2.2.2.2.2) ∧ (w.heap.size ≤ s_.2.2.2.2.2.2) ∧ (aD ≠ s_.2.2.2.2.2.2) ∧ (s_.2.2.2.2.2.2 ≠ aD) ∧ (aF ≠ s_.2.2.2.2.2.2) ∧ (s_.2.2.2.2.2.2 ≠ aF) ∧ (aH ≠ s_.2.2.2.2.2.2) ∧ (s_.2.2.2.2.2.2 ≠ aH) ∧ (Below w.heap.size w w')) ?_ ?_
  rotate_left
  ·intro hJ1_3_4_5
   refine join_ (σ := Value × Value × Value × Value × Value × Nat) 3 (mK 8 31) (fun s_ => [(30, .agg #[s_.1, .int .i64 au, s_.2.1, s_.2.2.1]), (32, .agg #[s_.2.2.2.1, s_.2.2.2.2.1]), (9, .pointer (some ⟨s_.2.2.2.2.2, 0, none⟩))]) (fun s_ w' => (w'.cell? ⟨aD, 0, none⟩ = some (.slice aa l0_0.length ad) ∧ w'.cell? ⟨aD, 1, none⟩ = some (.int .i64 a0_1) ∧ w'.cell? ⟨aD, 2, none⟩ = some (.slice ab l0_2.length ae) ∧ w'.cell? ⟨aD, 3, none⟩ = some (.slice ac l0_3.length af) ∧ w'.cell? ⟨aF, 0, none⟩ = some (.slice aj l1_0.length al) ∧ w'.cell? ⟨aF, 1, none⟩ = some (.slice ak l1_1.length an)) ∧ (Kd.R (Kd.int .i64) 3 w' w.heap.size (fun k_ => some k_ ≠ (s_.2.1 : Value).ownBlock ∧ some k_ ≠ (s_.2.2.2.2.1 : Value).ownBlock) s_.1 aP) ∧ (Kd.R (Kd.int .i64) 3 w' w.heap.size (fun k_ => some k_ ≠ (s_.1 : Value).ownBlock ∧ some k_ ≠ (s_.2.2.2.2.1 : Value).ownBlock) s_.2.1 aR) ∧ (Kd.R k51 51 w' w.heap.size (fun _ => True) s_.2.2.1 aV) ∧ (Kd.S k34 34 w' w.heap.size (fun k_ => some k_ ≠ (s_.1 : Value).ownBlock ∧ some k_ ≠ (s_.2.1 : Value).ownBlock ∧ some k_ ≠ (s_.2.2.2.2.1 : Value).ownBlock) s_.2.2.2.1 ao) ∧ (Kd.R (Kd.int .i64) 3 w' w.heap.size (fun k_ => some k_ ≠ (s_.1 : Value).ownBlock ∧ some k_ ≠ (s_.2.1 : Value).ownBlock) s_.2.2.2.2.1 aW) ∧ (w'.heap[aD]? = some (.cells #[.slice aa l0_0.length ad, .int .i64 a0_1, .slice ab l0_2.length ae, .slice ac l0_3.length af] 27 (0, 0))) ∧ (w'.heap[aF]? = some (.cells #[.slice aj l1_0.length al, .slice ak l1_1.length an] 30 (0, 0))) ∧ (w'.heap[aH]? = some (.cells #[.int .i64 a3_0, .int .i64 a3_1, .int .i64 a3_2, .int .u64 a3_3] 50 (0, 0))) ∧ (w'.heap[s_.2.2.2.2.2]? = some (.cells #[.slice none 0 0, .int .i64 0, .slice none 0 0, .slice none 0 0] 37 (0, 0))) ∧ (w.heap.size ≤ s_.2.2.2.2.2) ∧ (w.heap.size ≤ s_.2.2.2.2.2) ∧ (aD ≠ s_.2.2.2.2.2) ∧ (s_.2.2.2.2.2 ≠ aD) ∧ (aF ≠ s_.2.2.2.2.2) ∧ (s_.2.2.2.2.2 ≠ aF) ∧ (aH ≠ s_.2.2.2.2.2) ∧ (s_.2.2.2.2.2 ≠ aH) ∧ (Below w.heap.size w w')) ?_ ?_
   rotate_left
   ·intro hJ1_3_4
    refine join_ (σ := Value × Value × Value × Value × Value × Nat) 3 (mK 8 47) (fun s_ => [(30, .agg #[s_.1, .int .i64 au, s_.2.1, s_.2.2.1]), (32, .agg #[s_.2.2.2.1, s_.2.2.2.2.1]), (10, .pointer (some ⟨s_.2.2.2.2.2, 0, none⟩))]) (fun s_ w' => (w'.cell? ⟨aD, 0, none⟩ = some (.slice aa l0_0.length ad) ∧ w'.cell? ⟨aD, 1, none⟩ = some (.int .i64 a0_1) ∧ w'.cell? ⟨aD, 2, none⟩ = some (.slice ab l0_2.length ae) ∧ w'.cell? ⟨aD, 3, none⟩ = some (.slice ac l0_3.length af) ∧ w'.cell? ⟨aF, 0, none⟩ = some (.slice aj l1_0.length al) ∧ w'.cell? ⟨aF, 1, none⟩ = some (.slice ak l1_1.length an)) ∧ (Kd.R (Kd.int .i64) 3 w' w.heap.size (fun k_ => some k_ ≠ (s_.2.1 : Value).ownBlock ∧ some k_ ≠ (s_.2.2.2.2.1 : Value).ownBlock) s_.1 aP) ∧ (Kd.R (Kd.int .i64) 3 w' w.heap.size (fun k_ => some k_ ≠ (s_.1 : Value).ownBlock ∧ some k_ ≠ (s_.2.2.2.2.1 : Value).ownBlock) s_.2.1 aR) ∧ (Kd.R k51 51 w' w.heap.size (fun _ => True) s_.2.2.1 aV) ∧ (Kd.S k34 34 w' w.heap.size (fun k_ => some k_ ≠ (s_.1 : Value).ownBlock ∧ some k_ ≠ (s_.2.1 : Value).ownBlock ∧ some k_ ≠ (s_.2.2.2.2.1 : Value).ownBlock) s_.2.2.2.1 ao) ∧ (Kd.R (Kd.int .i64) 3 w' w.heap.size (fun k_ => some k_ ≠ (s_.1 : Value).ownBlock ∧ some k_ ≠ (s_.2.1 : Value).ownBlock) s_.2.2.2.2.1 aW) ∧ (w'.heap[aD]? = some (.cells #[.slice aa l0_0.length ad, .int .i64 a0_1, .slice ab l0_2.length ae, .slice ac l0_3.length af] 27 (0, 0))) ∧ (w'.heap[aF]? = some (.cells #[.slice aj l1_0.length al, .slice ak l1_1.length an] 30 (0, 0))) ∧ (w'.heap[aH]? = some (.cells #[.int .i64 a3_0, .int .i64 a3_1, .int .i64 a3_2, .int .u64 a3_3] 50 (0, 0))) ∧ (w'.heap[s_.2.2.2.2.2]? = some (.cells #[.slice none 0 0, .slice none 0 0] 41 (0, 0))) ∧ (w.heap.size ≤ s_.2.2.2.2.2) ∧ (w.heap.size ≤ s_.2.2.2.2.2) ∧ (aD ≠ s_.2.2.2.2.2) ∧ (s_.2.2.2.2.2 ≠ aD) ∧ (aF ≠ s_.2.2.2.2.2) ∧ (s_.2.2.2.2.2 ≠ aF) ∧ (aH ≠ s_.2.2.2.2.2) ∧ (s_.2.2.2.2.2 ≠ aH) ∧ (Below w.heap.size w w')) ?_ ?_
    rotate_left
    ·intro hJ1_3_5
     refine join_ (σ := Value × Value × Value × Nat × Nat) 3 (mK 8 55) (fun s_ => [(30, .agg #[s_.1, .int .i64 au, s_.2.1, s_.2.2.1]), (9, .pointer (some ⟨s_.2.2.2.1, 0, none⟩)), (10, .pointer (some ⟨s_.2.2.2.2, 0, none⟩))]) (fun s_ w' => (w'.cell? ⟨aD, 0, none⟩ = some (.slice aa l0_0.length ad) ∧ w'.cell? ⟨aD, 1, none⟩ = some (.int .i64 a0_1) ∧ w'.cell? ⟨aD, 2, none⟩ = some (.slice ab l0_2.length ae) ∧ w'.cell? ⟨aD, 3, none⟩ = some (.slice ac l0_3.length af) ∧ w'.cell? ⟨aF, 0, none⟩ = some (.slice aj l1_0.length al) ∧ w'.cell? ⟨aF, 1, none⟩ = some (.slice ak l1_1.length an)) ∧ (Kd.R (Kd.int .i64) 3 w' w.heap.size (fun k_ => some k_ ≠ (s_.2.1 : Value).ownBlock) s_.1 aP) ∧ (Kd.R (Kd.int .i64) 3 w' w.heap.size (fun k_ => some k_ ≠ (s_.1 : Value).ownBlock) s_.2.1 aR) ∧ (Kd.R k51 51 w' w.heap.size (fun _ => True) s_.2.2.1 aV) ∧ (w'.heap[aD]? = some (.cells #[.slice aa l0_0.length ad, .int .i64 a0_1, .slice ab l0_2.length ae, .slice ac l0_3.length af] 27 (0, 0))) ∧ (w'.heap[aF]? = some (.cells #[.slice aj l1_0.length al, .slice ak l1_1.length an] 30 (0, 0))) ∧ (w'.heap[aH]? = some (.cells #[.int .i64 a3_0, .int .i64 a3_1, .int .i64 a3_2, .int .u64 a3_3] 50 (0, 0))) ∧ (w'.heap[s_.2.2.2.1]? = some (.cells #[.slice none 0 0, .int .i64 0, .slice none 0 0, .slice none 0 0] 37 (0, 0))) ∧ (w'.heap[s_.2.2.2.2]? = some (.cells #[.slice none 0 0, .slice none 0 0] 41 (0, 0))) ∧ (w.heap.size ≤ s_.2.2.2.1) ∧ (w.heap.size ≤ s_.2.2.2.1) ∧ (aD ≠ s_.2.2.2.1) ∧ (s_.2.2.2.1 ≠ aD) ∧ (aF ≠ s_.2.2.2.1) ∧ (s_.2.2.2.1 ≠ aF) ∧ (aH ≠ s_.2.2.2.1) ∧ (s_.2.2.2.1 ≠ aH) ∧ (s_.2.2.2.2 ≠ s_.2.2.2.1) ∧ (s_.2.2.2.1 ≠ s_.2.2.2.2) ∧ (w.heap.size ≤ s_.2.2.2.2) ∧ (w.heap.size ≤ s_.2.2.2.2) ∧ (aD ≠ s_.2.2.2.2) ∧ (s_.2.2.2.2 ≠ aD) ∧ (aF ≠ s_.2.2.2.2) ∧ (s_.2.2.2.2 ≠ aF) ∧ (aH ≠ s_.2.2.2.2) ∧ (s_.2.2.2.2 ≠ aH) ∧ (Below w.heap.size w w')) ?_ ?_
     rotate_left
     ·intro hJ1_4_5
      refine join_ (σ := Value × Value × Value × Value × Value) 4 (mK 8 15) (fun s_ => [(30, .agg #[s_.1, .int .i64 au, s_.2.1, s_.2.2.1]), (32, .agg #[s_.2.2.2.1, s_.2.2.2.2])]) (fun s_ w' => (w'.cell? ⟨aD, 0, none⟩ = some (.slice aa l0_0.length ad) ∧ w'.cell? ⟨aD, 1, none⟩ = some (.int .i64 a0_1) ∧ w'.cell? ⟨aD, 2, none⟩ = some (.slice ab l0_2.length ae) ∧ w'.cell? ⟨aD, 3, none⟩ = some (.slice ac l0_3.length af) ∧ w'.cell? ⟨aF, 0, none⟩ = some (.slice aj l1_0.length al) ∧ w'.cell? ⟨aF, 1, none⟩ = some (.slice ak l1_1.length an)) ∧ (Kd.R (Kd.int .i64) 3 w' w.heap.size (fun k_ => some k_ ≠ (s_.2.1 : Value).ownBlock ∧ some k_ ≠ (s_.2.2.2.2 : Value).ownBlock) s_.1 aP) ∧ (Kd.R (Kd.int .i64) 3 w' w.heap.size (fun k_ => some k_ ≠ (s_.1 : Value).ownBlock ∧ some k_ ≠ (s_.2.2.2.2 : Value).ownBlock) s_.2.1 aR) ∧ (Kd.R k51 51 w' w.heap.size (fun _ => True) s_.2.2.1 aV) ∧ (Kd.S k34 34 w' w.heap.size (fun k_ => some k_ ≠ (s_.1 : Value).ownBlock ∧ some k_ ≠ (s_.2.1 : Value).ownBlock ∧ some k_ ≠ (s_.2.2.2.2 : Value).ownBlock) s_.2.2.2.1 ao) ∧ (Kd.R (Kd.int .i64) 3 w' w.heap.size (fun k_ => some k_ ≠ (s_.1 : Value).ownBlock ∧ some k_ ≠ (s_.2.1 : Value).ownBlock) s_.2.2.2.2 aW) ∧ (w'.heap[aD]? = some (.cells #[.slice aa l0_0.length ad, .int .i64 a0_1, .slice ab l0_2.length ae, .slice ac l0_3.length af] 27 (0, 0))) ∧ (w'.heap[aF]? = some (.cells #[.slice aj l1_0.length al, .slice ak l1_1.length an] 30 (0, 0))) ∧ (w'.heap[aH]? = some (.cells #[.int .i64 a3_0, .int .i64 a3_1, .int .i64 a3_2, .int .u64 a3_3] 50 (0, 0))) ∧ (Below w.heap.size w w')) ?_ ?_
      rotate_left
      ·intro hJ1_3
       refine join_ (σ := Value × Value × Value × Nat) 4 (mK 8 23) (fun s_ => [(30, .agg #[s_.1, .int .i64 au, s_.2.1, s_.2.2.1]), (9, .pointer (some ⟨s_.2.2.2, 0, none⟩))]) (fun s_ w' => (w'.cell? ⟨aD, 0, none⟩ = some (.slice aa l0_0.length ad) ∧ w'.cell? ⟨aD, 1, none⟩ = some (.int .i64 a0_1) ∧ w'.cell? ⟨aD, 2, none⟩ = some (.slice ab l0_2.length ae) ∧ w'.cell? ⟨aD, 3, none⟩ = some (.slice ac l0_3.length af) ∧ w'.cell? ⟨aF, 0, none⟩ = some (.slice aj l1_0.length al) ∧ w'.cell? ⟨aF, 1, none⟩ = some (.slice ak l1_1.length an)) ∧ (Kd.R (Kd.int .i64) 3 w' w.heap.size (fun k_ => some k_ ≠ (s_.2.1 : Value).ownBlock) s_.1 aP) ∧ (Kd.R (Kd.int .i64) 3 w' w.heap.size (fun k_ => some k_ ≠ (s_.1 : Value).ownBlock) s_.2.1 aR) ∧ (Kd.R k51 51 w' w.heap.size (fun _ => True) s_.2.2.1 aV) ∧ (w'.heap[aD]? = some (.cells #[.slice aa l0_0.length ad, .int .i64 a0_1, .slice ab l0_2.length ae, .slice ac l0_3.length af] 27 (0, 0))) ∧ (w'.heap[aF]? = some (.cells #[.slice aj l1_0.length al, .slice ak l1_1.length an] 30 (0, 0))) ∧ (w'.heap[aH]? = some (.cells #[.int .i64 a3_0, .int .i64 a3_1, .int .i64 a3_2, .int .u64 a3_3] 50 (0, 0))) ∧ (w'.heap[s_.2.2.2]? = some (.cells #[.slice none 0 0, .int .i64 0, .slice none 0 0, .slice none 0 0] 37 (0, 0))) ∧ (w.heap.size ≤ s_.2.2.2) ∧ (w.heap.size ≤ s_.2.2.2) ∧ (aD ≠ s_.2.2.2) ∧ (s_.2.2.2 ≠ aD) ∧ (aF ≠ s_.2.2.2) ∧ (s_.2.2.2 ≠ aF) ∧ (aH ≠ s_.2.2.2) ∧ (s_.2.2.2 ≠ aH) ∧ (Below w.heap.size w w')) ?_ ?_
       rotate_left
       ·intro hJ1_4
        refine join_ (σ := Value × Value × Value × Nat) 4 (mK 8 39) (fun s_ => [(30, .agg #[s_.1, .int .i64 au, s_.2.1, s_.2.2.1]), (10, .pointer (some ⟨s_.2.2.2, 0, none⟩))]) (fun s_ w' => (w'.cell? ⟨aD, 0, none⟩ = some (.slice aa l0_0.length ad) ∧ w'.cell? ⟨aD, 1, none⟩ = some (.int .i64 a0_1) ∧ w'.cell? ⟨aD, 2, none⟩ = some (.slice ab l0_2.length ae) ∧ w'.cell? ⟨aD, 3, none⟩ = some (.slice ac l0_3.length af) ∧ w'.cell? ⟨aF, 0, none⟩ = some (.slice aj l1_0.length al) ∧ w'.cell? ⟨aF, 1, none⟩ = some (.slice ak l1_1.length an)) ∧ (Kd.R (Kd.int .i64) 3 w' w.heap.size (fun k_ => some k_ ≠ (s_.2.1 : Value).ownBlock) s_.1 aP) ∧ (Kd.R (Kd.int .i64) 3 w' w.heap.size (fun k_ => some k_ ≠ (s_.1 : Value).ownBlock) s_.2.1 aR) ∧ (Kd.R k51 51 w' w.heap.size (fun _ => True) s_.2.2.1 aV) ∧ (w'.heap[aD]? = some (.cells #[.slice aa l0_0.length ad, .int .i64 a0_1, .slice ab l0_2.length ae, .slice ac l0_3.length af] 27 (0, 0))) ∧ (w'.heap[aF]? = some (.cells #[.slice aj l1_0.length al, .slice ak l1_1.length an] 30 (0, 0))) ∧ (w'.heap[aH]? = some (.cells #[.int .i64 a3_0, .int .i64 a3_1, .int .i64 a3_2, .int .u64 a3_3] 50 (0, 0))) ∧ (w'.heap[s_.2.2.2]? = some (.cells #[.slice none 0 0, .slice none 0 0] 41 (0, 0))) ∧ (w.heap.size ≤ s_.2.2.2) ∧ (w.heap.size ≤ s_.2.2.2) ∧ (aD ≠ s_.2.2.2) ∧ (s_.2.2.2 ≠ aD) ∧ (aF ≠ s_.2.2.2) ∧ (s_.2.2.2 ≠ aF) ∧ (aH ≠ s_.2.2.2) ∧ (s_.2.2.2 ≠ aH) ∧ (Below w.heap.size w w')) ?_ ?_
        rotate_left
        ·intro hJ1_5
         refine join_ (σ := Nat × Nat) 4 (mK 8 53) (fun s_ => [(9, .pointer (some ⟨s_.1, 0, none⟩)), (10, .pointer (some ⟨s_.2, 0, none⟩))]) (fun s_ w' => (w'.cell? ⟨aD, 0, none⟩ = some (.slice aa l0_0.length ad) ∧ w'.cell? ⟨aD, 1, none⟩ = some (.int .i64 a0_1) ∧ w'.cell? ⟨aD, 2, none⟩ = some (.slice ab l0_2.length ae) ∧ w'.cell? ⟨aD, 3, none⟩ = some (.slice ac l0_3.length af) ∧ w'.cell? ⟨aF, 0, none⟩ = some (.slice aj l1_0.length al) ∧ w'.cell? ⟨aF, 1, none⟩ = some (.slice ak l1_1.length an)) ∧ (w'.heap[aD]? = some (.cells #[.slice aa l0_0.length ad, .int .i64 a0_1, .slice ab l0_2.length ae, .slice ac l0_3.length af] 27 (0, 0))) ∧ (w'.heap[aF]? = some (.cells #[.slice aj l1_0.length al, .slice ak l1_1.length an] 30 (0, 0))) ∧ (w'.heap[aH]? = some (.cells #[.int .i64 a3_0, .int .i64 a3_1, .int .i64 a3_2, .int .u64 a3_3] 50 (0, 0))) ∧ (w'.heap[s_.1]? = some (.cells #[.slice none 0 0, .int .i64 0, .slice none 0 0, .slice none 0 0] 37 (0, 0))) ∧ (w'.heap[s_.2]? = some (.cells #[.slice none 0 0, .slice none 0 0] 41 (0, 0))) ∧ (w.heap.size ≤ s_.1) ∧ (w.heap.size ≤ s_.1) ∧ (aD ≠ s_.1) ∧ (s_.1 ≠ aD) ∧ (aF ≠ s_.1) ∧ (s_.1 ≠ aF) ∧ (aH ≠ s_.1) ∧ (s_.1 ≠ aH) ∧ (s_.2 ≠ s_.1) ∧ (s_.1 ≠ s_.2) ∧ (w.heap.size ≤ s_.2) ∧ (w.heap.size ≤ s_.2) ∧ (aD ≠ s_.2) ∧ (s_.2 ≠ aD) ∧ (aF ≠ s_.2) ∧ (s_.2 ≠ aF) ∧ (aH ≠ s_.2) ∧ (s_.2 ≠ aH) ∧ (Below w.heap.size w w')) ?_ ?_
         rotate_left
         ·intro hJ4_5
          refine join_ (σ := Value × Value × Value) 5 (mK 8 7) (fun s_ => [(30, .agg #[s_.1, .int .i64 au, s_.2.1, s_.2.2])]) (fun s_ w' => (w'.cell? ⟨aD, 0, none⟩ = some (.slice aa l0_0.length ad) ∧ w'.cell? ⟨aD, 1, none⟩ = some (.int .i64 a0_1) ∧ w'.cell? ⟨aD, 2, none⟩ = some (.slice ab l0_2.length ae) ∧ w'.cell? ⟨aD, 3, none⟩ = some (.slice ac l0_3.length af) ∧ w'.cell? ⟨aF, 0, none⟩ = some (.slice aj l1_0.length al) ∧ w'.cell? ⟨aF, 1, none⟩ = some (.slice ak l1_1.length an)) ∧ (Kd.R (Kd.int .i64) 3 w' w.heap.size (fun k_ => some k_ ≠ (s_.2.1 : Value).ownBlock) s_.1 aP) ∧ (Kd.R (Kd.int .i64) 3 w' w.heap.size (fun k_ => some k_ ≠ (s_.1 : Value).ownBlock) s_.2.1 aR) ∧ (Kd.R k51 51 w' w.heap.size (fun _ => True) s_.2.2 aV) ∧ (w'.heap[aD]? = some (.cells #[.slice aa l0_0.length ad, .int .i64 a0_1, .slice ab l0_2.length ae, .slice ac l0_3.length af] 27 (0, 0))) ∧ (w'.heap[aF]? = some (.cells #[.slice aj l1_0.length al, .slice ak l1_1.length an] 30 (0, 0))) ∧ (w'.heap[aH]? = some (.cells #[.int .i64 a3_0, .int .i64 a3_1, .int .i64 a3_2, .int .u64 a3_3] 50 (0, 0))) ∧ (Below w.heap.size w w')) ?_ ?_
          rotate_left
          ·intro hJ1
           refine join_ (σ := Nat) 5 (mK 8 21) (fun s_ => [(9, .pointer (some ⟨s_, 0, none⟩))]) (fun s_ w' => (w'.cell? ⟨aD, 0, none⟩ = some (.slice aa l0_0.length ad) ∧ w'.cell? ⟨aD, 1, none⟩ = some (.int .i64 a0_1) ∧ w'.cell? ⟨aD, 2, none⟩ = some (.slice ab l0_2.length ae) ∧ w'.cell? ⟨aD, 3, none⟩ = some (.slice ac l0_3.length af) ∧ w'.cell? ⟨aF, 0, none⟩ = some (.slice aj l1_0.length al) ∧ w'.cell? ⟨aF, 1, none⟩ = some (.slice ak l1_1.length an)) ∧ (w'.heap[aD]? = some (.cells #[.slice aa l0_0.length ad, .int .i64 a0_1, .slice ab l0_2.length ae, .slice ac l0_3.length af] 27 (0, 0))) ∧ (w'.heap[aF]? = some (.cells #[.slice aj l1_0.length al, .slice ak l1_1.length an] 30 (0, 0))) ∧ (w'.heap[aH]? = some (.cells #[.int .i64 a3_0, .int .i64 a3_1, .int .i64 a3_2, .int .u64 a3_3] 50 (0, 0))) ∧ (w'.heap[s_]? = some (.cells #[.slice none 0 0, .int .i64 0, .slice none 0 0, .slice none 0 0] 37 (0, 0))) ∧ (w.heap.size ≤ s_) ∧ (w.heap.size ≤ s_) ∧ (aD ≠ s_) ∧ (s_ ≠ aD) ∧ (aF ≠ s_) ∧ (s_ ≠ aF) ∧ (aH ≠ s_) ∧ (s_ ≠ aH) ∧ (Below w.heap.size w w')) ?_ ?_
           rotate_left
           ·intro hJ4
            refine join_ (σ := Nat) 5 (mK 8 37) (fun s_ => [(10, .pointer (some ⟨s_, 0, none⟩))]) (fun s_ w' => (w'.cell? ⟨aD, 0, none⟩ = some (.slice aa l0_0.length ad) ∧ w'.cell? ⟨aD, 1, none⟩ = some (.int .i64 a0_1) ∧ w'.cell? ⟨aD, 2, none⟩ = some (.slice ab l0_2.length ae) ∧ w'.cell? ⟨aD, 3, none⟩ = some (.slice ac l0_3.length af) ∧ w'.cell? ⟨aF, 0, none⟩ = some (.slice aj l1_0.length al) ∧ w'.cell? ⟨aF, 1, none⟩ = some (.slice ak l1_1.length an)) ∧ (w'.heap[aD]? = some (.cells #[.slice aa l0_0.length ad, .int .i64 a0_1, .slice ab l0_2.length ae, .slice ac l0_3.length af] 27 (0, 0))) ∧ (w'.heap[aF]? = some (.cells #[.slice aj l1_0.length al, .slice ak l1_1.length an] 30 (0, 0))) ∧ (w'.heap[aH]? = some (.cells #[.int .i64 a3_0, .int .i64 a3_1, .int .i64 a3_2, .int .u64 a3_3] 50 (0, 0))) ∧ (w'.heap[s_]? = some (.cells #[.slice none 0 0, .slice none 0 0] 41 (0, 0))) ∧ (w.heap.size ≤ s_) ∧ (w.heap.size ≤ s_) ∧ (aD ≠ s_) ∧ (s_ ≠ aD) ∧ (aF ≠ s_) ∧ (s_ ≠ aF) ∧ (aH ≠ s_) ∧ (s_ ≠ aH) ∧ (Below w.heap.size w w')) ?_ ?_
            rotate_left
            ·intro hJ5
             refine three_ (i := 1) (j := 4) (k := 5) (Ni := some 30) (Nj := some 9) (Nk := some 10) (mK 8 7) (mK 8 21) (mK 8 37) rfl rfl rfl rfl rfl rfl (three_of HT_.o (by kernel_rfl)) (by decide) (by decide) (by decide) (fun K hK => ?_) (fun K hK => ?_) (fun K hK => ?_)
             ·skip
              refine qCs Tryz.func14 (by kernel_rfl) rfl #[.agg #[.slice aa l0_0.length ad, .int .i64 a0_1, .slice ab l0_2.length ae, .slice ac l0_3.length af]] (by rfl) rfl rfl (by (try simp only [List.map_toArray, List.map_cons, List.map_nil]); (rfl)) ?_
              with_reducible refine (qAG.calls k _ _ l0_0 a0_1 _ _ l0_2 _ _ l0_3 aP au aR aV _ ?side1 ?side2 ?side3 ?side4 ?side5 ?side6 A7.o).mono ?_
              (case side1 => repeat ((exact (Kd.C_below ci.o HB.o))))
              (case side2 => exact ce.o)
              (case side3 => repeat ((exact (Kd.C_below cj.o HB.o))))
              (case side4 => exact cf.o)
              (case side5 => repeat ((exact (Kd.C_below ck.o HB.o))))
              (case side6 => exact cg.o)
              rintro e gm ⟨bY, bZ, bj, rfl, bo, cH, cm, hb⟩
              refine ⟨_, rfl, ?_⟩
              have n0_ := am (Kd.R_lower bo (qAm (by repeat ((with_reducible (exact HB.o))))))
              have n1_ := am (Kd.R_lower cH (qAm (by repeat ((with_reducible (exact HB.o))))))
              have n2_ := am (Kd.R_lower cm (qAm (by repeat ((with_reducible (exact HB.o))))))
              have n3_ := am (qAk (g := aD) (o := .cells #[.slice aa l0_0.length ad, .int .i64 a0_1, .slice ab l0_2.length ae, .slice ac l0_3.length af] 27 (0, 0)) (by (with_reducible repeat (fail)); exact aA.o) hb)
              have n4_ := am (qAk (g := aF) (o := .cells #[.slice aj l1_0.length al, .slice ak l1_1.length an] 30 (0, 0)) (by (with_reducible repeat (fail)); exact aC.o) hb)
              have n5_ := am (qAk (g := aH) (o := .cells #[.int .i64 a3_0, .int .i64 a3_1, .int .i64 a3_2, .int .u64 a3_3] 50 (0, 0)) (by (with_reducible repeat (fail)); exact aG.o) hb)
              have n6_ := am (qAq (by repeat ((with_reducible (exact HB.o)))) hb)
              clear aA
              clear aC
              clear aG
              clear HB
              have aN := n0_
              have aO := n1_
              have aT := n2_
              have aA := n3_
              have aC := n4_
              have aG := n5_
              have HB := n6_
              clear n0_ n1_ n2_ n3_ n4_ n5_ n6_
              (try clear hb)
              (skip)
              (skip)
              (skip)
              (try clear bo)
              (try clear cH)
              (try clear cm)
              refine hK.o _ _ ⟨(qAa aA.o 0).trans rfl, (qAa aA.o 1).trans rfl, (qAa aA.o 2).trans rfl, (qAa aA.o 3).trans rfl, (qAa aC.o 0).trans rfl, (qAa aC.o 1).trans rfl⟩ (fun hHeld => ?_)
              clear hK K
              refine nm ?_
              exact nq (hJ1 (bY, bZ, bj) _ ⟨hHeld, (by (with_reducible repeat (fail)); exact aN.o), (by (with_reducible repeat (fail)); exact aO.o), (by (with_reducible repeat (fail)); exact aT.o), (by (with_reducible repeat (fail)); exact aA.o), (by (with_reducible repeat (fail)); exact aC.o), (by (with_reducible repeat (fail)); exact aG.o), (by repeat ((with_reducible (exact HB.o))))⟩)
             ·skip
              refine box_step ?hg (N := 9) ?hd (cs := #[.slice none 0 0, .int .i64 0, .slice none 0 0, .slice none 0 0]) (t := 37) ?hr ?_; (case hd => rfl); (case hg => rfl); (case hr => (go_simp; done))
              intro aB hg gm hbox hb
              have n0_ := am (qAk (g := aD) (o := .cells #[.slice aa l0_0.length ad, .int .i64 a0_1, .slice ab l0_2.length ae, .slice ac l0_3.length af] 27 (0, 0)) (by (with_reducible repeat (fail)); exact aA.o) hb)
              have n1_ := am (qAk (g := aF) (o := .cells #[.slice aj l1_0.length al, .slice ak l1_1.length an] 30 (0, 0)) (by (with_reducible repeat (fail)); exact aC.o) hb)
              have n2_ := am (qAk (g := aH) (o := .cells #[.int .i64 a3_0, .int .i64 a3_1, .int .i64 a3_2, .int .u64 a3_3] 50 (0, 0)) (by (with_reducible repeat (fail)); exact aG.o) hb)
              have n3_ := am (qAq (by repeat ((with_reducible (exact HB.o)))) hb)
              have n4_ := am (hbox)
              have n5_ := am ((by rw [hg]; exact (qAm (by repeat ((with_reducible (exact HB.o))))) : w.heap.size ≤ aB))
              have n6_ := am ((by rw [hg]; exact (qAm (by repeat ((with_reducible (exact HB.o))))) : w.heap.size ≤ aB))
              have n7_ := am ((by rw [hg]; exact Nat.ne_of_lt (qAZ (g := aD) (o := .cells #[.slice aa l0_0.length ad, .int .i64 a0_1, .slice ab l0_2.length ae, .slice ac l0_3.length af] 27 (0, 0)) (by (with_reducible repeat (fail)); exact aA.o)) : aD ≠ aB))
              have n8_ := am ((by rw [hg]; exact Nat.ne_of_gt (qAZ (g := aD) (o := .cells #[.slice aa l0_0.length ad, .int .i64 a0_1, .slice ab l0_2.length ae, .slice ac l0_3.length af] 27 (0, 0)) (by (with_reducible repeat (fail)); exact aA.o)) : aB ≠ aD))
              have n9_ := am ((by rw [hg]; exact Nat.ne_of_lt (qAZ (g := aF) (o := .cells #[.slice aj l1_0.length al, .slice ak l1_1.length an] 30 (0, 0)) (by (with_reducible repeat (fail)); exact aC.o)) : aF ≠ aB))
              have n10_ := am ((by rw [hg]; exact Nat.ne_of_gt (qAZ (g := aF) (o := .cells #[.slice aj l1_0.length al, .slice ak l1_1.length an] 30 (0, 0)) (by (with_reducible repeat (fail)); exact aC.o)) : aB ≠ aF))
              have n11_ := am ((by rw [hg]; exact Nat.ne_of_lt (qAZ (g := aH) (o := .cells #[.int .i64 a3_0, .int .i64 a3_1, .int .i64 a3_2, .int .u64 a3_3] 50 (0, 0)) (by (with_reducible repeat (fail)); exact aG.o)) : aH ≠ aB))
              have n12_ := am ((by rw [hg]; exact Nat.ne_of_gt (qAZ (g := aH) (o := .cells #[.int .i64 a3_0, .int .i64 a3_1, .int .i64 a3_2, .int .u64 a3_3] 50 (0, 0)) (by (with_reducible repeat (fail)); exact aG.o)) : aB ≠ aH))
              clear aA
              clear aC
              clear aG
              clear HB
              have aA := n0_
              have aC := n1_
              have aG := n2_
              have HB := n3_
              have aJ := n4_
              have bg := n5_
              have bc := n6_
              have aM := n7_
              have az := n8_
              have aS := n9_
              have bA := n10_
              have ap := n11_
              have bB := n12_
              clear n0_ n1_ n2_ n3_ n4_ n5_ n6_ n7_ n8_ n9_ n10_ n11_ n12_
              clear hb hbox hg
              refine hK.o _ _ ⟨(qAa aA.o 0).trans rfl, (qAa aA.o 1).trans rfl, (qAa aA.o 2).trans rfl, (qAa aA.o 3).trans rfl, (qAa aC.o 0).trans rfl, (qAa aC.o 1).trans rfl⟩ (fun hHeld => ?_)
              clear hK K
              refine nm ?_
              exact nq (hJ4 (aB) _ ⟨hHeld, (by (with_reducible repeat (fail)); exact aA.o), (by (with_reducible repeat (fail)); exact aC.o), (by (with_reducible repeat (fail)); exact aG.o), (by (with_reducible repeat (fail)); exact aJ.o), bg.o, bc.o, aM.o, az.o, aS.o, bA.o, ap.o, bB.o, (by repeat ((with_reducible (exact HB.o))))⟩)
             ·skip
              refine box_step ?hg (N := 10) ?hd (cs := #[.slice none 0 0, .slice none 0 0]) (t := 41) ?hr ?_; (case hd => rfl); (case hg => rfl); (case hr => (go_simp; done))
              intro aE hg gm hbox hb
              have n0_ := am (qAk (g := aD) (o := .cells #[.slice aa l0_0.length ad, .int .i64 a0_1, .slice ab l0_2.length ae, .slice ac l0_3.length af] 27 (0, 0)) (by (with_reducible repeat (fail)); exact aA.o) hb)
              have n1_ := am (qAk (g := aF) (o := .cells #[.slice aj l1_0.length al, .slice ak l1_1.length an] 30 (0, 0)) (by (with_reducible repeat (fail)); exact aC.o) hb)
              have n2_ := am (qAk (g := aH) (o := .cells #[.int .i64 a3_0, .int .i64 a3_1, .int .i64 a3_2, .int .u64 a3_3] 50 (0, 0)) (by (with_reducible repeat (fail)); exact aG.o) hb)
              have n3_ := am (qAq (by repeat ((with_reducible (exact HB.o)))) hb)
              have n4_ := am (hbox)
              have n5_ := am ((by rw [hg]; exact (qAm (by repeat ((with_reducible (exact HB.o))))) : w.heap.size ≤ aE))
              have n6_ := am ((by rw [hg]; exact (qAm (by repeat ((with_reducible (exact HB.o))))) : w.heap.size ≤ aE))
              have n7_ := am ((by rw [hg]; exact Nat.ne_of_lt (qAZ (g := aD) (o := .cells #[.slice aa l0_0.length ad, .int .i64 a0_1, .slice ab l0_2.length ae, .slice ac l0_3.length af] 27 (0, 0)) (by (with_reducible repeat (fail)); exact aA.o)) : aD ≠ aE))
              have n8_ := am ((by rw [hg]; exact Nat.ne_of_gt (qAZ (g := aD) (o := .cells #[.slice aa l0_0.length ad, .int .i64 a0_1, .slice ab l0_2.length ae, .slice ac l0_3.length af] 27 (0, 0)) (by (with_reducible repeat (fail)); exact aA.o)) : aE ≠ aD))
              have n9_ := am ((by rw [hg]; exact Nat.ne_of_lt (qAZ (g := aF) (o := .cells #[.slice aj l1_0.length al, .slice ak l1_1.length an] 30 (0, 0)) (by (with_reducible repeat (fail)); exact aC.o)) : aF ≠ aE))
              have n10_ := am ((by rw [hg]; exact Nat.ne_of_gt (qAZ (g := aF) (o := .cells #[.slice aj l1_0.length al, .slice ak l1_1.length an] 30 (0, 0)) (by (with_reducible repeat (fail)); exact aC.o)) : aE ≠ aF))
              have n11_ := am ((by rw [hg]; exact Nat.ne_of_lt (qAZ (g := aH) (o := .cells #[.int .i64 a3_0, .int .i64 a3_1, .int .i64 a3_2, .int .u64 a3_3] 50 (0, 0)) (by (with_reducible repeat (fail)); exact aG.o)) : aH ≠ aE))
              have n12_ := am ((by rw [hg]; exact Nat.ne_of_gt (qAZ (g := aH) (o := .cells #[.int .i64 a3_0, .int .i64 a3_1, .int .i64 a3_2, .int .u64 a3_3] 50 (0, 0)) (by (with_reducible repeat (fail)); exact aG.o)) : aE ≠ aH))
              clear aA
              clear aC
              clear aG
              clear HB
              have aA := n0_
              have aC := n1_
              have aG := n2_
              have HB := n3_
              have aK := n4_
              have bh := n5_
              have bd := n6_
              have aU := n7_
              have av := n8_
              have ai := n9_
              have aw := n10_
              have aq := n11_
              have ax := n12_
              clear n0_ n1_ n2_ n3_ n4_ n5_ n6_ n7_ n8_ n9_ n10_ n11_ n12_
              clear hb hbox hg
              refine hK.o _ _ ⟨(qAa aA.o 0).trans rfl, (qAa aA.o 1).trans rfl, (qAa aA.o 2).trans rfl, (qAa aA.o 3).trans rfl, (qAa aC.o 0).trans rfl, (qAa aC.o 1).trans rfl⟩ (fun hHeld => ?_)
              clear hK K
              refine nm ?_
              exact nq (hJ5 (aE) _ ⟨hHeld, (by (with_reducible repeat (fail)); exact aA.o), (by (with_reducible repeat (fail)); exact aC.o), (by (with_reducible repeat (fail)); exact aG.o), (by (with_reducible repeat (fail)); exact aK.o), bh.o, bd.o, aU.o, av.o, ai.o, aw.o, aq.o, ax.o, (by repeat ((with_reducible (exact HB.o))))⟩)
            ·skip
             rintro aE c1 ⟨hS_, h0_, h1_, h2_, h3_, h4_, h5_, h6_, h7_, h8_, h9_, h10_, h11_, h12_⟩
             have n0_ : qAd (c1.heap[aD]? = some (.cells #[.slice aa l0_0.length ad, .int .i64 a0_1, .slice ab l0_2.length ae, .slice ac l0_3.length af] 27 (0, 0))) := ⟨h0_⟩
             have n1_ : qAd (c1.heap[aF]? = some (.cells #[.slice aj l1_0.length al, .slice ak l1_1.length an] 30 (0, 0))) := ⟨h1_⟩
             have n2_ : qAd (c1.heap[aH]? = some (.cells #[.int .i64 a3_0, .int .i64 a3_1, .int .i64 a3_2, .int .u64 a3_3] 50 (0, 0))) := ⟨h2_⟩
             have n3_ : qAd (c1.heap[aE]? = some (.cells #[.slice none 0 0, .slice none 0 0] 41 (0, 0))) := ⟨h3_⟩
             have n4_ : qAd (w.heap.size ≤ aE) := ⟨h4_⟩
             have n5_ : qAd (w.heap.size ≤ aE) := ⟨h5_⟩
             have n6_ : qAd (aD ≠ aE) := ⟨h6_⟩
             have n7_ : qAd (aE ≠ aD) := ⟨h7_⟩
             have n8_ : qAd (aF ≠ aE) := ⟨h8_⟩
             have n9_ : qAd (aE ≠ aF) := ⟨h9_⟩
             have n10_ : qAd (aH ≠ aE) := ⟨h10_⟩
             have n11_ : qAd (aE ≠ aH) := ⟨h11_⟩
             have n12_ : qAd (Below w.heap.size w c1) := ⟨h12_⟩
             clear aA
             clear aC
             clear aG
             clear HB
             clear h0_ h1_ h2_ h3_ h4_ h5_ h6_ h7_ h8_ h9_ h10_ h11_ h12_
             have aA := n0_
             have aC := n1_
             have aG := n2_
             have aK := n3_
             have bh := n4_
             have bd := n5_
             have aU := n6_
             have av := n7_
             have ai := n8_
             have aw := n9_
             have aq := n10_
             have ax := n11_
             have HB := n12_
             clear n0_ n1_ n2_ n3_ n4_ n5_ n6_ n7_ n8_ n9_ n10_ n11_ n12_
             refine qCX (a' := ?_) ?_ ?_
             rotate_left
             ·simp only [qE6, Act.put, List.setIfInBounds_toArray, List.set_cons_zero, List.set_cons_succ]
              rfl
             refine two_ (i := 1) (j := 4) (Ni := some 30) (Nj := some 9) (mK 8 39) (mK 8 53) rfl rfl rfl rfl (two_of HT_.o (by kernel_rfl)) (by decide) (by decide) (fun K hK => ?_) (fun K hK => ?_)
             ·skip
              refine qCs Tryz.func14 (by kernel_rfl) rfl #[.agg #[.slice aa l0_0.length ad, .int .i64 a0_1, .slice ab l0_2.length ae, .slice ac l0_3.length af]] (by rfl) rfl rfl (by (try simp only [List.map_toArray, List.map_cons, List.map_nil]); (rfl)) ?_
              with_reducible refine (qAG.calls k _ _ l0_0 a0_1 _ _ l0_2 _ _ l0_3 aP au aR aV _ ?side1 ?side2 ?side3 ?side4 ?side5 ?side6 A7.o).mono ?_
              (case side1 => repeat ((exact (Kd.C_below ci.o HB.o))))
              (case side2 => exact ce.o)
              (case side3 => repeat ((exact (Kd.C_below cj.o HB.o))))
              (case side4 => exact cf.o)
              (case side5 => repeat ((exact (Kd.C_below ck.o HB.o))))
              (case side6 => exact cg.o)
              rintro e cB ⟨bY, bZ, bj, rfl, bo, cH, cm, hb⟩
              refine ⟨_, rfl, ?_⟩
              have n0_ := am (Kd.R_lower bo (qAm (by repeat ((with_reducible (exact HB.o))))))
              have n1_ := am (Kd.R_lower cH (qAm (by repeat ((with_reducible (exact HB.o))))))
              have n2_ := am (Kd.R_lower cm (qAm (by repeat ((with_reducible (exact HB.o))))))
              have n3_ := am (qAk (g := aD) (o := .cells #[.slice aa l0_0.length ad, .int .i64 a0_1, .slice ab l0_2.length ae, .slice ac l0_3.length af] 27 (0, 0)) (by (with_reducible repeat (fail)); exact aA.o) hb)
              have n4_ := am (qAk (g := aF) (o := .cells #[.slice aj l1_0.length al, .slice ak l1_1.length an] 30 (0, 0)) (by (with_reducible repeat (fail)); exact aC.o) hb)
              have n5_ := am (qAk (g := aH) (o := .cells #[.int .i64 a3_0, .int .i64 a3_1, .int .i64 a3_2, .int .u64 a3_3] 50 (0, 0)) (by (with_reducible repeat (fail)); exact aG.o) hb)
              have n6_ := am (qAk (g := aE) (o := .cells #[.slice none 0 0, .slice none 0 0] 41 (0, 0)) (by (with_reducible repeat (fail)); exact aK.o) hb)
              have n7_ := am (qAq (by repeat ((with_reducible (exact HB.o)))) hb)
              clear aA
              clear aC
              clear aG
              clear aK
              clear HB
              have aN := n0_
              have aO := n1_
              have aT := n2_
              have aA := n3_
              have aC := n4_
              have aG := n5_
              have aK := n6_
              have HB := n7_
              clear n0_ n1_ n2_ n3_ n4_ n5_ n6_ n7_
              (try clear hb)
              (skip)
              (skip)
              (skip)
              (try clear bo)
              (try clear cH)
              (try clear cm)
              refine hK.o _ _ ⟨(qAa aA.o 0).trans rfl, (qAa aA.o 1).trans rfl, (qAa aA.o 2).trans rfl, (qAa aA.o 3).trans rfl, (qAa aC.o 0).trans rfl, (qAa aC.o 1).trans rfl⟩ (fun hHeld => ?_)
              clear hK K
              refine nm ?_
              exact nq (hJ1_5 (bY, bZ, bj, aE) _ ⟨hHeld, (by (with_reducible repeat (fail)); exact aN.o), (by (with_reducible repeat (fail)); exact aO.o), (by (with_reducible repeat (fail)); exact aT.o), (by (with_reducible repeat (fail)); exact aA.o), (by (with_reducible repeat (fail)); exact aC.o), (by (with_reducible repeat (fail)); exact aG.o), (by (with_reducible repeat (fail)); exact aK.o), bh.o, bd.o, aU.o, av.o, ai.o, aw.o, aq.o, ax.o, (by repeat ((with_reducible (exact HB.o))))⟩)
             ·skip
              refine box_step ?hg (N := 9) ?hd (cs := #[.slice none 0 0, .int .i64 0, .slice none 0 0, .slice none 0 0]) (t := 37) ?hr ?_; (case hd => rfl); (case hg => rfl); (case hr => (go_simp; done))
              intro aB hg cB hbox hb
              have n0_ := am (qAk (g := aD) (o := .cells #[.slice aa l0_0.length ad, .int .i64 a0_1, .slice ab l0_2.length ae, .slice ac l0_3.length af] 27 (0, 0)) (by (with_reducible repeat (fail)); exact aA.o) hb)
              have n1_ := am (qAk (g := aF) (o := .cells #[.slice aj l1_0.length al, .slice ak l1_1.length an] 30 (0, 0)) (by (with_reducible repeat (fail)); exact aC.o) hb)
              have n2_ := am (qAk (g := aH) (o := .cells #[.int .i64 a3_0, .int .i64 a3_1, .int .i64 a3_2, .int .u64 a3_3] 50 (0, 0)) (by (with_reducible repeat (fail)); exact aG.o) hb)
              have n3_ := am (qAk (g := aE) (o := .cells #[.slice none 0 0, .slice none 0 0] 41 (0, 0)) (by (with_reducible repeat (fail)); exact aK.o) hb)
              have n4_ := am (qAq (by repeat ((with_reducible (exact HB.o)))) hb)
              have n5_ := am (hbox)
              have n6_ := am ((by rw [hg]; exact (qAm (by repeat ((with_reducible (exact HB.o))))) : w.heap.size ≤ aB))
              have n7_ := am ((by rw [hg]; exact (qAm (by repeat ((with_reducible (exact HB.o))))) : w.heap.size ≤ aB))
              have n8_ := am ((by rw [hg]; exact Nat.ne_of_lt (qAZ (g := aD) (o := .cells #[.slice aa l0_0.length ad, .int .i64 a0_1, .slice ab l0_2.length ae, .slice ac l0_3.length af] 27 (0, 0)) (by (with_reducible repeat (fail)); exact aA.o)) : aD ≠ aB))
              have n9_ := am ((by rw [hg]; exact Nat.ne_of_gt (qAZ (g := aD) (o := .cells #[.slice aa l0_0.length ad, .int .i64 a0_1, .slice ab l0_2.length ae, .slice ac l0_3.length af] 27 (0, 0)) (by (with_reducible repeat (fail)); exact aA.o)) : aB ≠ aD))
              have n10_ := am ((by rw [hg]; exact Nat.ne_of_lt (qAZ (g := aF) (o := .cells #[.slice aj l1_0.length al, .slice ak l1_1.length an] 30 (0, 0)) (by (with_reducible repeat (fail)); exact aC.o)) : aF ≠ aB))
              have n11_ := am ((by rw [hg]; exact Nat.ne_of_gt (qAZ (g := aF) (o := .cells #[.slice aj l1_0.length al, .slice ak l1_1.length an] 30 (0, 0)) (by (with_reducible repeat (fail)); exact aC.o)) : aB ≠ aF))
              have n12_ := am ((by rw [hg]; exact Nat.ne_of_lt (qAZ (g := aH) (o := .cells #[.int .i64 a3_0, .int .i64 a3_1, .int .i64 a3_2, .int .u64 a3_3] 50 (0, 0)) (by (with_reducible repeat (fail)); exact aG.o)) : aH ≠ aB))
              have n13_ := am ((by rw [hg]; exact Nat.ne_of_gt (qAZ (g := aH) (o := .cells #[.int .i64 a3_0, .int .i64 a3_1, .int .i64 a3_2, .int .u64 a3_3] 50 (0, 0)) (by (with_reducible repeat (fail)); exact aG.o)) : aB ≠ aH))
              have n14_ := am ((by rw [hg]; exact Nat.ne_of_lt (qAZ (g := aE) (o := .cells #[.slice none 0 0, .slice none 0 0] 41 (0, 0)) (by (with_reducible repeat (fail)); exact aK.o)) : aE ≠ aB))
              have n15_ := am ((by rw [hg]; exact Nat.ne_of_gt (qAZ (g := aE) (o := .cells #[.slice none 0 0, .slice none 0 0] 41 (0, 0)) (by (with_reducible repeat (fail)); exact aK.o)) : aB ≠ aE))
              clear aA
              clear aC
              clear aG
              clear aK
              clear HB
              have aA := n0_
              have aC := n1_
              have aG := n2_
              have aK := n3_
              have HB := n4_
              have aJ := n5_
              have bg := n6_
              have bc := n7_
              have aM := n8_
              have az := n9_
              have aS := n10_
              have bA := n11_
              have ap := n12_
              have bB := n13_
              have bC := n14_
              have bK := n15_
              clear n0_ n1_ n2_ n3_ n4_ n5_ n6_ n7_ n8_ n9_ n10_ n11_ n12_ n13_ n14_ n15_
              clear hb hbox hg
              refine hK.o _ _ ⟨(qAa aA.o 0).trans rfl, (qAa aA.o 1).trans rfl, (qAa aA.o 2).trans rfl, (qAa aA.o 3).trans rfl, (qAa aC.o 0).trans rfl, (qAa aC.o 1).trans rfl⟩ (fun hHeld => ?_)
              clear hK K
              refine nm ?_
              exact nq (hJ4_5 (aB, aE) _ ⟨hHeld, (by (with_reducible repeat (fail)); exact aA.o), (by (with_reducible repeat (fail)); exact aC.o), (by (with_reducible repeat (fail)); exact aG.o), (by (with_reducible repeat (fail)); exact aJ.o), (by (with_reducible repeat (fail)); exact aK.o), bg.o, bc.o, aM.o, az.o, aS.o, bA.o, ap.o, bB.o, bC.o, bK.o, bh.o, bd.o, aU.o, av.o, ai.o, aw.o, aq.o, ax.o, (by repeat ((with_reducible (exact HB.o))))⟩)
           ·skip
            rintro aB c1 ⟨hS_, h0_, h1_, h2_, h3_, h4_, h5_, h6_, h7_, h8_, h9_, h10_, h11_, h12_⟩
            have n0_ : qAd (c1.heap[aD]? = some (.cells #[.slice aa l0_0.length ad, .int .i64 a0_1, .slice ab l0_2.length ae, .slice ac l0_3.length af] 27 (0, 0))) := ⟨h0_⟩
            have n1_ : qAd (c1.heap[aF]? = some (.cells #[.slice aj l1_0.length al, .slice ak l1_1.length an] 30 (0, 0))) := ⟨h1_⟩
            have n2_ : qAd (c1.heap[aH]? = some (.cells #[.int .i64 a3_0, .int .i64 a3_1, .int .i64 a3_2, .int .u64 a3_3] 50 (0, 0))) := ⟨h2_⟩
            have n3_ : qAd (c1.heap[aB]? = some (.cells #[.slice none 0 0, .int .i64 0, .slice none 0 0, .slice none 0 0] 37 (0, 0))) := ⟨h3_⟩
            have n4_ : qAd (w.heap.size ≤ aB) := ⟨h4_⟩
            have n5_ : qAd (w.heap.size ≤ aB) := ⟨h5_⟩
            have n6_ : qAd (aD ≠ aB) := ⟨h6_⟩
            have n7_ : qAd (aB ≠ aD) := ⟨h7_⟩
            have n8_ : qAd (aF ≠ aB) := ⟨h8_⟩
            have n9_ : qAd (aB ≠ aF) := ⟨h9_⟩
            have n10_ : qAd (aH ≠ aB) := ⟨h10_⟩
            have n11_ : qAd (aB ≠ aH) := ⟨h11_⟩
            have n12_ : qAd (Below w.heap.size w c1) := ⟨h12_⟩
            clear aA
            clear aC
            clear aG
            clear HB
            clear h0_ h1_ h2_ h3_ h4_ h5_ h6_ h7_ h8_ h9_ h10_ h11_ h12_
            have aA := n0_
            have aC := n1_
            have aG := n2_
            have aJ := n3_
            have bg := n4_
            have bc := n5_
            have aM := n6_
            have az := n7_
            have aS := n8_
            have bA := n9_
            have ap := n10_
            have bB := n11_
            have HB := n12_
            clear n0_ n1_ n2_ n3_ n4_ n5_ n6_ n7_ n8_ n9_ n10_ n11_ n12_
            refine qCX (a' := ?_) ?_ ?_
            rotate_left
            ·simp only [qE6, Act.put, List.setIfInBounds_toArray, List.set_cons_zero, List.set_cons_succ]
             rfl
            refine two_ (i := 1) (j := 5) (Ni := some 30) (Nj := some 10) (mK 8 23) (mK 8 53) rfl rfl rfl rfl (two_of HT_.o (by kernel_rfl)) (by decide) (by decide) (fun K hK => ?_) (fun K hK => ?_)
            ·skip
             refine qCs Tryz.func14 (by kernel_rfl) rfl #[.agg #[.slice aa l0_0.length ad, .int .i64 a0_1, .slice ab l0_2.length ae, .slice ac l0_3.length af]] (by rfl) rfl rfl (by (try simp only [List.map_toArray, List.map_cons, List.map_nil]); (rfl)) ?_
             with_reducible refine (qAG.calls k _ _ l0_0 a0_1 _ _ l0_2 _ _ l0_3 aP au aR aV _ ?side1 ?side2 ?side3 ?side4 ?side5 ?side6 A7.o).mono ?_
             (case side1 => repeat ((exact (Kd.C_below ci.o HB.o))))
             (case side2 => exact ce.o)
             (case side3 => repeat ((exact (Kd.C_below cj.o HB.o))))
             (case side4 => exact cf.o)
             (case side5 => repeat ((exact (Kd.C_below ck.o HB.o))))
             (case side6 => exact cg.o)
             rintro e cB ⟨bY, bZ, bj, rfl, bo, cH, cm, hb⟩
             refine ⟨_, rfl, ?_⟩
             have n0_ := am (Kd.R_lower bo (qAm (by repeat ((with_reducible (exact HB.o))))))
             have n1_ := am (Kd.R_lower cH (qAm (by repeat ((with_reducible (exact HB.o))))))
             have n2_ := am (Kd.R_lower cm (qAm (by repeat ((with_reducible (exact HB.o))))))
             have n3_ := am (qAk (g := aD) (o := .cells #[.slice aa l0_0.length ad, .int .i64 a0_1, .slice ab l0_2.length ae, .slice ac l0_3.length af] 27 (0, 0)) (by (with_reducible repeat (fail)); exact aA.o) hb)
             have n4_ := am (qAk (g := aF) (o := .cells #[.slice aj l1_0.length al, .slice ak l1_1.length an] 30 (0, 0)) (by (with_reducible repeat (fail)); exact aC.o) hb)
             have n5_ := am (qAk (g := aH) (o := .cells #[.int .i64 a3_0, .int .i64 a3_1, .int .i64 a3_2, .int .u64 a3_3] 50 (0, 0)) (by (with_reducible repeat (fail)); exact aG.o) hb)
             have n6_ := am (qAk (g := aB) (o := .cells #[.slice none 0 0, .int .i64 0, .slice none 0 0, .slice none 0 0] 37 (0, 0)) (by (with_reducible repeat (fail)); exact aJ.o) hb)
             have n7_ := am (qAq (by repeat ((with_reducible (exact HB.o)))) hb)
             clear aA
             clear aC
             clear aG
             clear aJ
             clear HB
             have aN := n0_
             have aO := n1_
             have aT := n2_
             have aA := n3_
             have aC := n4_
             have aG := n5_
             have aJ := n6_
             have HB := n7_
             clear n0_ n1_ n2_ n3_ n4_ n5_ n6_ n7_
             (try clear hb)
             (skip)
             (skip)
             (skip)
             (try clear bo)
             (try clear cH)
             (try clear cm)
             refine hK.o _ _ ⟨(qAa aA.o 0).trans rfl, (qAa aA.o 1).trans rfl, (qAa aA.o 2).trans rfl, (qAa aA.o 3).trans rfl, (qAa aC.o 0).trans rfl, (qAa aC.o 1).trans rfl⟩ (fun hHeld => ?_)
             clear hK K
             refine nm ?_
             exact nq (hJ1_4 (bY, bZ, bj, aB) _ ⟨hHeld, (by (with_reducible repeat (fail)); exact aN.o), (by (with_reducible repeat (fail)); exact aO.o), (by (with_reducible repeat (fail)); exact aT.o), (by (with_reducible repeat (fail)); exact aA.o), (by (with_reducible repeat (fail)); exact aC.o), (by (with_reducible repeat (fail)); exact aG.o), (by (with_reducible repeat (fail)); exact aJ.o), bg.o, bc.o, aM.o, az.o, aS.o, bA.o, ap.o, bB.o, (by repeat ((with_reducible (exact HB.o))))⟩)
            ·skip
             refine box_step ?hg (N := 10) ?hd (cs := #[.slice none 0 0, .slice none 0 0]) (t := 41) ?hr ?_; (case hd => rfl); (case hg => rfl); (case hr => (go_simp; done))
             intro aE hg cB hbox hb
             have n0_ := am (qAk (g := aD) (o := .cells #[.slice aa l0_0.length ad, .int .i64 a0_1, .slice ab l0_2.length ae, .slice ac l0_3.length af] 27 (0, 0)) (by (with_reducible repeat (fail)); exact aA.o) hb)
             have n1_ := am (qAk (g := aF) (o := .cells #[.slice aj l1_0.length al, .slice ak l1_1.length an] 30 (0, 0)) (by (with_reducible repeat (fail)); exact aC.o) hb)
             have n2_ := am (qAk (g := aH) (o := .cells #[.int .i64 a3_0, .int .i64 a3_1, .int .i64 a3_2, .int .u64 a3_3] 50 (0, 0)) (by (with_reducible repeat (fail)); exact aG.o) hb)
             have n3_ := am (qAk (g := aB) (o := .cells #[.slice none 0 0, .int .i64 0, .slice none 0 0, .slice none 0 0] 37 (0, 0)) (by (with_reducible repeat (fail)); exact aJ.o) hb)
             have n4_ := am (qAq (by repeat ((with_reducible (exact HB.o)))) hb)
             have n5_ := am (hbox)
             have n6_ := am ((by rw [hg]; exact (qAm (by repeat ((with_reducible (exact HB.o))))) : w.heap.size ≤ aE))
             have n7_ := am ((by rw [hg]; exact (qAm (by repeat ((with_reducible (exact HB.o))))) : w.heap.size ≤ aE))
             have n8_ := am ((by rw [hg]; exact Nat.ne_of_lt (qAZ (g := aD) (o := .cells #[.slice aa l0_0.length ad, .int .i64 a0_1, .slice ab l0_2.length ae, .slice ac l0_3.length af] 27 (0, 0)) (by (with_reducible repeat (fail)); exact aA.o)) : aD ≠ aE))
             have n9_ := am ((by rw [hg]; exact Nat.ne_of_gt (qAZ (g := aD) (o := .cells #[.slice aa l0_0.length ad, .int .i64 a0_1, .slice ab l0_2.length ae, .slice ac l0_3.length af] 27 (0, 0)) (by (with_reducible repeat (fail)); exact aA.o)) : aE ≠ aD))
             have n10_ := am ((by rw [hg]; exact Nat.ne_of_lt (qAZ (g := aF) (o := .cells #[.slice aj l1_0.length al, .slice ak l1_1.length an] 30 (0, 0)) (by (with_reducible repeat (fail)); exact aC.o)) : aF ≠ aE))
             have n11_ := am ((by rw [hg]; exact Nat.ne_of_gt (qAZ (g := aF) (o := .cells #[.slice aj l1_0.length al, .slice ak l1_1.length an] 30 (0, 0)) (by (with_reducible repeat (fail)); exact aC.o)) : aE ≠ aF))
             have n12_ := am ((by rw [hg]; exact Nat.ne_of_lt (qAZ (g := aH) (o := .cells #[.int .i64 a3_0, .int .i64 a3_1, .int .i64 a3_2, .int .u64 a3_3] 50 (0, 0)) (by (with_reducible repeat (fail)); exact aG.o)) : aH ≠ aE))
             have n13_ := am ((by rw [hg]; exact Nat.ne_of_gt (qAZ (g := aH) (o := .cells #[.int .i64 a3_0, .int .i64 a3_1, .int .i64 a3_2, .int .u64 a3_3] 50 (0, 0)) (by (with_reducible repeat (fail)); exact aG.o)) : aE ≠ aH))
             have n14_ := am ((by rw [hg]; exact Nat.ne_of_lt (qAZ (g := aB) (o := .cells #[.slice none 0 0, .int .i64 0, .slice none 0 0, .slice none 0 0] 37 (0, 0)) (by (with_reducible repeat (fail)); exact aJ.o)) : aB ≠ aE))
             have n15_ := am ((by rw [hg]; exact Nat.ne_of_gt (qAZ (g := aB) (o := .cells #[.slice none 0 0, .int .i64 0, .slice none 0 0, .slice none 0 0] 37 (0, 0)) (by (with_reducible repeat (fail)); exact aJ.o)) : aE ≠ aB))
             clear aA
             clear aC
             clear aG
             clear aJ
             clear HB
             have aA := n0_
             have aC := n1_
             have aG := n2_
             have aJ := n3_
             have HB := n4_
             have aK := n5_
             have bh := n6_
             have bd := n7_
             have aU := n8_
             have av := n9_
             have ai := n10_
             have aw := n11_
             have aq := n12_
             have ax := n13_
             have bK := n14_
             have bC := n15_
             clear n0_ n1_ n2_ n3_ n4_ n5_ n6_ n7_ n8_ n9_ n10_ n11_ n12_ n13_ n14_ n15_
             clear hb hbox hg
             refine hK.o _ _ ⟨(qAa aA.o 0).trans rfl, (qAa aA.o 1).trans rfl, (qAa aA.o 2).trans rfl, (qAa aA.o 3).trans rfl, (qAa aC.o 0).trans rfl, (qAa aC.o 1).trans rfl⟩ (fun hHeld => ?_)
             clear hK K
             refine nm ?_
             exact nq (hJ4_5 (aB, aE) _ ⟨hHeld, (by (with_reducible repeat (fail)); exact aA.o), (by (with_reducible repeat (fail)); exact aC.o), (by (with_reducible repeat (fail)); exact aG.o), (by (with_reducible repeat (fail)); exact aJ.o), (by (with_reducible repeat (fail)); exact aK.o), bg.o, bc.o, aM.o, az.o, aS.o, bA.o, ap.o, bB.o, bC.o, bK.o, bh.o, bd.o, aU.o, av.o, ai.o, aw.o, aq.o, ax.o, (by repeat ((with_reducible (exact HB.o))))⟩)
          ·skip
           rintro ⟨bY, bZ, bj⟩ c1 ⟨hS_, h0_, h1_, h2_, h3_, h4_, h5_, h6_⟩
           have n0_ : qAd (Kd.R (Kd.int .i64) 3 c1 w.heap.size (fun k_ => some k_ ≠ (bZ : Value).ownBlock) bY aP) := ⟨h0_⟩
           have n1_ : qAd (Kd.R (Kd.int .i64) 3 c1 w.heap.size (fun k_ => some k_ ≠ (bY : Value).ownBlock) bZ aR) := ⟨h1_⟩
           have n2_ : qAd (Kd.R k51 51 c1 w.heap.size (fun _ => True) bj aV) := ⟨h2_⟩
           have n3_ : qAd (c1.heap[aD]? = some (.cells #[.slice aa l0_0.length ad, .int .i64 a0_1, .slice ab l0_2.length ae, .slice ac l0_3.length af] 27 (0, 0))) := ⟨h3_⟩
           have n4_ : qAd (c1.heap[aF]? = some (.cells #[.slice aj l1_0.length al, .slice ak l1_1.length an] 30 (0, 0))) := ⟨h4_⟩
           have n5_ : qAd (c1.heap[aH]? = some (.cells #[.int .i64 a3_0, .int .i64 a3_1, .int .i64 a3_2, .int .u64 a3_3] 50 (0, 0))) := ⟨h5_⟩
           have n6_ : qAd (Below w.heap.size w c1) := ⟨h6_⟩
           clear aA
           clear aC
           clear aG
           clear HB
           clear h0_ h1_ h2_ h3_ h4_ h5_ h6_
           have aN := n0_
           have aO := n1_
           have aT := n2_
           have aA := n3_
           have aC := n4_
           have aG := n5_
           have HB := n6_
           clear n0_ n1_ n2_ n3_ n4_ n5_ n6_
           refine qCX (a' := ?_) ?_ ?_
           rotate_left
           ·simp only [qE6, Act.put, List.setIfInBounds_toArray, List.set_cons_zero, List.set_cons_succ]
            rfl
           refine three_ (i := 3) (j := 4) (k := 5) (Ni := some 32) (Nj := some 9) (Nk := some 10) (mK 8 15) (mK 8 23) (mK 8 39) rfl rfl rfl rfl rfl rfl (three_of HT_.o (by kernel_rfl)) (by decide) (by decide) (by decide) (fun K hK => ?_) (fun K hK => ?_) (fun K hK => ?_)
           ·skip
            refine qCs Tryz.func15 (by kernel_rfl) rfl #[.agg #[.slice aj l1_0.length al, .slice ak l1_1.length an]] (by rfl) rfl rfl (by (try simp only [List.map_toArray, List.map_cons, List.map_nil]); (rfl)) ?_
            with_reducible refine (qAx.calls k _ _ l1_0 _ _ l1_1 ao aW _ ?side1 ?side2 ?side3 ?side4 A8.o).mono ?_
            (case side1 => repeat ((exact (Kd.C_below cq.o HB.o))))
            (case side2 => exact co.o)
            (case side3 => repeat ((exact (Kd.C_below cr.o HB.o))))
            (case side4 => exact cp.o)
            rintro e cB ⟨cC, bk, rfl, bo, cH, hb⟩
            refine ⟨_, rfl, ?_⟩
            have n0_ := am (Kd.R_elder' (by (with_reducible repeat (fail)); exact aN.o) (Kd.R_base cH) hb)
            have n1_ := am (Kd.R_elder' (by (with_reducible repeat (fail)); exact aO.o) (Kd.R_base cH) hb)
            have n2_ := am (Kd.R_below (by (with_reducible repeat (fail)); exact aT.o) hb)
            have n3_ := am (Kd.S_lower (Kd.S_new' (Kd.S_new' bo (Kd.R_lt (by (with_reducible repeat (fail)); exact aN.o))) (Kd.R_lt (by (with_reducible repeat (fail)); exact aO.o))) (qAm (by repeat ((with_reducible (exact HB.o))))))
            have n4_ := am (Kd.R_lower (Kd.R_new' (Kd.R_new' cH (Kd.R_lt (by (with_reducible repeat (fail)); exact aN.o))) (Kd.R_lt (by (with_reducible repeat (fail)); exact aO.o))) (qAm (by repeat ((with_reducible (exact HB.o))))))
            have n5_ := am (qAk (g := aD) (o := .cells #[.slice aa l0_0.length ad, .int .i64 a0_1, .slice ab l0_2.length ae, .slice ac l0_3.length af] 27 (0, 0)) (by (with_reducible repeat (fail)); exact aA.o) hb)
            have n6_ := am (qAk (g := aF) (o := .cells #[.slice aj l1_0.length al, .slice ak l1_1.length an] 30 (0, 0)) (by (with_reducible repeat (fail)); exact aC.o) hb)
            have n7_ := am (qAk (g := aH) (o := .cells #[.int .i64 a3_0, .int .i64 a3_1, .int .i64 a3_2, .int .u64 a3_3] 50 (0, 0)) (by (with_reducible repeat (fail)); exact aG.o) hb)
            have n8_ := am (qAq (by repeat ((with_reducible (exact HB.o)))) hb)
            clear aN
            clear aO
            clear aT
            clear aA
            clear aC
            clear aG
            clear HB
            have aN := n0_
            have aO := n1_
            have aT := n2_
            have bI := n3_
            have bH := n4_
            have aA := n5_
            have aC := n6_
            have aG := n7_
            have HB := n8_
            clear n0_ n1_ n2_ n3_ n4_ n5_ n6_ n7_ n8_
            (try clear hb)
            (skip)
            (skip)
            (skip)
            (try clear bo)
            (try clear cH)
            refine hK.o _ _ ⟨(qAa aA.o 0).trans rfl, (qAa aA.o 1).trans rfl, (qAa aA.o 2).trans rfl, (qAa aA.o 3).trans rfl, (qAa aC.o 0).trans rfl, (qAa aC.o 1).trans rfl⟩ (fun hHeld => ?_)
            clear hK K
            refine nm ?_
            exact nq (hJ1_3 (bY, bZ, bj, cC, bk) _ ⟨hHeld, (by (with_reducible repeat (fail)); exact aN.o), (by (with_reducible repeat (fail)); exact aO.o), (by (with_reducible repeat (fail)); exact aT.o), (by (with_reducible repeat (fail)); exact Kd.S_mono bI.o (fun _ hk => ⟨hk.1.2, ⟨hk.2, hk.1.1⟩⟩)), (by (with_reducible repeat (fail)); exact Kd.R_mono bH.o (fun _ hk => ⟨hk.1.2, hk.2⟩)), (by (with_reducible repeat (fail)); exact aA.o), (by (with_reducible repeat (fail)); exact aC.o), (by (with_reducible repeat (fail)); exact aG.o), (by repeat ((with_reducible (exact HB.o))))⟩)
           ·skip
            refine box_step ?hg (N := 9) ?hd (cs := #[.slice none 0 0, .int .i64 0, .slice none 0 0, .slice none 0 0]) (t := 37) ?hr ?_; (case hd => rfl); (case hg => rfl); (case hr => (go_simp; done))
            intro aB hg cB hbox hb
            have n0_ := am (Kd.R_below (by (with_reducible repeat (fail)); exact aN.o) hb)
            have n1_ := am (Kd.R_below (by (with_reducible repeat (fail)); exact aO.o) hb)
            have n2_ := am (Kd.R_below (by (with_reducible repeat (fail)); exact aT.o) hb)
            have n3_ := am (qAk (g := aD) (o := .cells #[.slice aa l0_0.length ad, .int .i64 a0_1, .slice ab l0_2.length ae, .slice ac l0_3.length af] 27 (0, 0)) (by (with_reducible repeat (fail)); exact aA.o) hb)
            have n4_ := am (qAk (g := aF) (o := .cells #[.slice aj l1_0.length al, .slice ak l1_1.length an] 30 (0, 0)) (by (with_reducible repeat (fail)); exact aC.o) hb)
            have n5_ := am (qAk (g := aH) (o := .cells #[.int .i64 a3_0, .int .i64 a3_1, .int .i64 a3_2, .int .u64 a3_3] 50 (0, 0)) (by (with_reducible repeat (fail)); exact aG.o) hb)
            have n6_ := am (qAq (by repeat ((with_reducible (exact HB.o)))) hb)
            have n7_ := am (hbox)
            have n8_ := am ((by rw [hg]; exact (qAm (by repeat ((with_reducible (exact HB.o))))) : w.heap.size ≤ aB))
            have n9_ := am ((by rw [hg]; exact (qAm (by repeat ((with_reducible (exact HB.o))))) : w.heap.size ≤ aB))
            have n10_ := am ((by rw [hg]; exact Nat.ne_of_lt (qAZ (g := aD) (o := .cells #[.slice aa l0_0.length ad, .int .i64 a0_1, .slice ab l0_2.length ae, .slice ac l0_3.length af] 27 (0, 0)) (by (with_reducible repeat (fail)); exact aA.o)) : aD ≠ aB))
            have n11_ := am ((by rw [hg]; exact Nat.ne_of_gt (qAZ (g := aD) (o := .cells #[.slice aa l0_0.length ad, .int .i64 a0_1, .slice ab l0_2.length ae, .slice ac l0_3.length af] 27 (0, 0)) (by (with_reducible repeat (fail)); exact aA.o)) : aB ≠ aD))
            have n12_ := am ((by rw [hg]; exact Nat.ne_of_lt (qAZ (g := aF) (o := .cells #[.slice aj l1_0.length al, .slice ak l1_1.length an] 30 (0, 0)) (by (with_reducible repeat (fail)); exact aC.o)) : aF ≠ aB))
            have n13_ := am ((by rw [hg]; exact Nat.ne_of_gt (qAZ (g := aF) (o := .cells #[.slice aj l1_0.length al, .slice ak l1_1.length an] 30 (0, 0)) (by (with_reducible repeat (fail)); exact aC.o)) : aB ≠ aF))
            have n14_ := am ((by rw [hg]; exact Nat.ne_of_lt (qAZ (g := aH) (o := .cells #[.int .i64 a3_0, .int .i64 a3_1, .int .i64 a3_2, .int .u64 a3_3] 50 (0, 0)) (by (with_reducible repeat (fail)); exact aG.o)) : aH ≠ aB))
            have n15_ := am ((by rw [hg]; exact Nat.ne_of_gt (qAZ (g := aH) (o := .cells #[.int .i64 a3_0, .int .i64 a3_1, .int .i64 a3_2, .int .u64 a3_3] 50 (0, 0)) (by (with_reducible repeat (fail)); exact aG.o)) : aB ≠ aH))
            clear aN
            clear aO
            clear aT
            clear aA
            clear aC
            clear aG
            clear HB
            have aN := n0_
            have aO := n1_
            have aT := n2_
            have aA := n3_
            have aC := n4_
            have aG := n5_
            have HB := n6_
            have aJ := n7_
            have bg := n8_
            have bc := n9_
            have aM := n10_
            have az := n11_
            have aS := n12_
            have bA := n13_
            have ap := n14_
            have bB := n15_
            clear n0_ n1_ n2_ n3_ n4_ n5_ n6_ n7_ n8_ n9_ n10_ n11_ n12_ n13_ n14_ n15_
            clear hb hbox hg
            refine hK.o _ _ ⟨(qAa aA.o 0).trans rfl, (qAa aA.o 1).trans rfl, (qAa aA.o 2).trans rfl, (qAa aA.o 3).trans rfl, (qAa aC.o 0).trans rfl, (qAa aC.o 1).trans rfl⟩ (fun hHeld => ?_)
            clear hK K
            refine nm ?_
            exact nq (hJ1_4 (bY, bZ, bj, aB) _ ⟨hHeld, (by (with_reducible repeat (fail)); exact aN.o), (by (with_reducible repeat (fail)); exact aO.o), (by (with_reducible repeat (fail)); exact aT.o), (by (with_reducible repeat (fail)); exact aA.o), (by (with_reducible repeat (fail)); exact aC.o), (by (with_reducible repeat (fail)); exact aG.o), (by (with_reducible repeat (fail)); exact aJ.o), bg.o, bc.o, aM.o, az.o, aS.o, bA.o, ap.o, bB.o, (by repeat ((with_reducible (exact HB.o))))⟩)
           ·skip
            refine box_step ?hg (N := 10) ?hd (cs := #[.slice none 0 0, .slice none 0 0]) (t := 41) ?hr ?_; (case hd => rfl); (case hg => rfl); (case hr => (go_simp; done))
            intro aE hg cB hbox hb
            have n0_ := am (Kd.R_below (by (with_reducible repeat (fail)); exact aN.o) hb)
            have n1_ := am (Kd.R_below (by (with_reducible repeat (fail)); exact aO.o) hb)
            have n2_ := am (Kd.R_below (by (with_reducible repeat (fail)); exact aT.o) hb)
            have n3_ := am (qAk (g := aD) (o := .cells #[.slice aa l0_0.length ad, .int .i64 a0_1, .slice ab l0_2.length ae, .slice ac l0_3.length af] 27 (0, 0)) (by (with_reducible repeat (fail)); exact aA.o) hb)
            have n4_ := am (qAk (g := aF) (o := .cells #[.slice aj l1_0.length al, .slice ak l1_1.length an] 30 (0, 0)) (by (with_reducible repeat (fail)); exact aC.o) hb)
            have n5_ := am (qAk (g := aH) (o := .cells #[.int .i64 a3_0, .int .i64 a3_1, .int .i64 a3_2, .int .u64 a3_3] 50 (0, 0)) (by (with_reducible repeat (fail)); exact aG.o) hb)
            have n6_ := am (qAq (by repeat ((with_reducible (exact HB.o)))) hb)
            have n7_ := am (hbox)
            have n8_ := am ((by rw [hg]; exact (qAm (by repeat ((with_reducible (exact HB.o))))) : w.heap.size ≤ aE))
            have n9_ := am ((by rw [hg]; exact (qAm (by repeat ((with_reducible (exact HB.o))))) : w.heap.size ≤ aE))
            have n10_ := am ((by rw [hg]; exact Nat.ne_of_lt (qAZ (g := aD) (o := .cells #[.slice aa l0_0.length ad, .int .i64 a0_1, .slice ab l0_2.length ae, .slice ac l0_3.length af] 27 (0, 0)) (by (with_reducible repeat (fail)); exact aA.o)) : aD ≠ aE))
            have n11_ := am ((by rw [hg]; exact Nat.ne_of_gt (qAZ (g := aD) (o := .cells #[.slice aa l0_0.length ad, .int .i64 a0_1, .slice ab l0_2.length ae, .slice ac l0_3.length af] 27 (0, 0)) (by (with_reducible repeat (fail)); exact aA.o)) : aE ≠ aD))
            have n12_ := am ((by rw [hg]; exact Nat.ne_of_lt (qAZ (g := aF) (o := .cells #[.slice aj l1_0.length al, .slice ak l1_1.length an] 30 (0, 0)) (by (with_reducible repeat (fail)); exact aC.o)) : aF ≠ aE))
            have n13_ := am ((by rw [hg]; exact Nat.ne_of_gt (qAZ (g := aF) (o := .cells #[.slice aj l1_0.length al, .slice ak l1_1.length an] 30 (0, 0)) (by (with_reducible repeat (fail)); exact aC.o)) : aE ≠ aF))
            have n14_ := am ((by rw [hg]; exact Nat.ne_of_lt (qAZ (g := aH) (o := .cells #[.int .i64 a3_0, .int .i64 a3_1, .int .i64 a3_2, .int .u64 a3_3] 50 (0, 0)) (by (with_reducible repeat (fail)); exact aG.o)) : aH ≠ aE))
            have n15_ := am ((by rw [hg]; exact Nat.ne_of_gt (qAZ (g := aH) (o := .cells #[.int .i64 a3_0, .int .i64 a3_1, .int .i64 a3_2, .int .u64 a3_3] 50 (0, 0)) (by (with_reducible repeat (fail)); exact aG.o)) : aE ≠ aH))
            clear aN
            clear aO
            clear aT
            clear aA
            clear aC
            clear aG
            clear HB
            have aN := n0_
            have aO := n1_
            have aT := n2_
            have aA := n3_
            have aC := n4_
            have aG := n5_
            have HB := n6_
            have aK := n7_
            have bh := n8_
            have bd := n9_
            have aU := n10_
            have av := n11_
            have ai := n12_
            have aw := n13_
            have aq := n14_
            have ax := n15_
            clear n0_ n1_ n2_ n3_ n4_ n5_ n6_ n7_ n8_ n9_ n10_ n11_ n12_ n13_ n14_ n15_
            clear hb hbox hg
            refine hK.o _ _ ⟨(qAa aA.o 0).trans rfl, (qAa aA.o 1).trans rfl, (qAa aA.o 2).trans rfl, (qAa aA.o 3).trans rfl, (qAa aC.o 0).trans rfl, (qAa aC.o 1).trans rfl⟩ (fun hHeld => ?_)
            clear hK K
            refine nm ?_
            exact nq (hJ1_5 (bY, bZ, bj, aE) _ ⟨hHeld, (by (with_reducible repeat (fail)); exact aN.o), (by (with_reducible repeat (fail)); exact aO.o), (by (with_reducible repeat (fail)); exact aT.o), (by (with_reducible repeat (fail)); exact aA.o), (by (with_reducible repeat (fail)); exact aC.o), (by (with_reducible repeat (fail)); exact aG.o), (by (with_reducible repeat (fail)); exact aK.o), bh.o, bd.o, aU.o, av.o, ai.o, aw.o, aq.o, ax.o, (by repeat ((with_reducible (exact HB.o))))⟩)
         ·skip
          rintro ⟨aB, aE⟩ cB ⟨hS_, h0_, h1_, h2_, h3_, h4_, h5_, h6_, h7_, h8_, h9_, h10_, h11_, h12_, h13_, h14_, h15_, h16_, h17_, h18_, h19_, h20_, h21_, h22_, h23_⟩
          have n0_ : qAd (cB.heap[aD]? = some (.cells #[.slice aa l0_0.length ad, .int .i64 a0_1, .slice ab l0_2.length ae, .slice ac l0_3.length af] 27 (0, 0))) := ⟨h0_⟩
          have n1_ : qAd (cB.heap[aF]? = some (.cells #[.slice aj l1_0.length al, .slice ak l1_1.length an] 30 (0, 0))) := ⟨h1_⟩
          have n2_ : qAd (cB.heap[aH]? = some (.cells #[.int .i64 a3_0, .int .i64 a3_1, .int .i64 a3_2, .int .u64 a3_3] 50 (0, 0))) := ⟨h2_⟩
          have n3_ : qAd (cB.heap[aB]? = some (.cells #[.slice none 0 0, .int .i64 0, .slice none 0 0, .slice none 0 0] 37 (0, 0))) := ⟨h3_⟩
          have n4_ : qAd (cB.heap[aE]? = some (.cells #[.slice none 0 0, .slice none 0 0] 41 (0, 0))) := ⟨h4_⟩
          have n5_ : qAd (w.heap.size ≤ aB) := ⟨h5_⟩
          have n6_ : qAd (w.heap.size ≤ aB) := ⟨h6_⟩
          have n7_ : qAd (aD ≠ aB) := ⟨h7_⟩
          have n8_ : qAd (aB ≠ aD) := ⟨h8_⟩
          have n9_ : qAd (aF ≠ aB) := ⟨h9_⟩
          have n10_ : qAd (aB ≠ aF) := ⟨h10_⟩
          have n11_ : qAd (aH ≠ aB) := ⟨h11_⟩
          have n12_ : qAd (aB ≠ aH) := ⟨h12_⟩
          have n13_ : qAd (aE ≠ aB) := ⟨h13_⟩
          have n14_ : qAd (aB ≠ aE) := ⟨h14_⟩
          have n15_ : qAd (w.heap.size ≤ aE) := ⟨h15_⟩
          have n16_ : qAd (w.heap.size ≤ aE) := ⟨h16_⟩
          have n17_ : qAd (aD ≠ aE) := ⟨h17_⟩
          have n18_ : qAd (aE ≠ aD) := ⟨h18_⟩
          have n19_ : qAd (aF ≠ aE) := ⟨h19_⟩
          have n20_ : qAd (aE ≠ aF) := ⟨h20_⟩
          have n21_ : qAd (aH ≠ aE) := ⟨h21_⟩
          have n22_ : qAd (aE ≠ aH) := ⟨h22_⟩
          have n23_ : qAd (Below w.heap.size w cB) := ⟨h23_⟩
          clear aA
          clear aC
          clear aG
          clear HB
          clear h0_ h1_ h2_ h3_ h4_ h5_ h6_ h7_ h8_ h9_ h10_ h11_ h12_ h13_ h14_ h15_ h16_ h17_ h18_ h19_ h20_ h21_ h22_ h23_
          have aA := n0_
          have aC := n1_
          have aG := n2_
          have aJ := n3_
          have aK := n4_
          have bg := n5_
          have bc := n6_
          have aM := n7_
          have az := n8_
          have aS := n9_
          have bA := n10_
          have ap := n11_
          have bB := n12_
          have bC := n13_
          have bK := n14_
          have bh := n15_
          have bd := n16_
          have aU := n17_
          have av := n18_
          have ai := n19_
          have aw := n20_
          have aq := n21_
          have ax := n22_
          have HB := n23_
          clear n0_ n1_ n2_ n3_ n4_ n5_ n6_ n7_ n8_ n9_ n10_ n11_ n12_ n13_ n14_ n15_ n16_ n17_ n18_ n19_ n20_ n21_ n22_ n23_
          refine qCX (a' := ?_) ?_ ?_
          rotate_left
          ·simp only [qE6, Act.put, List.setIfInBounds_toArray, List.set_cons_zero, List.set_cons_succ]
           rfl
          refine one_ (i := 1) (N := some 30) (mK 8 55) rfl rfl (qBp HT_.o (by kernel_rfl)) (by decide) (fun K hK => ?_)
          refine qCs Tryz.func14 (by kernel_rfl) rfl #[.agg #[.slice aa l0_0.length ad, .int .i64 a0_1, .slice ab l0_2.length ae, .slice ac l0_3.length af]] (by rfl) rfl rfl (by (try simp only [List.map_toArray, List.map_cons, List.map_nil]); (rfl)) ?_
          with_reducible refine (qAG.calls k _ _ l0_0 a0_1 _ _ l0_2 _ _ l0_3 aP au aR aV _ ?side1 ?side2 ?side3 ?side4 ?side5 ?side6 A7.o).mono ?_
          (case side1 => repeat ((exact (Kd.C_below ci.o HB.o))))
          (case side2 => exact ce.o)
          (case side3 => repeat ((exact (Kd.C_below cj.o HB.o))))
          (case side4 => exact cf.o)
          (case side5 => repeat ((exact (Kd.C_below ck.o HB.o))))
          (case side6 => exact cg.o)
          rintro e cI ⟨bY, bZ, bj, rfl, bo, cH, cm, hb⟩
          refine ⟨_, rfl, ?_⟩
          have n0_ := am (Kd.R_lower bo (qAm (by repeat ((with_reducible (exact HB.o))))))
          have n1_ := am (Kd.R_lower cH (qAm (by repeat ((with_reducible (exact HB.o))))))
          have n2_ := am (Kd.R_lower cm (qAm (by repeat ((with_reducible (exact HB.o))))))
          have n3_ := am (qAk (g := aD) (o := .cells #[.slice aa l0_0.length ad, .int .i64 a0_1, .slice ab l0_2.length ae, .slice ac l0_3.length af] 27 (0, 0)) (by (with_reducible repeat (fail)); exact aA.o) hb)
          have n4_ := am (qAk (g := aF) (o := .cells #[.slice aj l1_0.length al, .slice ak l1_1.length an] 30 (0, 0)) (by (with_reducible repeat (fail)); exact aC.o) hb)
          have n5_ := am (qAk (g := aH) (o := .cells #[.int .i64 a3_0, .int .i64 a3_1, .int .i64 a3_2, .int .u64 a3_3] 50 (0, 0)) (by (with_reducible repeat (fail)); exact aG.o) hb)
          have n6_ := am (qAk (g := aB) (o := .cells #[.slice none 0 0, .int .i64 0, .slice none 0 0, .slice none 0 0] 37 (0, 0)) (by (with_reducible repeat (fail)); exact aJ.o) hb)
          have n7_ := am (qAk (g := aE) (o := .cells #[.slice none 0 0, .slice none 0 0] 41 (0, 0)) (by (with_reducible repeat (fail)); exact aK.o) hb)
          have n8_ := am (qAq (by repeat ((with_reducible (exact HB.o)))) hb)
          clear aA
          clear aC
          clear aG
          clear aJ
          clear aK
          clear HB
          have aN := n0_
          have aO := n1_
          have aT := n2_
          have aA := n3_
          have aC := n4_
          have aG := n5_
          have aJ := n6_
          have aK := n7_
          have HB := n8_
          clear n0_ n1_ n2_ n3_ n4_ n5_ n6_ n7_ n8_
          (try clear hb)
          (skip)
          (skip)
          (skip)
          (try clear bo)
          (try clear cH)
          (try clear cm)
          refine hK.o _ _ ⟨(qAa aA.o 0).trans rfl, (qAa aA.o 1).trans rfl, (qAa aA.o 2).trans rfl, (qAa aA.o 3).trans rfl, (qAa aC.o 0).trans rfl, (qAa aC.o 1).trans rfl⟩ (fun hHeld => ?_)
          clear hK K
          refine nm ?_
          exact nq (hJ1_4_5 (bY, bZ, bj, aB, aE) _ ⟨hHeld, (by (with_reducible repeat (fail)); exact aN.o), (by (with_reducible repeat (fail)); exact aO.o), (by (with_reducible repeat (fail)); exact aT.o), (by (with_reducible repeat (fail)); exact aA.o), (by (with_reducible repeat (fail)); exact aC.o), (by (with_reducible repeat (fail)); exact aG.o), (by (with_reducible repeat (fail)); exact aJ.o), (by (with_reducible repeat (fail)); exact aK.o), bg.o, bc.o, aM.o, az.o, aS.o, bA.o, ap.o, bB.o, bC.o, bK.o, bh.o, bd.o, aU.o, av.o, ai.o, aw.o, aq.o, ax.o, (by repeat ((with_reducible (exact HB.o))))⟩)
        ·skip
         rintro ⟨bY, bZ, bj, aE⟩ cB ⟨hS_, h0_, h1_, h2_, h3_, h4_, h5_, h6_, h7_, h8_, h9_, h10_, h11_, h12_, h13_, h14_, h15_⟩
         have n0_ : qAd (Kd.R (Kd.int .i64) 3 cB w.heap.size (fun k_ => some k_ ≠ (bZ : Value).ownBlock) bY aP) := ⟨h0_⟩
         have n1_ : qAd (Kd.R (Kd.int .i64) 3 cB w.heap.size (fun k_ => some k_ ≠ (bY : Value).ownBlock) bZ aR) := ⟨h1_⟩
         have n2_ : qAd (Kd.R k51 51 cB w.heap.size (fun _ => True) bj aV) := ⟨h2_⟩
         have n3_ : qAd (cB.heap[aD]? = some (.cells #[.slice aa l0_0.length ad, .int .i64 a0_1, .slice ab l0_2.length ae, .slice ac l0_3.length af] 27 (0, 0))) := ⟨h3_⟩
         have n4_ : qAd (cB.heap[aF]? = some (.cells #[.slice aj l1_0.length al, .slice ak l1_1.length an] 30 (0, 0))) := ⟨h4_⟩
         have n5_ : qAd (cB.heap[aH]? = some (.cells #[.int .i64 a3_0, .int .i64 a3_1, .int .i64 a3_2, .int .u64 a3_3] 50 (0, 0))) := ⟨h5_⟩
         have n6_ : qAd (cB.heap[aE]? = some (.cells #[.slice none 0 0, .slice none 0 0] 41 (0, 0))) := ⟨h6_⟩
         have n7_ : qAd (w.heap.size ≤ aE) := ⟨h7_⟩
         have n8_ : qAd (w.heap.size ≤ aE) := ⟨h8_⟩
         have n9_ : qAd (aD ≠ aE) := ⟨h9_⟩
         have n10_ : qAd (aE ≠ aD) := ⟨h10_⟩
         have n11_ : qAd (aF ≠ aE) := ⟨h11_⟩
         have n12_ : qAd (aE ≠ aF) := ⟨h12_⟩
         have n13_ : qAd (aH ≠ aE) := ⟨h13_⟩
         have n14_ : qAd (aE ≠ aH) := ⟨h14_⟩
         have n15_ : qAd (Below w.heap.size w cB) := ⟨h15_⟩
         clear aA
         clear aC
         clear aG
         clear HB
         clear h0_ h1_ h2_ h3_ h4_ h5_ h6_ h7_ h8_ h9_ h10_ h11_ h12_ h13_ h14_ h15_
         have aN := n0_
         have aO := n1_
         have aT := n2_
         have aA := n3_
         have aC := n4_
         have aG := n5_
         have aK := n6_
         have bh := n7_
         have bd := n8_
         have aU := n9_
         have av := n10_
         have ai := n11_
         have aw := n12_
         have aq := n13_
         have ax := n14_
         have HB := n15_
         clear n0_ n1_ n2_ n3_ n4_ n5_ n6_ n7_ n8_ n9_ n10_ n11_ n12_ n13_ n14_ n15_
         refine qCX (a' := ?_) ?_ ?_
         rotate_left
         ·simp only [qE6, Act.put, List.setIfInBounds_toArray, List.set_cons_zero, List.set_cons_succ]
          rfl
         refine two_ (i := 3) (j := 4) (Ni := some 32) (Nj := some 9) (mK 8 47) (mK 8 55) rfl rfl rfl rfl (two_of HT_.o (by kernel_rfl)) (by decide) (by decide) (fun K hK => ?_) (fun K hK => ?_)
         ·skip
          refine qCs Tryz.func15 (by kernel_rfl) rfl #[.agg #[.slice aj l1_0.length al, .slice ak l1_1.length an]] (by rfl) rfl rfl (by (try simp only [List.map_toArray, List.map_cons, List.map_nil]); (rfl)) ?_
          with_reducible refine (qAx.calls k _ _ l1_0 _ _ l1_1 ao aW _ ?side1 ?side2 ?side3 ?side4 A8.o).mono ?_
          (case side1 => repeat ((exact (Kd.C_below cq.o HB.o))))
          (case side2 => exact co.o)
          (case side3 => repeat ((exact (Kd.C_below cr.o HB.o))))
          (case side4 => exact cp.o)
          rintro e cI ⟨cC, bk, rfl, bo, cH, hb⟩
          refine ⟨_, rfl, ?_⟩
          have n0_ := am (Kd.R_elder' (by (with_reducible repeat (fail)); exact aN.o) (Kd.R_base cH) hb)
          have n1_ := am (Kd.R_elder' (by (with_reducible repeat (fail)); exact aO.o) (Kd.R_base cH) hb)
          have n2_ := am (Kd.R_below (by (with_reducible repeat (fail)); exact aT.o) hb)
          have n3_ := am (Kd.S_lower (Kd.S_new' (Kd.S_new' bo (Kd.R_lt (by (with_reducible repeat (fail)); exact aN.o))) (Kd.R_lt (by (with_reducible repeat (fail)); exact aO.o))) (qAm (by repeat ((with_reducible (exact HB.o))))))
          have n4_ := am (Kd.R_lower (Kd.R_new' (Kd.R_new' cH (Kd.R_lt (by (with_reducible repeat (fail)); exact aN.o))) (Kd.R_lt (by (with_reducible repeat (fail)); exact aO.o))) (qAm (by repeat ((with_reducible (exact HB.o))))))
          have n5_ := am (qAk (g := aD) (o := .cells #[.slice aa l0_0.length ad, .int .i64 a0_1, .slice ab l0_2.length ae, .slice ac l0_3.length af] 27 (0, 0)) (by (with_reducible repeat (fail)); exact aA.o) hb)
          have n6_ := am (qAk (g := aF) (o := .cells #[.slice aj l1_0.length al, .slice ak l1_1.length an] 30 (0, 0)) (by (with_reducible repeat (fail)); exact aC.o) hb)
          have n7_ := am (qAk (g := aH) (o := .cells #[.int .i64 a3_0, .int .i64 a3_1, .int .i64 a3_2, .int .u64 a3_3] 50 (0, 0)) (by (with_reducible repeat (fail)); exact aG.o) hb)
          have n8_ := am (qAk (g := aE) (o := .cells #[.slice none 0 0, .slice none 0 0] 41 (0, 0)) (by (with_reducible repeat (fail)); exact aK.o) hb)
          have n9_ := am (qAq (by repeat ((with_reducible (exact HB.o)))) hb)
          clear aN
          clear aO
          clear aT
          clear aA
          clear aC
          clear aG
          clear aK
          clear HB
          have aN := n0_
          have aO := n1_
          have aT := n2_
          have bI := n3_
          have bH := n4_
          have aA := n5_
          have aC := n6_
          have aG := n7_
          have aK := n8_
          have HB := n9_
          clear n0_ n1_ n2_ n3_ n4_ n5_ n6_ n7_ n8_ n9_
          (try clear hb)
          (skip)
          (skip)
          (skip)
          (try clear bo)
          (try clear cH)
          refine hK.o _ _ ⟨(qAa aA.o 0).trans rfl, (qAa aA.o 1).trans rfl, (qAa aA.o 2).trans rfl, (qAa aA.o 3).trans rfl, (qAa aC.o 0).trans rfl, (qAa aC.o 1).trans rfl⟩ (fun hHeld => ?_)
          clear hK K
          refine nm ?_
          exact nq (hJ1_3_5 (bY, bZ, bj, cC, bk, aE) _ ⟨hHeld, (by (with_reducible repeat (fail)); exact aN.o), (by (with_reducible repeat (fail)); exact aO.o), (by (with_reducible repeat (fail)); exact aT.o), (by (with_reducible repeat (fail)); exact Kd.S_mono bI.o (fun _ hk => ⟨hk.1.2, ⟨hk.2, hk.1.1⟩⟩)), (by (with_reducible repeat (fail)); exact Kd.R_mono bH.o (fun _ hk => ⟨hk.1.2, hk.2⟩)), (by (with_reducible repeat (fail)); exact aA.o), (by (with_reducible repeat (fail)); exact aC.o), (by (with_reducible repeat (fail)); exact aG.o), (by (with_reducible repeat (fail)); exact aK.o), bh.o, bd.o, aU.o, av.o, ai.o, aw.o, aq.o, ax.o, (by repeat ((with_reducible (exact HB.o))))⟩)
         ·skip
          refine box_step ?hg (N := 9) ?hd (cs := #[.slice none 0 0, .int .i64 0, .slice none 0 0, .slice none 0 0]) (t := 37) ?hr ?_; (case hd => rfl); (case hg => rfl); (case hr => (go_simp; done))
          intro aB hg cI hbox hb
          have n0_ := am (Kd.R_below (by (with_reducible repeat (fail)); exact aN.o) hb)
          have n1_ := am (Kd.R_below (by (with_reducible repeat (fail)); exact aO.o) hb)
          have n2_ := am (Kd.R_below (by (with_reducible repeat (fail)); exact aT.o) hb)
          have n3_ := am (qAk (g := aD) (o := .cells #[.slice aa l0_0.length ad, .int .i64 a0_1, .slice ab l0_2.length ae, .slice ac l0_3.length af] 27 (0, 0)) (by (with_reducible repeat (fail)); exact aA.o) hb)
          have n4_ := am (qAk (g := aF) (o := .cells #[.slice aj l1_0.length al, .slice ak l1_1.length an] 30 (0, 0)) (by (with_reducible repeat (fail)); exact aC.o) hb)
          have n5_ := am (qAk (g := aH) (o := .cells #[.int .i64 a3_0, .int .i64 a3_1, .int .i64 a3_2, .int .u64 a3_3] 50 (0, 0)) (by (with_reducible repeat (fail)); exact aG.o) hb)
          have n6_ := am (qAk (g := aE) (o := .cells #[.slice none 0 0, .slice none 0 0] 41 (0, 0)) (by (with_reducible repeat (fail)); exact aK.o) hb)
          have n7_ := am (qAq (by repeat ((with_reducible (exact HB.o)))) hb)
          have n8_ := am (hbox)
          have n9_ := am ((by rw [hg]; exact (qAm (by repeat ((with_reducible (exact HB.o))))) : w.heap.size ≤ aB))
          have n10_ := am ((by rw [hg]; exact (qAm (by repeat ((with_reducible (exact HB.o))))) : w.heap.size ≤ aB))
          have n11_ := am ((by rw [hg]; exact Nat.ne_of_lt (qAZ (g := aD) (o := .cells #[.slice aa l0_0.length ad, .int .i64 a0_1, .slice ab l0_2.length ae, .slice ac l0_3.length af] 27 (0, 0)) (by (with_reducible repeat (fail)); exact aA.o)) : aD ≠ aB))
          have n12_ := am ((by rw [hg]; exact Nat.ne_of_gt (qAZ (g := aD) (o := .cells #[.slice aa l0_0.length ad, .int .i64 a0_1, .slice ab l0_2.length ae, .slice ac l0_3.length af] 27 (0, 0)) (by (with_reducible repeat (fail)); exact aA.o)) : aB ≠ aD))
          have n13_ := am ((by rw [hg]; exact Nat.ne_of_lt (qAZ (g := aF) (o := .cells #[.slice aj l1_0.length al, .slice ak l1_1.length an] 30 (0, 0)) (by (with_reducible repeat (fail)); exact aC.o)) : aF ≠ aB))
          have n14_ := am ((by rw [hg]; exact Nat.ne_of_gt (qAZ (g := aF) (o := .cells #[.slice aj l1_0.length al, .slice ak l1_1.length an] 30 (0, 0)) (by (with_reducible repeat (fail)); exact aC.o)) : aB ≠ aF))
          have n15_ := am ((by rw [hg]; exact Nat.ne_of_lt (qAZ (g := aH) (o := .cells #[.int .i64 a3_0, .int .i64 a3_1, .int .i64 a3_2, .int .u64 a3_3] 50 (0, 0)) (by (with_reducible repeat (fail)); exact aG.o)) : aH ≠ aB))
          have n16_ := am ((by rw [hg]; exact Nat.ne_of_gt (qAZ (g := aH) (o := .cells #[.int .i64 a3_0, .int .i64 a3_1, .int .i64 a3_2, .int .u64 a3_3] 50 (0, 0)) (by (with_reducible repeat (fail)); exact aG.o)) : aB ≠ aH))
          have n17_ := am ((by rw [hg]; exact Nat.ne_of_lt (qAZ (g := aE) (o := .cells #[.slice none 0 0, .slice none 0 0] 41 (0, 0)) (by (with_reducible repeat (fail)); exact aK.o)) : aE ≠ aB))
          have n18_ := am ((by rw [hg]; exact Nat.ne_of_gt (qAZ (g := aE) (o := .cells #[.slice none 0 0, .slice none 0 0] 41 (0, 0)) (by (with_reducible repeat (fail)); exact aK.o)) : aB ≠ aE))
          clear aN
          clear aO
          clear aT
          clear aA
          clear aC
          clear aG
          clear aK
          clear HB
          have aN := n0_
          have aO := n1_
          have aT := n2_
          have aA := n3_
          have aC := n4_
          have aG := n5_
          have aK := n6_
          have HB := n7_
          have aJ := n8_
          have bg := n9_
          have bc := n10_
          have aM := n11_
          have az := n12_
          have aS := n13_
          have bA := n14_
          have ap := n15_
          have bB := n16_
          have bC := n17_
          have bK := n18_
          clear n0_ n1_ n2_ n3_ n4_ n5_ n6_ n7_ n8_ n9_ n10_ n11_ n12_ n13_ n14_ n15_ n16_ n17_ n18_
          clear hb hbox hg
          refine hK.o _ _ ⟨(qAa aA.o 0).trans rfl, (qAa aA.o 1).trans rfl, (qAa aA.o 2).trans rfl, (qAa aA.o 3).trans rfl, (qAa aC.o 0).trans rfl, (qAa aC.o 1).trans rfl⟩ (fun hHeld => ?_)
          clear hK K
          refine nm ?_
          exact nq (hJ1_4_5 (bY, bZ, bj, aB, aE) _ ⟨hHeld, (by (with_reducible repeat (fail)); exact aN.o), (by (with_reducible repeat (fail)); exact aO.o), (by (with_reducible repeat (fail)); exact aT.o), (by (with_reducible repeat (fail)); exact aA.o), (by (with_reducible repeat (fail)); exact aC.o), (by (with_reducible repeat (fail)); exact aG.o), (by (with_reducible repeat (fail)); exact aJ.o), (by (with_reducible repeat (fail)); exact aK.o), bg.o, bc.o, aM.o, az.o, aS.o, bA.o, ap.o, bB.o, bC.o, bK.o, bh.o, bd.o, aU.o, av.o, ai.o, aw.o, aq.o, ax.o, (by repeat ((with_reducible (exact HB.o))))⟩)
       ·skip
        rintro ⟨bY, bZ, bj, aB⟩ cB ⟨hS_, h0_, h1_, h2_, h3_, h4_, h5_, h6_, h7_, h8_, h9_, h10_, h11_, h12_, h13_, h14_, h15_⟩
        have n0_ : qAd (Kd.R (Kd.int .i64) 3 cB w.heap.size (fun k_ => some k_ ≠ (bZ : Value).ownBlock) bY aP) := ⟨h0_⟩
        have n1_ : qAd (Kd.R (Kd.int .i64) 3 cB w.heap.size (fun k_ => some k_ ≠ (bY : Value).ownBlock) bZ aR) := ⟨h1_⟩
        have n2_ : qAd (Kd.R k51 51 cB w.heap.size (fun _ => True) bj aV) := ⟨h2_⟩
        have n3_ : qAd (cB.heap[aD]? = some (.cells #[.slice aa l0_0.length ad, .int .i64 a0_1, .slice ab l0_2.length ae, .slice ac l0_3.length af] 27 (0, 0))) := ⟨h3_⟩
        have n4_ : qAd (cB.heap[aF]? = some (.cells #[.slice aj l1_0.length al, .slice ak l1_1.length an] 30 (0, 0))) := ⟨h4_⟩
        have n5_ : qAd (cB.heap[aH]? = some (.cells #[.int .i64 a3_0, .int .i64 a3_1, .int .i64 a3_2, .int .u64 a3_3] 50 (0, 0))) := ⟨h5_⟩
        have n6_ : qAd (cB.heap[aB]? = some (.cells #[.slice none 0 0, .int .i64 0, .slice none 0 0, .slice none 0 0] 37 (0, 0))) := ⟨h6_⟩
        have n7_ : qAd (w.heap.size ≤ aB) := ⟨h7_⟩
        have n8_ : qAd (w.heap.size ≤ aB) := ⟨h8_⟩
        have n9_ : qAd (aD ≠ aB) := ⟨h9_⟩
        have n10_ : qAd (aB ≠ aD) := ⟨h10_⟩
        have n11_ : qAd (aF ≠ aB) := ⟨h11_⟩
        have n12_ : qAd (aB ≠ aF) := ⟨h12_⟩
        have n13_ : qAd (aH ≠ aB) := ⟨h13_⟩
        have n14_ : qAd (aB ≠ aH) := ⟨h14_⟩
        have n15_ : qAd (Below w.heap.size w cB) := ⟨h15_⟩
        clear aA
        clear aC
        clear aG
        clear HB
        clear h0_ h1_ h2_ h3_ h4_ h5_ h6_ h7_ h8_ h9_ h10_ h11_ h12_ h13_ h14_ h15_
        have aN := n0_
        have aO := n1_
        have aT := n2_
        have aA := n3_
        have aC := n4_
        have aG := n5_
        have aJ := n6_
        have bg := n7_
        have bc := n8_
        have aM := n9_
        have az := n10_
        have aS := n11_
        have bA := n12_
        have ap := n13_
        have bB := n14_
        have HB := n15_
        clear n0_ n1_ n2_ n3_ n4_ n5_ n6_ n7_ n8_ n9_ n10_ n11_ n12_ n13_ n14_ n15_
        refine qCX (a' := ?_) ?_ ?_
        rotate_left
        ·simp only [qE6, Act.put, List.setIfInBounds_toArray, List.set_cons_zero, List.set_cons_succ]
         rfl
        refine two_ (i := 3) (j := 5) (Ni := some 32) (Nj := some 10) (mK 8 31) (mK 8 55) rfl rfl rfl rfl (two_of HT_.o (by kernel_rfl)) (by decide) (by decide) (fun K hK => ?_) (fun K hK => ?_)
        ·skip
         refine qCs Tryz.func15 (by kernel_rfl) rfl #[.agg #[.slice aj l1_0.length al, .slice ak l1_1.length an]] (by rfl) rfl rfl (by (try simp only [List.map_toArray, List.map_cons, List.map_nil]); (rfl)) ?_
         with_reducible refine (qAx.calls k _ _ l1_0 _ _ l1_1 ao aW _ ?side1 ?side2 ?side3 ?side4 A8.o).mono ?_
         (case side1 => repeat ((exact (Kd.C_below cq.o HB.o))))
         (case side2 => exact co.o)
         (case side3 => repeat ((exact (Kd.C_below cr.o HB.o))))
         (case side4 => exact cp.o)
         rintro e cI ⟨cC, bk, rfl, bo, cH, hb⟩
         refine ⟨_, rfl, ?_⟩
         have n0_ := am (Kd.R_elder' (by (with_reducible repeat (fail)); exact aN.o) (Kd.R_base cH) hb)
         have n1_ := am (Kd.R_elder' (by (with_reducible repeat (fail)); exact aO.o) (Kd.R_base cH) hb)
         have n2_ := am (Kd.R_below (by (with_reducible repeat (fail)); exact aT.o) hb)
         have n3_ := am (Kd.S_lower (Kd.S_new' (Kd.S_new' bo (Kd.R_lt (by (with_reducible repeat (fail)); exact aN.o))) (Kd.R_lt (by (with_reducible repeat (fail)); exact aO.o))) (qAm (by repeat ((with_reducible (exact HB.o))))))
         have n4_ := am (Kd.R_lower (Kd.R_new' (Kd.R_new' cH (Kd.R_lt (by (with_reducible repeat (fail)); exact aN.o))) (Kd.R_lt (by (with_reducible repeat (fail)); exact aO.o))) (qAm (by repeat ((with_reducible (exact HB.o))))))
         have n5_ := am (qAk (g := aD) (o := .cells #[.slice aa l0_0.length ad, .int .i64 a0_1, .slice ab l0_2.length ae, .slice ac l0_3.length af] 27 (0, 0)) (by (with_reducible repeat (fail)); exact aA.o) hb)
         have n6_ := am (qAk (g := aF) (o := .cells #[.slice aj l1_0.length al, .slice ak l1_1.length an] 30 (0, 0)) (by (with_reducible repeat (fail)); exact aC.o) hb)
         have n7_ := am (qAk (g := aH) (o := .cells #[.int .i64 a3_0, .int .i64 a3_1, .int .i64 a3_2, .int .u64 a3_3] 50 (0, 0)) (by (with_reducible repeat (fail)); exact aG.o) hb)
         have n8_ := am (qAk (g := aB) (o := .cells #[.slice none 0 0, .int .i64 0, .slice none 0 0, .slice none 0 0] 37 (0, 0)) (by (with_reducible repeat (fail)); exact aJ.o) hb)
         have n9_ := am (qAq (by repeat ((with_reducible (exact HB.o)))) hb)
         clear aN
         clear aO
         clear aT
         clear aA
         clear aC
         clear aG
         clear aJ
         clear HB
         have aN := n0_
         have aO := n1_
         have aT := n2_
         have bI := n3_
         have bH := n4_
         have aA := n5_
         have aC := n6_
         have aG := n7_
         have aJ := n8_
         have HB := n9_
         clear n0_ n1_ n2_ n3_ n4_ n5_ n6_ n7_ n8_ n9_
         (try clear hb)
         (skip)
         (skip)
         (skip)
         (try clear bo)
         (try clear cH)
         refine hK.o _ _ ⟨(qAa aA.o 0).trans rfl, (qAa aA.o 1).trans rfl, (qAa aA.o 2).trans rfl, (qAa aA.o 3).trans rfl, (qAa aC.o 0).trans rfl, (qAa aC.o 1).trans rfl⟩ (fun hHeld => ?_)
         clear hK K
         refine nm ?_
         exact nq (hJ1_3_4 (bY, bZ, bj, cC, bk, aB) _ ⟨hHeld, (by (with_reducible repeat (fail)); exact aN.o), (by (with_reducible repeat (fail)); exact aO.o), (by (with_reducible repeat (fail)); exact aT.o), (by (with_reducible repeat (fail)); exact Kd.S_mono bI.o (fun _ hk => ⟨hk.1.2, ⟨hk.2, hk.1.1⟩⟩)), (by (with_reducible repeat (fail)); exact Kd.R_mono bH.o (fun _ hk => ⟨hk.1.2, hk.2⟩)), (by (with_reducible repeat (fail)); exact aA.o), (by (with_reducible repeat (fail)); exact aC.o), (by (with_reducible repeat (fail)); exact aG.o), (by (with_reducible repeat (fail)); exact aJ.o), bg.o, bc.o, aM.o, az.o, aS.o, bA.o, ap.o, bB.o, (by repeat ((with_reducible (exact HB.o))))⟩)
        ·skip
         refine box_step ?hg (N := 10) ?hd (cs := #[.slice none 0 0, .slice none 0 0]) (t := 41) ?hr ?_; (case hd => rfl); (case hg => rfl); (case hr => (go_simp; done))
         intro aE hg cI hbox hb
         have n0_ := am (Kd.R_below (by (with_reducible repeat (fail)); exact aN.o) hb)
         have n1_ := am (Kd.R_below (by (with_reducible repeat (fail)); exact aO.o) hb)
         have n2_ := am (Kd.R_below (by (with_reducible repeat (fail)); exact aT.o) hb)
         have n3_ := am (qAk (g := aD) (o := .cells #[.slice aa l0_0.length ad, .int .i64 a0_1, .slice ab l0_2.length ae, .slice ac l0_3.length af] 27 (0, 0)) (by (with_reducible repeat (fail)); exact aA.o) hb)
         have n4_ := am (qAk (g := aF) (o := .cells #[.slice aj l1_0.length al, .slice ak l1_1.length an] 30 (0, 0)) (by (with_reducible repeat (fail)); exact aC.o) hb)
         have n5_ := am (qAk (g := aH) (o := .cells #[.int .i64 a3_0, .int .i64 a3_1, .int .i64 a3_2, .int .u64 a3_3] 50 (0, 0)) (by (with_reducible repeat (fail)); exact aG.o) hb)
         have n6_ := am (qAk (g := aB) (o := .cells #[.slice none 0 0, .int .i64 0, .slice none 0 0, .slice none 0 0] 37 (0, 0)) (by (with_reducible repeat (fail)); exact aJ.o) hb)
         have n7_ := am (qAq (by repeat ((with_reducible (exact HB.o)))) hb)
         have n8_ := am (hbox)
         have n9_ := am ((by rw [hg]; exact (qAm (by repeat ((with_reducible (exact HB.o))))) : w.heap.size ≤ aE))
         have n10_ := am ((by rw [hg]; exact (qAm (by repeat ((with_reducible (exact HB.o))))) : w.heap.size ≤ aE))
         have n11_ := am ((by rw [hg]; exact Nat.ne_of_lt (qAZ (g := aD) (o := .cells #[.slice aa l0_0.length ad, .int .i64 a0_1, .slice ab l0_2.length ae, .slice ac l0_3.length af] 27 (0, 0)) (by (with_reducible repeat (fail)); exact aA.o)) : aD ≠ aE))
         have n12_ := am ((by rw [hg]; exact Nat.ne_of_gt (qAZ (g := aD) (o := .cells #[.slice aa l0_0.length ad, .int .i64 a0_1, .slice ab l0_2.length ae, .slice ac l0_3.length af] 27 (0, 0)) (by (with_reducible repeat (fail)); exact aA.o)) : aE ≠ aD))
         have n13_ := am ((by rw [hg]; exact Nat.ne_of_lt (qAZ (g := aF) (o := .cells #[.slice aj l1_0.length al, .slice ak l1_1.length an] 30 (0, 0)) (by (with_reducible repeat (fail)); exact aC.o)) : aF ≠ aE))
         have n14_ := am ((by rw [hg]; exact Nat.ne_of_gt (qAZ (g := aF) (o := .cells #[.slice aj l1_0.length al, .slice ak l1_1.length an] 30 (0, 0)) (by (with_reducible repeat (fail)); exact aC.o)) : aE ≠ aF))
         have n15_ := am ((by rw [hg]; exact Nat.ne_of_lt (qAZ (g := aH) (o := .cells #[.int .i64 a3_0, .int .i64 a3_1, .int .i64 a3_2, .int .u64 a3_3] 50 (0, 0)) (by (with_reducible repeat (fail)); exact aG.o)) : aH ≠ aE))
         have n16_ := am ((by rw [hg]; exact Nat.ne_of_gt (qAZ (g := aH) (o := .cells #[.int .i64 a3_0, .int .i64 a3_1, .int .i64 a3_2, .int .u64 a3_3] 50 (0, 0)) (by (with_reducible repeat (fail)); exact aG.o)) : aE ≠ aH))
         have n17_ := am ((by rw [hg]; exact Nat.ne_of_lt (qAZ (g := aB) (o := .cells #[.slice none 0 0, .int .i64 0, .slice none 0 0, .slice none 0 0] 37 (0, 0)) (by (with_reducible repeat (fail)); exact aJ.o)) : aB ≠ aE))
         have n18_ := am ((by rw [hg]; exact Nat.ne_of_gt (qAZ (g := aB) (o := .cells #[.slice none 0 0, .int .i64 0, .slice none 0 0, .slice none 0 0] 37 (0, 0)) (by (with_reducible repeat (fail)); exact aJ.o)) : aE ≠ aB))
         clear aN
         clear aO
         clear aT
         clear aA
         clear aC
         clear aG
         clear aJ
         clear HB
         have aN := n0_
         have aO := n1_
         have aT := n2_
         have aA := n3_
         have aC := n4_
         have aG := n5_
         have aJ := n6_
         have HB := n7_
         have aK := n8_
         have bh := n9_
         have bd := n10_
         have aU := n11_
         have av := n12_
         have ai := n13_
         have aw := n14_
         have aq := n15_
         have ax := n16_
         have bK := n17_
         have bC := n18_
         clear n0_ n1_ n2_ n3_ n4_ n5_ n6_ n7_ n8_ n9_ n10_ n11_ n12_ n13_ n14_ n15_ n16_ n17_ n18_
         clear hb hbox hg
         refine hK.o _ _ ⟨(qAa aA.o 0).trans rfl, (qAa aA.o 1).trans rfl, (qAa aA.o 2).trans rfl, (qAa aA.o 3).trans rfl, (qAa aC.o 0).trans rfl, (qAa aC.o 1).trans rfl⟩ (fun hHeld => ?_)
         clear hK K
         refine nm ?_
         exact nq (hJ1_4_5 (bY, bZ, bj, aB, aE) _ ⟨hHeld, (by (with_reducible repeat (fail)); exact aN.o), (by (with_reducible repeat (fail)); exact aO.o), (by (with_reducible repeat (fail)); exact aT.o), (by (with_reducible repeat (fail)); exact aA.o), (by (with_reducible repeat (fail)); exact aC.o), (by (with_reducible repeat (fail)); exact aG.o), (by (with_reducible repeat (fail)); exact aJ.o), (by (with_reducible repeat (fail)); exact aK.o), bg.o, bc.o, aM.o, az.o, aS.o, bA.o, ap.o, bB.o, bC.o, bK.o, bh.o, bd.o, aU.o, av.o, ai.o, aw.o, aq.o, ax.o, (by repeat ((with_reducible (exact HB.o))))⟩)
      ·skip
       rintro ⟨bY, bZ, bj, cC, bk⟩ cB ⟨hS_, h0_, h1_, h2_, h3_, h4_, h5_, h6_, h7_, h8_⟩
       have n0_ : qAd (Kd.R (Kd.int .i64) 3 cB w.heap.size (fun k_ => some k_ ≠ (bZ : Value).ownBlock ∧ some k_ ≠ (bk : Value).ownBlock) bY aP) := ⟨h0_⟩
       have n1_ : qAd (Kd.R (Kd.int .i64) 3 cB w.heap.size (fun k_ => some k_ ≠ (bY : Value).ownBlock ∧ some k_ ≠ (bk : Value).ownBlock) bZ aR) := ⟨h1_⟩
       have n2_ : qAd (Kd.R k51 51 cB w.heap.size (fun _ => True) bj aV) := ⟨h2_⟩
       have n3_ : qAd (Kd.S k34 34 cB w.heap.size (fun k_ => some k_ ≠ (bY : Value).ownBlock ∧ some k_ ≠ (bZ : Value).ownBlock ∧ some k_ ≠ (bk : Value).ownBlock) cC ao) := ⟨h3_⟩
       have n4_ : qAd (Kd.R (Kd.int .i64) 3 cB w.heap.size (fun k_ => some k_ ≠ (bY : Value).ownBlock ∧ some k_ ≠ (bZ : Value).ownBlock) bk aW) := ⟨h4_⟩
       have n5_ : qAd (cB.heap[aD]? = some (.cells #[.slice aa l0_0.length ad, .int .i64 a0_1, .slice ab l0_2.length ae, .slice ac l0_3.length af] 27 (0, 0))) := ⟨h5_⟩
       have n6_ : qAd (cB.heap[aF]? = some (.cells #[.slice aj l1_0.length al, .slice ak l1_1.length an] 30 (0, 0))) := ⟨h6_⟩
       have n7_ : qAd (cB.heap[aH]? = some (.cells #[.int .i64 a3_0, .int .i64 a3_1, .int .i64 a3_2, .int .u64 a3_3] 50 (0, 0))) := ⟨h7_⟩
       have n8_ : qAd (Below w.heap.size w cB) := ⟨h8_⟩
       clear aA
       clear aC
       clear aG
       clear HB
       clear h0_ h1_ h2_ h3_ h4_ h5_ h6_ h7_ h8_
       have aN := n0_
       have aO := n1_
       have aT := n2_
       have bI := n3_
       have bH := n4_
       have aA := n5_
       have aC := n6_
       have aG := n7_
       have HB := n8_
       clear n0_ n1_ n2_ n3_ n4_ n5_ n6_ n7_ n8_
       refine qCX (a' := ?_) ?_ ?_
       rotate_left
       ·simp only [qE6, Act.put, List.setIfInBounds_toArray, List.set_cons_zero, List.set_cons_succ]
        rfl
       refine two_ (i := 4) (j := 5) (Ni := some 9) (Nj := some 10) (mK 8 31) (mK 8 47) rfl rfl rfl rfl (two_of HT_.o (by kernel_rfl)) (by decide) (by decide) (fun K hK => ?_) (fun K hK => ?_)
       ·skip
        refine box_step ?hg (N := 9) ?hd (cs := #[.slice none 0 0, .int .i64 0, .slice none 0 0, .slice none 0 0]) (t := 37) ?hr ?_; (case hd => rfl); (case hg => rfl); (case hr => (go_simp; done))
        intro aB hg cI hbox hb
        have n0_ := am (Kd.R_below (by (with_reducible repeat (fail)); exact aN.o) hb)
        have n1_ := am (Kd.R_below (by (with_reducible repeat (fail)); exact aO.o) hb)
        have n2_ := am (Kd.R_below (by (with_reducible repeat (fail)); exact aT.o) hb)
        have n3_ := am (Kd.S_below (by (with_reducible repeat (fail)); exact bI.o) hb)
        have n4_ := am (Kd.R_below (by (with_reducible repeat (fail)); exact bH.o) hb)
        have n5_ := am (qAk (g := aD) (o := .cells #[.slice aa l0_0.length ad, .int .i64 a0_1, .slice ab l0_2.length ae, .slice ac l0_3.length af] 27 (0, 0)) (by (with_reducible repeat (fail)); exact aA.o) hb)
        have n6_ := am (qAk (g := aF) (o := .cells #[.slice aj l1_0.length al, .slice ak l1_1.length an] 30 (0, 0)) (by (with_reducible repeat (fail)); exact aC.o) hb)
        have n7_ := am (qAk (g := aH) (o := .cells #[.int .i64 a3_0, .int .i64 a3_1, .int .i64 a3_2, .int .u64 a3_3] 50 (0, 0)) (by (with_reducible repeat (fail)); exact aG.o) hb)
        have n8_ := am (qAq (by repeat ((with_reducible (exact HB.o)))) hb)
        have n9_ := am (hbox)
        have n10_ := am ((by rw [hg]; exact (qAm (by repeat ((with_reducible (exact HB.o))))) : w.heap.size ≤ aB))
        have n11_ := am ((by rw [hg]; exact (qAm (by repeat ((with_reducible (exact HB.o))))) : w.heap.size ≤ aB))
        have n12_ := am ((by rw [hg]; exact Nat.ne_of_lt (qAZ (g := aD) (o := .cells #[.slice aa l0_0.length ad, .int .i64 a0_1, .slice ab l0_2.length ae, .slice ac l0_3.length af] 27 (0, 0)) (by (with_reducible repeat (fail)); exact aA.o)) : aD ≠ aB))
        have n13_ := am ((by rw [hg]; exact Nat.ne_of_gt (qAZ (g := aD) (o := .cells #[.slice aa l0_0.length ad, .int .i64 a0_1, .slice ab l0_2.length ae, .slice ac l0_3.length af] 27 (0, 0)) (by (with_reducible repeat (fail)); exact aA.o)) : aB ≠ aD))
        have n14_ := am ((by rw [hg]; exact Nat.ne_of_lt (qAZ (g := aF) (o := .cells #[.slice aj l1_0.length al, .slice ak l1_1.length an] 30 (0, 0)) (by (with_reducible repeat (fail)); exact aC.o)) : aF ≠ aB))
        have n15_ := am ((by rw [hg]; exact Nat.ne_of_gt (qAZ (g := aF) (o := .cells #[.slice aj l1_0.length al, .slice ak l1_1.length an] 30 (0, 0)) (by (with_reducible repeat (fail)); exact aC.o)) : aB ≠ aF))
        have n16_ := am ((by rw [hg]; exact Nat.ne_of_lt (qAZ (g := aH) (o := .cells #[.int .i64 a3_0, .int .i64 a3_1, .int .i64 a3_2, .int .u64 a3_3] 50 (0, 0)) (by (with_reducible repeat (fail)); exact aG.o)) : aH ≠ aB))
        have n17_ := am ((by rw [hg]; exact Nat.ne_of_gt (qAZ (g := aH) (o := .cells #[.int .i64 a3_0, .int .i64 a3_1, .int .i64 a3_2, .int .u64 a3_3] 50 (0, 0)) (by (with_reducible repeat (fail)); exact aG.o)) : aB ≠ aH))
        clear aN
        clear aO
        clear aT
        clear bI
        clear bH
        clear aA
        clear aC
        clear aG
        clear HB
        have aN := n0_
        have aO := n1_
        have aT := n2_
        have bI := n3_
        have bH := n4_
        have aA := n5_
        have aC := n6_
        have aG := n7_
        have HB := n8_
        have aJ := n9_
        have bg := n10_
        have bc := n11_
        have aM := n12_
        have az := n13_
        have aS := n14_
        have bA := n15_
        have ap := n16_
        have bB := n17_
        clear n0_ n1_ n2_ n3_ n4_ n5_ n6_ n7_ n8_ n9_ n10_ n11_ n12_ n13_ n14_ n15_ n16_ n17_
        clear hb hbox hg
        refine hK.o _ _ ⟨(qAa aA.o 0).trans rfl, (qAa aA.o 1).trans rfl, (qAa aA.o 2).trans rfl, (qAa aA.o 3).trans rfl, (qAa aC.o 0).trans rfl, (qAa aC.o 1).trans rfl⟩ (fun hHeld => ?_)
        clear hK K
        refine nm ?_
        exact nq (hJ1_3_4 (bY, bZ, bj, cC, bk, aB) _ ⟨hHeld, (by (with_reducible repeat (fail)); exact aN.o), (by (with_reducible repeat (fail)); exact aO.o), (by (with_reducible repeat (fail)); exact aT.o), (by (with_reducible repeat (fail)); exact bI.o), (by (with_reducible repeat (fail)); exact bH.o), (by (with_reducible repeat (fail)); exact aA.o), (by (with_reducible repeat (fail)); exact aC.o), (by (with_reducible repeat (fail)); exact aG.o), (by (with_reducible repeat (fail)); exact aJ.o), bg.o, bc.o, aM.o, az.o, aS.o, bA.o, ap.o, bB.o, (by repeat ((with_reducible (exact HB.o))))⟩)
       ·skip
        refine box_step ?hg (N := 10) ?hd (cs := #[.slice none 0 0, .slice none 0 0]) (t := 41) ?hr ?_; (case hd => rfl); (case hg => rfl); (case hr => (go_simp; done))
        intro aE hg cI hbox hb
        have n0_ := am (Kd.R_below (by (with_reducible repeat (fail)); exact aN.o) hb)
        have n1_ := am (Kd.R_below (by (with_reducible repeat (fail)); exact aO.o) hb)
        have n2_ := am (Kd.R_below (by (with_reducible repeat (fail)); exact aT.o) hb)
        have n3_ := am (Kd.S_below (by (with_reducible repeat (fail)); exact bI.o) hb)
        have n4_ := am (Kd.R_below (by (with_reducible repeat (fail)); exact bH.o) hb)
        have n5_ := am (qAk (g := aD) (o := .cells #[.slice aa l0_0.length ad, .int .i64 a0_1, .slice ab l0_2.length ae, .slice ac l0_3.length af] 27 (0, 0)) (by (with_reducible repeat (fail)); exact aA.o) hb)
        have n6_ := am (qAk (g := aF) (o := .cells #[.slice aj l1_0.length al, .slice ak l1_1.length an] 30 (0, 0)) (by (with_reducible repeat (fail)); exact aC.o) hb)
        have n7_ := am (qAk (g := aH) (o := .cells #[.int .i64 a3_0, .int .i64 a3_1, .int .i64 a3_2, .int .u64 a3_3] 50 (0, 0)) (by (with_reducible repeat (fail)); exact aG.o) hb)
        have n8_ := am (qAq (by repeat ((with_reducible (exact HB.o)))) hb)
        have n9_ := am (hbox)
        have n10_ := am ((by rw [hg]; exact (qAm (by repeat ((with_reducible (exact HB.o))))) : w.heap.size ≤ aE))
        have n11_ := am ((by rw [hg]; exact (qAm (by repeat ((with_reducible (exact HB.o))))) : w.heap.size ≤ aE))
        have n12_ := am ((by rw [hg]; exact Nat.ne_of_lt (qAZ (g := aD) (o := .cells #[.slice aa l0_0.length ad, .int .i64 a0_1, .slice ab l0_2.length ae, .slice ac l0_3.length af] 27 (0, 0)) (by (with_reducible repeat (fail)); exact aA.o)) : aD ≠ aE))
        have n13_ := am ((by rw [hg]; exact Nat.ne_of_gt (qAZ (g := aD) (o := .cells #[.slice aa l0_0.length ad, .int .i64 a0_1, .slice ab l0_2.length ae, .slice ac l0_3.length af] 27 (0, 0)) (by (with_reducible repeat (fail)); exact aA.o)) : aE ≠ aD))
        have n14_ := am ((by rw [hg]; exact Nat.ne_of_lt (qAZ (g := aF) (o := .cells #[.slice aj l1_0.length al, .slice ak l1_1.length an] 30 (0, 0)) (by (with_reducible repeat (fail)); exact aC.o)) : aF ≠ aE))
        have n15_ := am ((by rw [hg]; exact Nat.ne_of_gt (qAZ (g := aF) (o := .cells #[.slice aj l1_0.length al, .slice ak l1_1.length an] 30 (0, 0)) (by (with_reducible repeat (fail)); exact aC.o)) : aE ≠ aF))
        have n16_ := am ((by rw [hg]; exact Nat.ne_of_lt (qAZ (g := aH) (o := .cells #[.int .i64 a3_0, .int .i64 a3_1, .int .i64 a3_2, .int .u64 a3_3] 50 (0, 0)) (by (with_reducible repeat (fail)); exact aG.o)) : aH ≠ aE))
        have n17_ := am ((by rw [hg]; exact Nat.ne_of_gt (qAZ (g := aH) (o := .cells #[.int .i64 a3_0, .int .i64 a3_1, .int .i64 a3_2, .int .u64 a3_3] 50 (0, 0)) (by (with_reducible repeat (fail)); exact aG.o)) : aE ≠ aH))
        clear aN
        clear aO
        clear aT
        clear bI
        clear bH
        clear aA
        clear aC
        clear aG
        clear HB
        have aN := n0_
        have aO := n1_
        have aT := n2_
        have bI := n3_
        have bH := n4_
        have aA := n5_
        have aC := n6_
        have aG := n7_
        have HB := n8_
        have aK := n9_
        have bh := n10_
        have bd := n11_
        have aU := n12_
        have av := n13_
        have ai := n14_
        have aw := n15_
        have aq := n16_
        have ax := n17_
        clear n0_ n1_ n2_ n3_ n4_ n5_ n6_ n7_ n8_ n9_ n10_ n11_ n12_ n13_ n14_ n15_ n16_ n17_
        clear hb hbox hg
        refine hK.o _ _ ⟨(qAa aA.o 0).trans rfl, (qAa aA.o 1).trans rfl, (qAa aA.o 2).trans rfl, (qAa aA.o 3).trans rfl, (qAa aC.o 0).trans rfl, (qAa aC.o 1).trans rfl⟩ (fun hHeld => ?_)
        clear hK K
        refine nm ?_
        exact nq (hJ1_3_5 (bY, bZ, bj, cC, bk, aE) _ ⟨hHeld, (by (with_reducible repeat (fail)); exact aN.o), (by (with_reducible repeat (fail)); exact aO.o), (by (with_reducible repeat (fail)); exact aT.o), (by (with_reducible repeat (fail)); exact bI.o), (by (with_reducible repeat (fail)); exact bH.o), (by (with_reducible repeat (fail)); exact aA.o), (by (with_reducible repeat (fail)); exact aC.o), (by (with_reducible repeat (fail)); exact aG.o), (by (with_reducible repeat (fail)); exact aK.o), bh.o, bd.o, aU.o, av.o, ai.o, aw.o, aq.o, ax.o, (by repeat ((with_reducible (exact HB.o))))⟩)
     ·skip
      rintro ⟨bY, bZ, bj, aB, aE⟩ cI ⟨hS_, h0_, h1_, h2_, h3_, h4_, h5_, h6_, h7_, h8_, h9_, h10_, h11_, h12_, h13_, h14_, h15_, h16_, h17_, h18_, h19_, h20_, h21_, h22_, h23_, h24_, h25_, h26_⟩
      have n0_ : qAd (Kd.R (Kd.int .i64) 3 cI w.heap.size (fun k_ => some k_ ≠ (bZ : Value).ownBlock) bY aP) := ⟨h0_⟩
      have n1_ : qAd (Kd.R (Kd.int .i64) 3 cI w.heap.size (fun k_ => some k_ ≠ (bY : Value).ownBlock) bZ aR) := ⟨h1_⟩
      have n2_ : qAd (Kd.R k51 51 cI w.heap.size (fun _ => True) bj aV) := ⟨h2_⟩
      have n3_ : qAd (cI.heap[aD]? = some (.cells #[.slice aa l0_0.length ad, .int .i64 a0_1, .slice ab l0_2.length ae, .slice ac l0_3.length af] 27 (0, 0))) := ⟨h3_⟩
      have n4_ : qAd (cI.heap[aF]? = some (.cells #[.slice aj l1_0.length al, .slice ak l1_1.length an] 30 (0, 0))) := ⟨h4_⟩
      have n5_ : qAd (cI.heap[aH]? = some (.cells #[.int .i64 a3_0, .int .i64 a3_1, .int .i64 a3_2, .int .u64 a3_3] 50 (0, 0))) := ⟨h5_⟩
      have n6_ : qAd (cI.heap[aB]? = some (.cells #[.slice none 0 0, .int .i64 0, .slice none 0 0, .slice none 0 0] 37 (0, 0))) := ⟨h6_⟩
      have n7_ : qAd (cI.heap[aE]? = some (.cells #[.slice none 0 0, .slice none 0 0] 41 (0, 0))) := ⟨h7_⟩
      have n8_ : qAd (w.heap.size ≤ aB) := ⟨h8_⟩
      have n9_ : qAd (w.heap.size ≤ aB) := ⟨h9_⟩
      have n10_ : qAd (aD ≠ aB) := ⟨h10_⟩
      have n11_ : qAd (aB ≠ aD) := ⟨h11_⟩
      have n12_ : qAd (aF ≠ aB) := ⟨h12_⟩
      have n13_ : qAd (aB ≠ aF) := ⟨h13_⟩
      have n14_ : qAd (aH ≠ aB) := ⟨h14_⟩
      have n15_ : qAd (aB ≠ aH) := ⟨h15_⟩
      have n16_ : qAd (aE ≠ aB) := ⟨h16_⟩
      have n17_ : qAd (aB ≠ aE) := ⟨h17_⟩
      have n18_ : qAd (w.heap.size ≤ aE) := ⟨h18_⟩
      have n19_ : qAd (w.heap.size ≤ aE) := ⟨h19_⟩
      have n20_ : qAd (aD ≠ aE) := ⟨h20_⟩
      have n21_ : qAd (aE ≠ aD) := ⟨h21_⟩
      have n22_ : qAd (aF ≠ aE) := ⟨h22_⟩
      have n23_ : qAd (aE ≠ aF) := ⟨h23_⟩
      have n24_ : qAd (aH ≠ aE) := ⟨h24_⟩
      have n25_ : qAd (aE ≠ aH) := ⟨h25_⟩
      have n26_ : qAd (Below w.heap.size w cI) := ⟨h26_⟩
      clear aA
      clear aC
      clear aG
      clear HB
      clear h0_ h1_ h2_ h3_ h4_ h5_ h6_ h7_ h8_ h9_ h10_ h11_ h12_ h13_ h14_ h15_ h16_ h17_ h18_ h19_ h20_ h21_ h22_ h23_ h24_ h25_ h26_
      have aN := n0_
      have aO := n1_
      have aT := n2_
      have aA := n3_
      have aC := n4_
      have aG := n5_
      have aJ := n6_
      have aK := n7_
      have bg := n8_
      have bc := n9_
      have aM := n10_
      have az := n11_
      have aS := n12_
      have bA := n13_
      have ap := n14_
      have bB := n15_
      have bC := n16_
      have bK := n17_
      have bh := n18_
      have bd := n19_
      have aU := n20_
      have av := n21_
      have ai := n22_
      have aw := n23_
      have aq := n24_
      have ax := n25_
      have HB := n26_
      clear n0_ n1_ n2_ n3_ n4_ n5_ n6_ n7_ n8_ n9_ n10_ n11_ n12_ n13_ n14_ n15_ n16_ n17_ n18_ n19_ n20_ n21_ n22_ n23_ n24_ n25_ n26_
      refine qCX (a' := ?_) ?_ ?_
      rotate_left
      ·simp only [qE6, Act.put, List.setIfInBounds_toArray, List.set_cons_zero, List.set_cons_succ]
       rfl
      refine one_ (i := 3) (N := some 32) (mK 8 63) rfl rfl (qBp HT_.o (by kernel_rfl)) (by decide) (fun K hK => ?_)
      refine qCs Tryz.func15 (by kernel_rfl) rfl #[.agg #[.slice aj l1_0.length al, .slice ak l1_1.length an]] (by rfl) rfl rfl (by (try simp only [List.map_toArray, List.map_cons, List.map_nil]); (rfl)) ?_
      with_reducible refine (qAx.calls k _ _ l1_0 _ _ l1_1 ao aW _ ?side1 ?side2 ?side3 ?side4 A8.o).mono ?_
      (case side1 => repeat ((exact (Kd.C_below cq.o HB.o))))
      (case side2 => exact co.o)
      (case side3 => repeat ((exact (Kd.C_below cr.o HB.o))))
      (case side4 => exact cp.o)
      rintro e cS ⟨cC, bk, rfl, bo, cH, hb⟩
      refine ⟨_, rfl, ?_⟩
      have n0_ := am (Kd.R_elder' (by (with_reducible repeat (fail)); exact aN.o) (Kd.R_base cH) hb)
      have n1_ := am (Kd.R_elder' (by (with_reducible repeat (fail)); exact aO.o) (Kd.R_base cH) hb)
      have n2_ := am (Kd.R_below (by (with_reducible repeat (fail)); exact aT.o) hb)
      have n3_ := am (Kd.S_lower (Kd.S_new' (Kd.S_new' bo (Kd.R_lt (by (with_reducible repeat (fail)); exact aN.o))) (Kd.R_lt (by (with_reducible repeat (fail)); exact aO.o))) (qAm (by repeat ((with_reducible (exact HB.o))))))
      have n4_ := am (Kd.R_lower (Kd.R_new' (Kd.R_new' cH (Kd.R_lt (by (with_reducible repeat (fail)); exact aN.o))) (Kd.R_lt (by (with_reducible repeat (fail)); exact aO.o))) (qAm (by repeat ((with_reducible (exact HB.o))))))
      have n5_ := am (qAk (g := aD) (o := .cells #[.slice aa l0_0.length ad, .int .i64 a0_1, .slice ab l0_2.length ae, .slice ac l0_3.length af] 27 (0, 0)) (by (with_reducible repeat (fail)); exact aA.o) hb)
      have n6_ := am (qAk (g := aF) (o := .cells #[.slice aj l1_0.length al, .slice ak l1_1.length an] 30 (0, 0)) (by (with_reducible repeat (fail)); exact aC.o) hb)
      have n7_ := am (qAk (g := aH) (o := .cells #[.int .i64 a3_0, .int .i64 a3_1, .int .i64 a3_2, .int .u64 a3_3] 50 (0, 0)) (by (with_reducible repeat (fail)); exact aG.o) hb)
      have n8_ := am (qAk (g := aB) (o := .cells #[.slice none 0 0, .int .i64 0, .slice none 0 0, .slice none 0 0] 37 (0, 0)) (by (with_reducible repeat (fail)); exact aJ.o) hb)
      have n9_ := am (qAk (g := aE) (o := .cells #[.slice none 0 0, .slice none 0 0] 41 (0, 0)) (by (with_reducible repeat (fail)); exact aK.o) hb)
      have n10_ := am (qAq (by repeat ((with_reducible (exact HB.o)))) hb)
      clear aN
      clear aO
      clear aT
      clear aA
      clear aC
      clear aG
      clear aJ
      clear aK
      clear HB
      have aN := n0_
      have aO := n1_
      have aT := n2_
      have bI := n3_
      have bH := n4_
      have aA := n5_
      have aC := n6_
      have aG := n7_
      have aJ := n8_
      have aK := n9_
      have HB := n10_
      clear n0_ n1_ n2_ n3_ n4_ n5_ n6_ n7_ n8_ n9_ n10_
      (try clear hb)
      (skip)
      (skip)
      (skip)
      (try clear bo)
      (try clear cH)
      refine hK.o _ _ ⟨(qAa aA.o 0).trans rfl, (qAa aA.o 1).trans rfl, (qAa aA.o 2).trans rfl, (qAa aA.o 3).trans rfl, (qAa aC.o 0).trans rfl, (qAa aC.o 1).trans rfl⟩ (fun hHeld => ?_)
      clear hK K
      refine nm ?_
      exact nq (hJ1_3_4_5 (bY, bZ, bj, cC, bk, aB, aE) _ ⟨hHeld, (by (with_reducible repeat (fail)); exact aN.o), (by (with_reducible repeat (fail)); exact aO.o), (by (with_reducible repeat (fail)); exact aT.o), (by (with_reducible repeat (fail)); exact Kd.S_mono bI.o (fun _ hk => ⟨hk.1.2, ⟨hk.2, hk.1.1⟩⟩)), (by (with_reducible repeat (fail)); exact Kd.R_mono bH.o (fun _ hk => ⟨hk.1.2, hk.2⟩)), (by (with_reducible repeat (fail)); exact aA.o), (by (with_reducible repeat (fail)); exact aC.o), (by (with_reducible repeat (fail)); exact aG.o), (by (with_reducible repeat (fail)); exact aJ.o), (by (with_reducible repeat (fail)); exact aK.o), bg.o, bc.o, aM.o, az.o, aS.o, bA.o, ap.o, bB.o, bC.o, bK.o, bh.o, bd.o, aU.o, av.o, ai.o, aw.o, aq.o, ax.o, (by repeat ((with_reducible (exact HB.o))))⟩)
    ·skip
     rintro ⟨bY, bZ, bj, cC, bk, aE⟩ cI ⟨hS_, h0_, h1_, h2_, h3_, h4_, h5_, h6_, h7_, h8_, h9_, h10_, h11_, h12_, h13_, h14_, h15_, h16_, h17_⟩
     have n0_ : qAd (Kd.R (Kd.int .i64) 3 cI w.heap.size (fun k_ => some k_ ≠ (bZ : Value).ownBlock ∧ some k_ ≠ (bk : Value).ownBlock) bY aP) := ⟨h0_⟩
     have n1_ : qAd (Kd.R (Kd.int .i64) 3 cI w.heap.size (fun k_ => some k_ ≠ (bY : Value).ownBlock ∧ some k_ ≠ (bk : Value).ownBlock) bZ aR) := ⟨h1_⟩
     have n2_ : qAd (Kd.R k51 51 cI w.heap.size (fun _ => True) bj aV) := ⟨h2_⟩
     have n3_ : qAd (Kd.S k34 34 cI w.heap.size (fun k_ => some k_ ≠ (bY : Value).ownBlock ∧ some k_ ≠ (bZ : Value).ownBlock ∧ some k_ ≠ (bk : Value).ownBlock) cC ao) := ⟨h3_⟩
     have n4_ : qAd (Kd.R (Kd.int .i64) 3 cI w.heap.size (fun k_ => some k_ ≠ (bY : Value).ownBlock ∧ some k_ ≠ (bZ : Value).ownBlock) bk aW) := ⟨h4_⟩
     have n5_ : qAd (cI.heap[aD]? = some (.cells #[.slice aa l0_0.length ad, .int .i64 a0_1, .slice ab l0_2.length ae, .slice ac l0_3.length af] 27 (0, 0))) := ⟨h5_⟩
     have n6_ : qAd (cI.heap[aF]? = some (.cells #[.slice aj l1_0.length al, .slice ak l1_1.length an] 30 (0, 0))) := ⟨h6_⟩
     have n7_ : qAd (cI.heap[aH]? = some (.cells #[.int .i64 a3_0, .int .i64 a3_1, .int .i64 a3_2, .int .u64 a3_3] 50 (0, 0))) := ⟨h7_⟩
     have n8_ : qAd (cI.heap[aE]? = some (.cells #[.slice none 0 0, .slice none 0 0] 41 (0, 0))) := ⟨h8_⟩
     have n9_ : qAd (w.heap.size ≤ aE) := ⟨h9_⟩
     have n10_ : qAd (w.heap.size ≤ aE) := ⟨h10_⟩
     have n11_ : qAd (aD ≠ aE) := ⟨h11_⟩
     have n12_ : qAd (aE ≠ aD) := ⟨h12_⟩
     have n13_ : qAd (aF ≠ aE) := ⟨h13_⟩
     have n14_ : qAd (aE ≠ aF) := ⟨h14_⟩
     have n15_ : qAd (aH ≠ aE) := ⟨h15_⟩
     have n16_ : qAd (aE ≠ aH) := ⟨h16_⟩
     have n17_ : qAd (Below w.heap.size w cI) := ⟨h17_⟩
     clear aA
     clear aC
     clear aG
     clear HB
     clear h0_ h1_ h2_ h3_ h4_ h5_ h6_ h7_ h8_ h9_ h10_ h11_ h12_ h13_ h14_ h15_ h16_ h17_
     have aN := n0_
     have aO := n1_
     have aT := n2_
     have bI := n3_
     have bH := n4_
     have aA := n5_
     have aC := n6_
     have aG := n7_
     have aK := n8_
     have bh := n9_
     have bd := n10_
     have aU := n11_
     have av := n12_
     have ai := n13_
     have aw := n14_
     have aq := n15_
     have ax := n16_
     have HB := n17_
     clear n0_ n1_ n2_ n3_ n4_ n5_ n6_ n7_ n8_ n9_ n10_ n11_ n12_ n13_ n14_ n15_ n16_ n17_
     refine qCX (a' := ?_) ?_ ?_
     rotate_left
     ·simp only [qE6, Act.put, List.setIfInBounds_toArray, List.set_cons_zero, List.set_cons_succ]
      rfl
     refine one_ (i := 4) (N := some 9) (mK 8 63) rfl rfl (qBp HT_.o (by kernel_rfl)) (by decide) (fun K hK => ?_)
     refine box_step ?hg (N := 9) ?hd (cs := #[.slice none 0 0, .int .i64 0, .slice none 0 0, .slice none 0 0]) (t := 37) ?hr ?_; (case hd => rfl); (case hg => rfl); (case hr => (go_simp; done))
     intro aB hg cS hbox hb
     have n0_ := am (Kd.R_below (by (with_reducible repeat (fail)); exact aN.o) hb)
     have n1_ := am (Kd.R_below (by (with_reducible repeat (fail)); exact aO.o) hb)
     have n2_ := am (Kd.R_below (by (with_reducible repeat (fail)); exact aT.o) hb)
     have n3_ := am (Kd.S_below (by (with_reducible repeat (fail)); exact bI.o) hb)
     have n4_ := am (Kd.R_below (by (with_reducible repeat (fail)); exact bH.o) hb)
     have n5_ := am (qAk (g := aD) (o := .cells #[.slice aa l0_0.length ad, .int .i64 a0_1, .slice ab l0_2.length ae, .slice ac l0_3.length af] 27 (0, 0)) (by (with_reducible repeat (fail)); exact aA.o) hb)
     have n6_ := am (qAk (g := aF) (o := .cells #[.slice aj l1_0.length al, .slice ak l1_1.length an] 30 (0, 0)) (by (with_reducible repeat (fail)); exact aC.o) hb)
     have n7_ := am (qAk (g := aH) (o := .cells #[.int .i64 a3_0, .int .i64 a3_1, .int .i64 a3_2, .int .u64 a3_3] 50 (0, 0)) (by (with_reducible repeat (fail)); exact aG.o) hb)
     have n8_ := am (qAk (g := aE) (o := .cells #[.slice none 0 0, .slice none 0 0] 41 (0, 0)) (by (with_reducible repeat (fail)); exact aK.o) hb)
     have n9_ := am (qAq (by repeat ((with_reducible (exact HB.o)))) hb)
     have n10_ := am (hbox)
     have n11_ := am ((by rw [hg]; exact (qAm (by repeat ((with_reducible (exact HB.o))))) : w.heap.size ≤ aB))
     have n12_ := am ((by rw [hg]; exact (qAm (by repeat ((with_reducible (exact HB.o))))) : w.heap.size ≤ aB))
     have n13_ := am ((by rw [hg]; exact Nat.ne_of_lt (qAZ (g := aD) (o := .cells #[.slice aa l0_0.length ad, .int .i64 a0_1, .slice ab l0_2.length ae, .slice ac l0_3.length af] 27 (0, 0)) (by (with_reducible repeat (fail)); exact aA.o)) : aD ≠ aB))
     have n14_ := am ((by rw [hg]; exact Nat.ne_of_gt (qAZ (g := aD) (o := .cells #[.slice aa l0_0.length ad, .int .i64 a0_1, .slice ab l0_2.length ae, .slice ac l0_3.length af] 27 (0, 0)) (by (with_reducible repeat (fail)); exact aA.o)) : aB ≠ aD))
     have n15_ := am ((by rw [hg]; exact Nat.ne_of_lt (qAZ (g := aF) (o := .cells #[.slice aj l1_0.length al, .slice ak l1_1.length an] 30 (0, 0)) (by (with_reducible repeat (fail)); exact aC.o)) : aF ≠ aB))
     have n16_ := am ((by rw [hg]; exact Nat.ne_of_gt (qAZ (g := aF) (o := .cells #[.slice aj l1_0.length al, .slice ak l1_1.length an] 30 (0, 0)) (by (with_reducible repeat (fail)); exact aC.o)) : aB ≠ aF))
     have n17_ := am ((by rw [hg]; exact Nat.ne_of_lt (qAZ (g := aH) (o := .cells #[.int .i64 a3_0, .int .i64 a3_1, .int .i64 a3_2, .int .u64 a3_3] 50 (0, 0)) (by (with_reducible repeat (fail)); exact aG.o)) : aH ≠ aB))
     have n18_ := am ((by rw [hg]; exact Nat.ne_of_gt (qAZ (g := aH) (o := .cells #[.int .i64 a3_0, .int .i64 a3_1, .int .i64 a3_2, .int .u64 a3_3] 50 (0, 0)) (by (with_reducible repeat (fail)); exact aG.o)) : aB ≠ aH))
     have n19_ := am ((by rw [hg]; exact Nat.ne_of_lt (qAZ (g := aE) (o := .cells #[.slice none 0 0, .slice none 0 0] 41 (0, 0)) (by (with_reducible repeat (fail)); exact aK.o)) : aE ≠ aB))
     have n20_ := am ((by rw [hg]; exact Nat.ne_of_gt (qAZ (g := aE) (o := .cells #[.slice none 0 0, .slice none 0 0] 41 (0, 0)) (by (with_reducible repeat (fail)); exact aK.o)) : aB ≠ aE))
     clear aN
     clear aO
     clear aT
     clear bI
     clear bH
     clear aA
     clear aC
     clear aG
     clear aK
     clear HB
     have aN := n0_
     have aO := n1_
     have aT := n2_
     have bI := n3_
     have bH := n4_
     have aA := n5_
     have aC := n6_
     have aG := n7_
     have aK := n8_
     have HB := n9_
     have aJ := n10_
     have bg := n11_
     have bc := n12_
     have aM := n13_
     have az := n14_
     have aS := n15_
     have bA := n16_
     have ap := n17_
     have bB := n18_
     have bC := n19_
     have bK := n20_
     clear n0_ n1_ n2_ n3_ n4_ n5_ n6_ n7_ n8_ n9_ n10_ n11_ n12_ n13_ n14_ n15_ n16_ n17_ n18_ n19_ n20_
     clear hb hbox hg
     refine hK.o _ _ ⟨(qAa aA.o 0).trans rfl, (qAa aA.o 1).trans rfl, (qAa aA.o 2).trans rfl, (qAa aA.o 3).trans rfl, (qAa aC.o 0).trans rfl, (qAa aC.o 1).trans rfl⟩ (fun hHeld => ?_)
     clear hK K
     refine nm ?_
     exact nq (hJ1_3_4_5 (bY, bZ, bj, cC, bk, aB, aE) _ ⟨hHeld, (by (with_reducible repeat (fail)); exact aN.o), (by (with_reducible repeat (fail)); exact aO.o), (by (with_reducible repeat (fail)); exact aT.o), (by (with_reducible repeat (fail)); exact bI.o), (by (with_reducible repeat (fail)); exact bH.o), (by (with_reducible repeat (fail)); exact aA.o), (by (with_reducible repeat (fail)); exact aC.o), (by (with_reducible repeat (fail)); exact aG.o), (by (with_reducible repeat (fail)); exact aJ.o), (by (with_reducible repeat (fail)); exact aK.o), bg.o, bc.o, aM.o, az.o, aS.o, bA.o, ap.o, bB.o, bC.o, bK.o, bh.o, bd.o, aU.o, av.o, ai.o, aw.o, aq.o, ax.o, (by repeat ((with_reducible (exact HB.o))))⟩)
   ·skip
    rintro ⟨bY, bZ, bj, cC, bk, aB⟩ cI ⟨hS_, h0_, h1_, h2_, h3_, h4_, h5_, h6_, h7_, h8_, h9_, h10_, h11_, h12_, h13_, h14_, h15_, h16_, h17_⟩
    have n0_ : qAd (Kd.R (Kd.int .i64) 3 cI w.heap.size (fun k_ => some k_ ≠ (bZ : Value).ownBlock ∧ some k_ ≠ (bk : Value).ownBlock) bY aP) := ⟨h0_⟩
    have n1_ : qAd (Kd.R (Kd.int .i64) 3 cI w.heap.size (fun k_ => some k_ ≠ (bY : Value).ownBlock ∧ some k_ ≠ (bk : Value).ownBlock) bZ aR) := ⟨h1_⟩
    have n2_ : qAd (Kd.R k51 51 cI w.heap.size (fun _ => True) bj aV) := ⟨h2_⟩
    have n3_ : qAd (Kd.S k34 34 cI w.heap.size (fun k_ => some k_ ≠ (bY : Value).ownBlock ∧ some k_ ≠ (bZ : Value).ownBlock ∧ some k_ ≠ (bk : Value).ownBlock) cC ao) := ⟨h3_⟩
    have n4_ : qAd (Kd.R (Kd.int .i64) 3 cI w.heap.size (fun k_ => some k_ ≠ (bY : Value).ownBlock ∧ some k_ ≠ (bZ : Value).ownBlock) bk aW) := ⟨h4_⟩
    have n5_ : qAd (cI.heap[aD]? = some (.cells #[.slice aa l0_0.length ad, .int .i64 a0_1, .slice ab l0_2.length ae, .slice ac l0_3.length af] 27 (0, 0))) := ⟨h5_⟩
    have n6_ : qAd (cI.heap[aF]? = some (.cells #[.slice aj l1_0.length al, .slice ak l1_1.length an] 30 (0, 0))) := ⟨h6_⟩
    have n7_ : qAd (cI.heap[aH]? = some (.cells #[.int .i64 a3_0, .int .i64 a3_1, .int .i64 a3_2, .int .u64 a3_3] 50 (0, 0))) := ⟨h7_⟩
    have n8_ : qAd (cI.heap[aB]? = some (.cells #[.slice none 0 0, .int .i64 0, .slice none 0 0, .slice none 0 0] 37 (0, 0))) := ⟨h8_⟩
    have n9_ : qAd (w.heap.size ≤ aB) := ⟨h9_⟩
    have n10_ : qAd (w.heap.size ≤ aB) := ⟨h10_⟩
    have n11_ : qAd (aD ≠ aB) := ⟨h11_⟩
    have n12_ : qAd (aB ≠ aD) := ⟨h12_⟩
    have n13_ : qAd (aF ≠ aB) := ⟨h13_⟩
    have n14_ : qAd (aB ≠ aF) := ⟨h14_⟩
    have n15_ : qAd (aH ≠ aB) := ⟨h15_⟩
    have n16_ : qAd (aB ≠ aH) := ⟨h16_⟩
    have n17_ : qAd (Below w.heap.size w cI) := ⟨h17_⟩
    clear aA
    clear aC
    clear aG
    clear HB
    clear h0_ h1_ h2_ h3_ h4_ h5_ h6_ h7_ h8_ h9_ h10_ h11_ h12_ h13_ h14_ h15_ h16_ h17_
    have aN := n0_
    have aO := n1_
    have aT := n2_
    have bI := n3_
    have bH := n4_
    have aA := n5_
    have aC := n6_
    have aG := n7_
    have aJ := n8_
    have bg := n9_
    have bc := n10_
    have aM := n11_
    have az := n12_
    have aS := n13_
    have bA := n14_
    have ap := n15_
    have bB := n16_
    have HB := n17_
    clear n0_ n1_ n2_ n3_ n4_ n5_ n6_ n7_ n8_ n9_ n10_ n11_ n12_ n13_ n14_ n15_ n16_ n17_
    refine qCX (a' := ?_) ?_ ?_
    rotate_left
    ·simp only [qE6, Act.put, List.setIfInBounds_toArray, List.set_cons_zero, List.set_cons_succ]
     rfl
    refine one_ (i := 5) (N := some 10) (mK 8 63) rfl rfl (qBp HT_.o (by kernel_rfl)) (by decide) (fun K hK => ?_)
    refine box_step ?hg (N := 10) ?hd (cs := #[.slice none 0 0, .slice none 0 0]) (t := 41) ?hr ?_; (case hd => rfl); (case hg => rfl); (case hr => (go_simp; done))
    intro aE hg cS hbox hb
    have n0_ := am (Kd.R_below (by (with_reducible repeat (fail)); exact aN.o) hb)
    have n1_ := am (Kd.R_below (by (with_reducible repeat (fail)); exact aO.o) hb)
    have n2_ := am (Kd.R_below (by (with_reducible repeat (fail)); exact aT.o) hb)
    have n3_ := am (Kd.S_below (by (with_reducible repeat (fail)); exact bI.o) hb)
    have n4_ := am (Kd.R_below (by (with_reducible repeat (fail)); exact bH.o) hb)
    have n5_ := am (qAk (g := aD) (o := .cells #[.slice aa l0_0.length ad, .int .i64 a0_1, .slice ab l0_2.length ae, .slice ac l0_3.length af] 27 (0, 0)) (by (with_reducible repeat (fail)); exact aA.o) hb)
    have n6_ := am (qAk (g := aF) (o := .cells #[.slice aj l1_0.length al, .slice ak l1_1.length an] 30 (0, 0)) (by (with_reducible repeat (fail)); exact aC.o) hb)
    have n7_ := am (qAk (g := aH) (o := .cells #[.int .i64 a3_0, .int .i64 a3_1, .int .i64 a3_2, .int .u64 a3_3] 50 (0, 0)) (by (with_reducible repeat (fail)); exact aG.o) hb)
    have n8_ := am (qAk (g := aB) (o := .cells #[.slice none 0 0, .int .i64 0, .slice none 0 0, .slice none 0 0] 37 (0, 0)) (by (with_reducible repeat (fail)); exact aJ.o) hb)
    have n9_ := am (qAq (by repeat ((with_reducible (exact HB.o)))) hb)
    have n10_ := am (hbox)
    have n11_ := am ((by rw [hg]; exact (qAm (by repeat ((with_reducible (exact HB.o))))) : w.heap.size ≤ aE))
    have n12_ := am ((by rw [hg]; exact (qAm (by repeat ((with_reducible (exact HB.o))))) : w.heap.size ≤ aE))
    have n13_ := am ((by rw [hg]; exact Nat.ne_of_lt (qAZ (g := aD) (o := .cells #[.slice aa l0_0.length ad, .int .i64 a0_1, .slice ab l0_2.length ae, .slice ac l0_3.length af] 27 (0, 0)) (by (with_reducible repeat (fail)); exact aA.o)) : aD ≠ aE))
    have n14_ := am ((by rw [hg]; exact Nat.ne_of_gt (qAZ (g := aD) (o := .cells #[.slice aa l0_0.length ad, .int .i64 a0_1, .slice ab l0_2.length ae, .slice ac l0_3.length af] 27 (0, 0)) (by (with_reducible repeat (fail)); exact aA.o)) : aE ≠ aD))
    have n15_ := am ((by rw [hg]; exact Nat.ne_of_lt (qAZ (g := aF) (o := .cells #[.slice aj l1_0.length al, .slice ak l1_1.length an] 30 (0, 0)) (by (with_reducible repeat (fail)); exact aC.o)) : aF ≠ aE))
    have n16_ := am ((by rw [hg]; exact Nat.ne_of_gt (qAZ (g := aF) (o := .cells #[.slice aj l1_0.length al, .slice ak l1_1.length an] 30 (0, 0)) (by (with_reducible repeat (fail)); exact aC.o)) : aE ≠ aF))
    have n17_ := am ((by rw [hg]; exact Nat.ne_of_lt (qAZ (g := aH) (o := .cells #[.int .i64 a3_0, .int .i64 a3_1, .int .i64 a3_2, .int .u64 a3_3] 50 (0, 0)) (by (with_reducible repeat (fail)); exact aG.o)) : aH ≠ aE))
    have n18_ := am ((by rw [hg]; exact Nat.ne_of_gt (qAZ (g := aH) (o := .cells #[.int .i64 a3_0, .int .i64 a3_1, .int .i64 a3_2, .int .u64 a3_3] 50 (0, 0)) (by (with_reducible repeat (fail)); exact aG.o)) : aE ≠ aH))
    have n19_ := am ((by rw [hg]; exact Nat.ne_of_lt (qAZ (g := aB) (o := .cells #[.slice none 0 0, .int .i64 0, .slice none 0 0, .slice none 0 0] 37 (0, 0)) (by (with_reducible repeat (fail)); exact aJ.o)) : aB ≠ aE))
    have n20_ := am ((by rw [hg]; exact Nat.ne_of_gt (qAZ (g := aB) (o := .cells #[.slice none 0 0, .int .i64 0, .slice none 0 0, .slice none 0 0] 37 (0, 0)) (by (with_reducible repeat (fail)); exact aJ.o)) : aE ≠ aB))
    clear aN
    clear aO
    clear aT
    clear bI
    clear bH
    clear aA
    clear aC
    clear aG
    clear aJ
    clear HB
    have aN := n0_
    have aO := n1_
    have aT := n2_
    have bI := n3_
    have bH := n4_
    have aA := n5_
    have aC := n6_
    have aG := n7_
    have aJ := n8_
    have HB := n9_
    have aK := n10_
    have bh := n11_
    have bd := n12_
    have aU := n13_
    have av := n14_
    have ai := n15_
    have aw := n16_
    have aq := n17_
    have ax := n18_
    have bK := n19_
    have bC := n20_
    clear n0_ n1_ n2_ n3_ n4_ n5_ n6_ n7_ n8_ n9_ n10_ n11_ n12_ n13_ n14_ n15_ n16_ n17_ n18_ n19_ n20_
    clear hb hbox hg
    refine hK.o _ _ ⟨(qAa aA.o 0).trans rfl, (qAa aA.o 1).trans rfl, (qAa aA.o 2).trans rfl, (qAa aA.o 3).trans rfl, (qAa aC.o 0).trans rfl, (qAa aC.o 1).trans rfl⟩ (fun hHeld => ?_)
    clear hK K
    refine nm ?_
    exact nq (hJ1_3_4_5 (bY, bZ, bj, cC, bk, aB, aE) _ ⟨hHeld, (by (with_reducible repeat (fail)); exact aN.o), (by (with_reducible repeat (fail)); exact aO.o), (by (with_reducible repeat (fail)); exact aT.o), (by (with_reducible repeat (fail)); exact bI.o), (by (with_reducible repeat (fail)); exact bH.o), (by (with_reducible repeat (fail)); exact aA.o), (by (with_reducible repeat (fail)); exact aC.o), (by (with_reducible repeat (fail)); exact aG.o), (by (with_reducible repeat (fail)); exact aJ.o), (by (with_reducible repeat (fail)); exact aK.o), bg.o, bc.o, aM.o, az.o, aS.o, bA.o, ap.o, bB.o, bC.o, bK.o, bh.o, bd.o, aU.o, av.o, ai.o, aw.o, aq.o, ax.o, (by repeat ((with_reducible (exact HB.o))))⟩)
  rintro ⟨bY, bZ, bj, cC, bk, aB, aE⟩ cS ⟨hS_, h0_, h1_, h2_, h3_, h4_, h5_, h6_, h7_, h8_, h9_, h10_, h11_, h12_, h13_, h14_, h15_, h16_, h17_, h18_, h19_, h20_, h21_, h22_, h23_, h24_, h25_, h26_, h27_, h28_⟩
  have n0_ : qAd (Kd.R (Kd.int .i64) 3 cS w.heap.size (fun k_ => some k_ ≠ (bZ : Value).ownBlock ∧ some k_ ≠ (bk : Value).ownBlock) bY aP) := ⟨h0_⟩
  have n1_ : qAd (Kd.R (Kd.int .i64) 3 cS w.heap.size (fun k_ => some k_ ≠ (bY : Value).ownBlock ∧ some k_ ≠ (bk : Value).ownBlock) bZ aR) := ⟨h1_⟩
  have n2_ : qAd (Kd.R k51 51 cS w.heap.size (fun _ => True) bj aV) := ⟨h2_⟩
  have n3_ : qAd (Kd.S k34 34 cS w.heap.size (fun k_ => some k_ ≠ (bY : Value).ownBlock ∧ some k_ ≠ (bZ : Value).ownBlock ∧ some k_ ≠ (bk : Value).ownBlock) cC ao) := ⟨h3_⟩
  have n4_ : qAd (Kd.R (Kd.int .i64) 3 cS w.heap.size (fun k_ => some k_ ≠ (bY : Value).ownBlock ∧ some k_ ≠ (bZ : Value).ownBlock) bk aW) := ⟨h4_⟩
  have n5_ : qAd (cS.heap[aD]? = some (.cells #[.slice aa l0_0.length ad, .int .i64 a0_1, .slice ab l0_2.length ae, .slice ac l0_3.length af] 27 (0, 0))) := ⟨h5_⟩
  have n6_ : qAd (cS.heap[aF]? = some (.cells #[.slice aj l1_0.length al, .slice ak l1_1.length an] 30 (0, 0))) := ⟨h6_⟩
  have n7_ : qAd (cS.heap[aH]? = some (.cells #[.int .i64 a3_0, .int .i64 a3_1, .int .i64 a3_2, .int .u64 a3_3] 50 (0, 0))) := ⟨h7_⟩
  have n8_ : qAd (cS.heap[aB]? = some (.cells #[.slice none 0 0, .int .i64 0, .slice none 0 0, .slice none 0 0] 37 (0, 0))) := ⟨h8_⟩
  have n9_ : qAd (cS.heap[aE]? = some (.cells #[.slice none 0 0, .slice none 0 0] 41 (0, 0))) := ⟨h9_⟩
  have n10_ : qAd (w.heap.size ≤ aB) := ⟨h10_⟩
  have n11_ : qAd (w.heap.size ≤ aB) := ⟨h11_⟩
  have n12_ : qAd (aD ≠ aB) := ⟨h12_⟩
  have n13_ : qAd (aB ≠ aD) := ⟨h13_⟩
  have n14_ : qAd (aF ≠ aB) := ⟨h14_⟩
  have n15_ : qAd (aB ≠ aF) := ⟨h15_⟩
  have n16_ : qAd (aH ≠ aB) := ⟨h16_⟩
  have n17_ : qAd (aB ≠ aH) := ⟨h17_⟩
  have n18_ : qAd (aE ≠ aB) := ⟨h18_⟩
  have n19_ : qAd (aB ≠ aE) := ⟨h19_⟩
  have n20_ : qAd (w.heap.size ≤ aE) := ⟨h20_⟩
  have n21_ : qAd (w.heap.size ≤ aE) := ⟨h21_⟩
  have n22_ : qAd (aD ≠ aE) := ⟨h22_⟩
  have n23_ : qAd (aE ≠ aD) := ⟨h23_⟩
  have n24_ : qAd (aF ≠ aE) := ⟨h24_⟩
  have n25_ : qAd (aE ≠ aF) := ⟨h25_⟩
  have n26_ : qAd (aH ≠ aE) := ⟨h26_⟩
  have n27_ : qAd (aE ≠ aH) := ⟨h27_⟩
  have n28_ : qAd (Below w.heap.size w cS) := ⟨h28_⟩
  clear aA
  clear aC
  clear aG
  clear HB
  clear h0_ h1_ h2_ h3_ h4_ h5_ h6_ h7_ h8_ h9_ h10_ h11_ h12_ h13_ h14_ h15_ h16_ h17_ h18_ h19_ h20_ h21_ h22_ h23_ h24_ h25_ h26_ h27_ h28_
  have aN := n0_
  have aO := n1_
  have aT := n2_
  have bI := n3_
  have bH := n4_
  have aA := n5_
  have aC := n6_
  have aG := n7_
  have aJ := n8_
  have aK := n9_
  have bc := n11_
  have aM := n12_
  have aS := n14_
  have ap := n16_
  have bC := n18_
  have bK := n19_
  have bd := n21_
  have aU := n22_
  have av := n23_
  have ai := n24_
  have aw := n25_
  have aq := n26_
  have ax := n27_
  have HB := n28_
  clear n0_ n1_ n2_ n3_ n4_ n5_ n6_ n7_ n8_ n9_ n10_ n11_ n12_ n13_ n14_ n15_ n16_ n17_ n18_ n19_ n20_ n21_ n22_ n23_ n24_ n25_ n26_ n27_ n28_
  have hHeld : cS.cell? ⟨aD, 0, none⟩ = some (.slice aa l0_0.length ad) ∧ cS.cell? ⟨aD, 1, none⟩ = some (.int .i64 a0_1) ∧ cS.cell? ⟨aD, 2, none⟩ = some (.slice ab l0_2.length ae) ∧ cS.cell? ⟨aD, 3, none⟩ = some (.slice ac l0_3.length af) ∧ cS.cell? ⟨aF, 0, none⟩ = some (.slice aj l1_0.length al) ∧ cS.cell? ⟨aF, 1, none⟩ = some (.slice ak l1_1.length an) := hS_
  obtain ⟨bN, bM, gD⟩ := Kd.R_slice aN.o
  ((subst gD))
  obtain ⟨bT, bR, gE⟩ := Kd.R_slice aO.o
  ((subst gE))
  obtain ⟨b5, b4, gF⟩ := Kd.R_slice aT.o
  ((subst gF))
  obtain ⟨bb, b7, gG⟩ := Kd.S_slice bI.o
  ((subst gG))
  obtain ⟨bQ, bO, gH⟩ := Kd.R_slice bH.o
  ((subst gH))
  refine qCX (a' := ?_) ?_ ?_
  rotate_left
  ·simp only [qE6, Act.put, List.setIfInBounds_toArray, List.set_cons_zero, List.set_cons_succ]
   rfl
  refine one_ (i := 6) (N := none) (mK 8 127) rfl rfl (qBp HT_.o (by kernel_rfl)) (by decide) (fun K hK => ?_)
  have hs23 := c1_ cS aJ.o
  have hfs23 := qAb aJ.o 0
  obtain ⟨-, hs24⟩ := c2_ cS aJ.o
  have hfs24 := qAb aJ.o 1
  obtain ⟨-, -, hs26⟩ := c3_ cS aJ.o
  have hfs26 := qAb aJ.o 2
  obtain ⟨-, -, -, hs28⟩ := c4_ cS aJ.o
  have hfs28 := qAb aJ.o 3
  refine skip_ (w1 := ?_) (by rfl) rfl ?_ ?_
  rotate_left
  ·go_simp
   rfl
  refine hK.o _ _ ⟨((qBr (p := ⟨aB, _, none⟩) aM.o _).trans (((qBr (p := ⟨aB, _, none⟩) aM.o _).trans (((qBr (p := ⟨aB, _, none⟩) aM.o _).trans (((qBr (p := ⟨aB, _, none⟩) aM.o _).trans (hHeld.1)))))))), ((qBr (p := ⟨aB, _, none⟩) aM.o _).trans (((qBr (p := ⟨aB, _, none⟩) aM.o _).trans (((qBr (p := ⟨aB, _, none⟩) aM.o _).trans (((qBr (p := ⟨aB, _, none⟩) aM.o _).trans (hHeld.2.1)))))))), ((qBr (p := ⟨aB, _, none⟩) aM.o _).trans (((qBr (p := ⟨aB, _, none⟩) aM.o _).trans (((qBr (p := ⟨aB, _, none⟩) aM.o _).trans (((qBr (p := ⟨aB, _, none⟩) aM.o _).trans (hHeld.2.2.1)))))))), ((qBr (p := ⟨aB, _, none⟩) aM.o _).trans (((qBr (p := ⟨aB, _, none⟩) aM.o _).trans (((qBr (p := ⟨aB, _, none⟩) aM.o _).trans (((qBr (p := ⟨aB, _, none⟩) aM.o _).trans (hHeld.2.2.2.1)))))))), ((qBr (p := ⟨aB, _, none⟩) aS.o _).trans (((qBr (p := ⟨aB, _, none⟩) aS.o _).trans (((qBr (p := ⟨aB, _, none⟩) aS.o _).trans (((qBr (p := ⟨aB, _, none⟩) aS.o _).trans (hHeld.2.2.2.2.1)))))))), ((qBr (p := ⟨aB, _, none⟩) aS.o _).trans (((qBr (p := ⟨aB, _, none⟩) aS.o _).trans (((qBr (p := ⟨aB, _, none⟩) aS.o _).trans (((qBr (p := ⟨aB, _, none⟩) aS.o _).trans (hHeld.2.2.2.2.2))))))))⟩ (fun hHeld => ?_)
  clear hK K
  refine one_ (i := 7) (N := none) (mK 8 255) rfl rfl (qBp HT_.o (by kernel_rfl)) (by decide) (fun K hK => ?_)
  have hs30 := c1_ cS aK.o
  have hfs30 := qAb aK.o 0
  obtain ⟨-, hs32⟩ := c2_ cS aK.o
  have hfs32 := qAb aK.o 1
  have hms32_3 := bC.o
  refine skip_ (w1 := ?_) (by rfl) rfl ?_ ?_
  rotate_left
  ·go_simp
   rfl
  refine hK.o _ _ ⟨((qBr (p := ⟨aE, _, none⟩) aU.o _).trans (((qBr (p := ⟨aE, _, none⟩) aU.o _).trans (hHeld.1)))), ((qBr (p := ⟨aE, _, none⟩) aU.o _).trans (((qBr (p := ⟨aE, _, none⟩) aU.o _).trans (hHeld.2.1)))), ((qBr (p := ⟨aE, _, none⟩) aU.o _).trans (((qBr (p := ⟨aE, _, none⟩) aU.o _).trans (hHeld.2.2.1)))), ((qBr (p := ⟨aE, _, none⟩) aU.o _).trans (((qBr (p := ⟨aE, _, none⟩) aU.o _).trans (hHeld.2.2.2.1)))), ((qBr (p := ⟨aE, _, none⟩) ai.o _).trans (((qBr (p := ⟨aE, _, none⟩) ai.o _).trans (hHeld.2.2.2.2.1)))), ((qBr (p := ⟨aE, _, none⟩) ai.o _).trans (((qBr (p := ⟨aE, _, none⟩) ai.o _).trans (hHeld.2.2.2.2.2))))⟩ (fun hHeld => ?_)
  clear hK K
  refine qCS (qBA HT_.o (by kernel_rfl)) ?_
  have g9 := bC.o
  obtain ⟨dx, dy, dz, eA⟩ := c4_ cS aJ.o
  obtain ⟨eV, eW, eX, eY⟩ := z4_ aJ.o
  have g2 := av.o
  have ga := aU.o
  have g3 := aw.o
  have gb := ai.o
  have g4 := ax.o
  have gc := aq.o
  obtain ⟨eB, eC⟩ := c2_ cS aK.o
  obtain ⟨eZ, e0⟩ := z2_ aK.o
  go_upto_region 7 with (first | ((with_reducible refine qA7 (f := 13) rfl ?_); refine gL 36 Tryz.func13 #[.agg #[.slice bN aP.length bM, .int .i64 au, .slice bT aR.length bR, .slice b5 aV.length b4], .agg #[.slice bb ao.length b7, .slice bQ aW.length bO]] ?_; (with_reducible refine (qAN.calls _ _ aP au _ _ aR _ _ aV _ _ ao _ _ aW gK dE _ ?side1 ?side2 ?side3 ?side4 ?side5 ?side6 ?side7 ?side8 ?side9 ?side10 A9.o).mono ?_); (case side1 => refine (Kd.R_reads' (e := 3) (base := w.heap.size) (ok := fun k_ => (some k_ ≠ (.slice bT aR.length bR : Value).ownBlock ∧ some k_ ≠ (.slice bQ aW.length bO : Value).ownBlock)) (n := aP.length) (c := bM) ?_).2.2; exact (by (with_reducible repeat (fail)); exact (Kd.R_mono (Kd.R_mono (Kd.R_far (p := ⟨aE, 1, none⟩) (Kd.R_far (p := ⟨aE, 0, none⟩) (Kd.R_far (p := ⟨aB, 3, none⟩) (Kd.R_far (p := ⟨aB, 2, none⟩) (Kd.R_far (p := ⟨aB, 1, none⟩) (Kd.R_far (p := ⟨aB, 0, none⟩) (Kd.R_types (Kd.R_types aN.o aJ.o (by decide)) aK.o (by decide)) (fun _ hk => hk.1.2) (.slice bN aP.length bM)) (fun _ hk => hk.1.2) (.int .i64 au)) (fun _ hk => hk.1.2) (.slice bT aR.length bR)) (fun _ hk => hk.1.2) (.slice b5 aV.length b4)) (fun _ hk => hk.2) (.slice bb ao.length b7)) (fun _ hk => hk.2) (.slice bQ aW.length bO)) (fun _ h_ => h_.1)) (fun _ h_ => h_.1)))); (case side2 => exact (Kd.R_reads' aN.o).2.1); (case side3 => refine (Kd.R_reads' (e := 3) (base := w.heap.size) (ok := fun k_ => (some k_ ≠ (.slice bN aP.length bM : Value).ownBlock ∧ some k_ ≠ (.slice bQ aW.length bO : Value).ownBlock)) (n := aR.length) (c := bR) ?_).2.2; exact (by (with_reducible repeat (fail)); exact (Kd.R_mono (Kd.R_mono (Kd.R_far (p := ⟨aE, 1, none⟩) (Kd.R_far (p := ⟨aE, 0, none⟩) (Kd.R_far (p := ⟨aB, 3, none⟩) (Kd.R_far (p := ⟨aB, 2, none⟩) (Kd.R_far (p := ⟨aB, 1, none⟩) (Kd.R_far (p := ⟨aB, 0, none⟩) (Kd.R_types (Kd.R_types aO.o aJ.o (by decide)) aK.o (by decide)) (fun _ hk => hk.1.2) (.slice bN aP.length bM)) (fun _ hk => hk.1.2) (.int .i64 au)) (fun _ hk => hk.1.2) (.slice bT aR.length bR)) (fun _ hk => hk.1.2) (.slice b5 aV.length b4)) (fun _ hk => hk.2) (.slice bb ao.length b7)) (fun _ hk => hk.2) (.slice bQ aW.length bO)) (fun _ h_ => h_.1)) (fun _ h_ => h_.1)))); (case side4 => exact (Kd.R_reads' aO.o).2.1); (case side5 => refine (Kd.R_reads' (e := 51) (base := w.heap.size) (ok := fun k_ => True) (n := aV.length) (c := b4) ?_).2.2; exact (by (with_reducible repeat (fail)); exact (Kd.R_mono (Kd.R_mono (Kd.R_far (p := ⟨aE, 1, none⟩) (Kd.R_far (p := ⟨aE, 0, none⟩) (Kd.R_far (p := ⟨aB, 3, none⟩) (Kd.R_far (p := ⟨aB, 2, none⟩) (Kd.R_far (p := ⟨aB, 1, none⟩) (Kd.R_far (p := ⟨aB, 0, none⟩) (Kd.R_types (Kd.R_types aT.o aJ.o (by decide)) aK.o (by decide)) (fun _ hk => hk.1.2) (.slice bN aP.length bM)) (fun _ hk => hk.1.2) (.int .i64 au)) (fun _ hk => hk.1.2) (.slice bT aR.length bR)) (fun _ hk => hk.1.2) (.slice b5 aV.length b4)) (fun _ hk => hk.2) (.slice bb ao.length b7)) (fun _ hk => hk.2) (.slice bQ aW.length bO)) (fun _ h_ => h_.1)) (fun _ h_ => h_.1)))); (case side6 => exact (Kd.R_reads' aT.o).2.1); (case side7 => refine (Kd.S_reads' (e := 34) (base := w.heap.size) (ok := fun k_ => (some k_ ≠ (.slice bN aP.length bM : Value).ownBlock ∧ (some k_ ≠ (.slice bT aR.length bR : Value).ownBlock ∧ some k_ ≠ (.slice bQ aW.length bO : Value).ownBlock))) (n := ao.length) (c := b7) ?_).2.2; exact (by (with_reducible repeat (fail)); exact (Kd.S_mono (Kd.S_mono (Kd.S_far (p := ⟨aE, 1, none⟩) (Kd.S_far (p := ⟨aE, 0, none⟩) (Kd.S_far (p := ⟨aB, 3, none⟩) (Kd.S_far (p := ⟨aB, 2, none⟩) (Kd.S_far (p := ⟨aB, 1, none⟩) (Kd.S_far (p := ⟨aB, 0, none⟩) (Kd.S_types (Kd.S_types bI.o aJ.o (by decide)) aK.o (by decide)) (fun _ hk => hk.1.2) (.slice bN aP.length bM)) (fun _ hk => hk.1.2) (.int .i64 au)) (fun _ hk => hk.1.2) (.slice bT aR.length bR)) (fun _ hk => hk.1.2) (.slice b5 aV.length b4)) (fun _ hk => hk.2) (.slice bb ao.length b7)) (fun _ hk => hk.2) (.slice bQ aW.length bO)) (fun _ h_ => h_.1)) (fun _ h_ => h_.1)))); (case side8 => exact (Kd.S_reads' bI.o).2.1); (case side9 => refine (Kd.R_reads' (e := 3) (base := w.heap.size) (ok := fun k_ => (some k_ ≠ (.slice bN aP.length bM : Value).ownBlock ∧ some k_ ≠ (.slice bT aR.length bR : Value).ownBlock)) (n := aW.length) (c := bO) ?_).2.2; exact (by (with_reducible repeat (fail)); exact (Kd.R_mono (Kd.R_mono (Kd.R_far (p := ⟨aE, 1, none⟩) (Kd.R_far (p := ⟨aE, 0, none⟩) (Kd.R_far (p := ⟨aB, 3, none⟩) (Kd.R_far (p := ⟨aB, 2, none⟩) (Kd.R_far (p := ⟨aB, 1, none⟩) (Kd.R_far (p := ⟨aB, 0, none⟩) (Kd.R_types (Kd.R_types bH.o aJ.o (by decide)) aK.o (by decide)) (fun _ hk => hk.1.2) (.slice bN aP.length bM)) (fun _ hk => hk.1.2) (.int .i64 au)) (fun _ hk => hk.1.2) (.slice bT aR.length bR)) (fun _ hk => hk.1.2) (.slice b5 aV.length b4)) (fun _ hk => hk.2) (.slice bb ao.length b7)) (fun _ hk => hk.2) (.slice bQ aW.length bO)) (fun _ h_ => h_.1)) (fun _ h_ => h_.1)))); (case side10 => exact (Kd.R_reads' bH.o).2.1); rintro e gn ⟨rfl, hb⟩; refine ⟨_, rfl, ?_⟩; have n0_ := am (Kd.R_below (by (with_reducible repeat (fail)); exact (Kd.R_mono (Kd.R_mono (Kd.R_far (p := ⟨aE, 1, none⟩) (Kd.R_far (p := ⟨aE, 0, none⟩) (Kd.R_far (p := ⟨aB, 3, none⟩) (Kd.R_far (p := ⟨aB, 2, none⟩) (Kd.R_far (p := ⟨aB, 1, none⟩) (Kd.R_far (p := ⟨aB, 0, none⟩) (Kd.R_types (Kd.R_types aN.o aJ.o (by decide)) aK.o (by decide)) (fun _ hk => hk.1.2) (.slice bN aP.length bM)) (fun _ hk => hk.1.2) (.int .i64 au)) (fun _ hk => hk.1.2) (.slice bT aR.length bR)) (fun _ hk => hk.1.2) (.slice b5 aV.length b4)) (fun _ hk => hk.2) (.slice bb ao.length b7)) (fun _ hk => hk.2) (.slice bQ aW.length bO)) (fun _ h_ => h_.1)) (fun _ h_ => h_.1))) hb); have n1_ := am (Kd.R_below (by (with_reducible repeat (fail)); exact (Kd.R_mono (Kd.R_mono (Kd.R_far (p := ⟨aE, 1, none⟩) (Kd.R_far (p := ⟨aE, 0, none⟩) (Kd.R_far (p := ⟨aB, 3, none⟩) (Kd.R_far (p := ⟨aB, 2, none⟩) (Kd.R_far (p := ⟨aB, 1, none⟩) (Kd.R_far (p := ⟨aB, 0, none⟩) (Kd.R_types (Kd.R_types aO.o aJ.o (by decide)) aK.o (by decide)) (fun _ hk => hk.1.2) (.slice bN aP.length bM)) (fun _ hk => hk.1.2) (.int .i64 au)) (fun _ hk => hk.1.2) (.slice bT aR.length bR)) (fun _ hk => hk.1.2) (.slice b5 aV.length b4)) (fun _ hk => hk.2) (.slice bb ao.length b7)) (fun _ hk => hk.2) (.slice bQ aW.length bO)) (fun _ h_ => h_.1)) (fun _ h_ => h_.1))) hb); have n2_ := am (Kd.R_below (by (with_reducible repeat (fail)); exact (Kd.R_mono (Kd.R_mono (Kd.R_far (p := ⟨aE, 1, none⟩) (Kd.R_far (p := ⟨aE, 0, none⟩) (Kd.R_far (p := ⟨aB, 3, none⟩) (Kd.R_far (p := ⟨aB, 2, none⟩) (Kd.R_far (p := ⟨aB, 1, none⟩) (Kd.R_far (p := ⟨aB, 0, none⟩) (Kd.R_types (Kd.R_types aT.o aJ.o (by decide)) aK.o (by decide)) (fun _ hk => hk.1.2) (.slice bN aP.length bM)) (fun _ hk => hk.1.2) (.int .i64 au)) (fun _ hk => hk.1.2) (.slice bT aR.length bR)) (fun _ hk => hk.1.2) (.slice b5 aV.length b4)) (fun _ hk => hk.2) (.slice bb ao.length b7)) (fun _ hk => hk.2) (.slice bQ aW.length bO)) (fun _ h_ => h_.1)) (fun _ h_ => h_.1))) hb); have n3_ := am (Kd.S_below (by (with_reducible repeat (fail)); exact (Kd.S_mono (Kd.S_mono (Kd.S_far (p := ⟨aE, 1, none⟩) (Kd.S_far (p := ⟨aE, 0, none⟩) (Kd.S_far (p := ⟨aB, 3, none⟩) (Kd.S_far (p := ⟨aB, 2, none⟩) (Kd.S_far (p := ⟨aB, 1, none⟩) (Kd.S_far (p := ⟨aB, 0, none⟩) (Kd.S_types (Kd.S_types bI.o aJ.o (by decide)) aK.o (by decide)) (fun _ hk => hk.1.2) (.slice bN aP.length bM)) (fun _ hk => hk.1.2) (.int .i64 au)) (fun _ hk => hk.1.2) (.slice bT aR.length bR)) (fun _ hk => hk.1.2) (.slice b5 aV.length b4)) (fun _ hk => hk.2) (.slice bb ao.length b7)) (fun _ hk => hk.2) (.slice bQ aW.length bO)) (fun _ h_ => h_.1)) (fun _ h_ => h_.1))) hb); have n4_ := am (Kd.R_below (by (with_reducible repeat (fail)); exact (Kd.R_mono (Kd.R_mono (Kd.R_far (p := ⟨aE, 1, none⟩) (Kd.R_far (p := ⟨aE, 0, none⟩) (Kd.R_far (p := ⟨aB, 3, none⟩) (Kd.R_far (p := ⟨aB, 2, none⟩) (Kd.R_far (p := ⟨aB, 1, none⟩) (Kd.R_far (p := ⟨aB, 0, none⟩) (Kd.R_types (Kd.R_types bH.o aJ.o (by decide)) aK.o (by decide)) (fun _ hk => hk.1.2) (.slice bN aP.length bM)) (fun _ hk => hk.1.2) (.int .i64 au)) (fun _ hk => hk.1.2) (.slice bT aR.length bR)) (fun _ hk => hk.1.2) (.slice b5 aV.length b4)) (fun _ hk => hk.2) (.slice bb ao.length b7)) (fun _ hk => hk.2) (.slice bQ aW.length bO)) (fun _ h_ => h_.1)) (fun _ h_ => h_.1))) hb); have n5_ := am (qAk (g := aD) (o := .cells #[.slice aa l0_0.length ad, .int .i64 a0_1, .slice ab l0_2.length ae, .slice ac l0_3.length af] 27 (0, 0)) (by (with_reducible repeat (fail)); refine qDH ?_ aU.o _; (with_reducible repeat (fail)); refine qDH ?_ aU.o _; (with_reducible repeat (fail)); refine qDH ?_ aM.o _; (with_reducible repeat (fail)); refine qDH ?_ aM.o _; (with_reducible repeat (fail)); refine qDH ?_ aM.o _; (with_reducible repeat (fail)); refine qDH ?_ aM.o _; (with_reducible repeat (fail)); exact aA.o) hb); have n6_ := am (qAk (g := aF) (o := .cells #[.slice aj l1_0.length al, .slice ak l1_1.length an] 30 (0, 0)) (by (with_reducible repeat (fail)); refine qDH ?_ ai.o _; (with_reducible repeat (fail)); refine qDH ?_ ai.o _; (with_reducible repeat (fail)); refine qDH ?_ aS.o _; (with_reducible repeat (fail)); refine qDH ?_ aS.o _; (with_reducible repeat (fail)); refine qDH ?_ aS.o _; (with_reducible repeat (fail)); refine qDH ?_ aS.o _; (with_reducible repeat (fail)); exact aC.o) hb); have n7_ := am (qAk (g := aH) (o := .cells #[.int .i64 a3_0, .int .i64 a3_1, .int .i64 a3_2, .int .u64 a3_3] 50 (0, 0)) (by (with_reducible repeat (fail)); refine qDH ?_ aq.o _; (with_reducible repeat (fail)); refine qDH ?_ aq.o _; (with_reducible repeat (fail)); refine qDH ?_ ap.o _; (with_reducible repeat (fail)); refine qDH ?_ ap.o _; (with_reducible repeat (fail)); refine qDH ?_ ap.o _; (with_reducible repeat (fail)); refine qDH ?_ ap.o _; (with_reducible repeat (fail)); exact aG.o) hb); have n8_ := am (qAk (g := aB) (o := .cells #[.slice bN aP.length bM, .int .i64 au, .slice bT aR.length bR, .slice b5 aV.length b4] 37 (0, 0)) (by (with_reducible repeat (fail)); refine qDH ?_ bK.o _; (with_reducible repeat (fail)); refine qDH ?_ bK.o _; (with_reducible repeat (fail)); refine qAQ (cs := #[.slice bN aP.length bM, .int .i64 au, .slice bT aR.length bR, .slice none 0 0]) ?_ 3 _ rfl; (with_reducible repeat (fail)); refine qAQ (cs := #[.slice bN aP.length bM, .int .i64 au, .slice none 0 0, .slice none 0 0]) ?_ 2 _ rfl; (with_reducible repeat (fail)); refine qAQ (cs := #[.slice bN aP.length bM, .int .i64 0, .slice none 0 0, .slice none 0 0]) ?_ 1 _ rfl; (with_reducible repeat (fail)); refine qAQ (cs := #[.slice none 0 0, .int .i64 0, .slice none 0 0, .slice none 0 0]) ?_ 0 _ rfl; (with_reducible repeat (fail)); exact aJ.o) hb); have n9_ := am (qAk (g := aE) (o := .cells #[.slice bb ao.length b7, .slice bQ aW.length bO] 41 (0, 0)) (by (with_reducible repeat (fail)); refine qAQ (cs := #[.slice bb ao.length b7, .slice none 0 0]) ?_ 1 _ rfl; (with_reducible repeat (fail)); refine qAQ (cs := #[.slice none 0 0, .slice none 0 0]) ?_ 0 _ rfl; (with_reducible repeat (fail)); refine qDH ?_ bC.o _; (with_reducible repeat (fail)); refine qDH ?_ bC.o _; (with_reducible repeat (fail)); refine qDH ?_ bC.o _; (with_reducible repeat (fail)); refine qDH ?_ bC.o _; (with_reducible repeat (fail)); exact aK.o) hb); have n10_ := am (qAq (by repeat ((with_reducible first | exact HB.o | refine qAi ?_ bc.o | refine qAi ?_ bd.o))) hb); clear aN; clear aO; clear aT; clear bI; clear bH; clear aA; clear aC; clear aG; clear aJ; clear aK; clear HB; have aN := n0_; have aO := n1_; have aT := n2_; have bI := n3_; have bH := n4_; have aA := n5_; have aC := n6_; have aG := n7_; have aJ := n8_; have aK := n9_; have HB := n10_; clear n0_ n1_ n2_ n3_ n4_ n5_ n6_ n7_ n8_ n9_ n10_; (skip); (skip); (skip); obtain ⟨eD, eE, eF, eG⟩ := c4_ gn aJ.o; obtain ⟨e1, e2, e3, e4⟩ := z4_ aJ.o; obtain ⟨eH, eI⟩ := c2_ gn aK.o; obtain ⟨e5, e6⟩ := z2_ aK.o) | ((with_reducible refine qA7 (f := 27) rfl ?_); refine gL 43 Tryz.func27 #[.agg #[.slice bN aP.length bM, .int .i64 au, .slice bT aR.length bR, .slice b5 aV.length b4], .agg #[.slice bb ao.length b7, .slice bQ aW.length bO], .int .i64 a2] ?_; (with_reducible refine (qBI.calls _ _ aP au _ _ aR _ _ aV _ _ ao _ _ aW a2 gM gN fF _ ?side1 ?side2 ?side3 ?side4 ?side5 ?side6 ?side7 ?side8 ?side9 ?side10 gp.o).mono ?_); (case side1 => repeat ((exact (Kd.R_reads' aN.o).2.2))); (case side2 => exact (Kd.R_reads' aN.o).2.1); (case side3 => repeat ((exact (Kd.R_reads' aO.o).2.2))); (case side4 => exact (Kd.R_reads' aO.o).2.1); (case side5 => repeat ((exact (Kd.R_reads' aT.o).2.2))); (case side6 => exact (Kd.R_reads' aT.o).2.1); (case side7 => repeat ((exact (Kd.S_reads' bI.o).2.2))); (case side8 => exact (Kd.S_reads' bI.o).2.1); (case side9 => repeat ((exact (Kd.R_reads' bH.o).2.2))); (case side10 => exact (Kd.R_reads' bH.o).2.1); rintro e hF ⟨gv, rfl, bo, hb⟩; refine ⟨_, rfl, ?_⟩; have n0_ := am (Kd.R_elder' (by (with_reducible repeat (fail)); exact aN.o) (Kd.R_base bo) hb); have n1_ := am (Kd.R_elder' (by (with_reducible repeat (fail)); exact aO.o) (Kd.R_base bo) hb); have n2_ := am (Kd.R_below (by (with_reducible repeat (fail)); exact aT.o) hb); have n3_ := am (Kd.S_elder' (by (with_reducible repeat (fail)); exact bI.o) (Kd.R_base bo) hb); have n4_ := am (Kd.R_elder' (by (with_reducible repeat (fail)); exact bH.o) (Kd.R_base bo) hb); have n5_ := am (Kd.R_lower (Kd.R_new' (Kd.R_new' (Kd.R_new' bo (Kd.R_lt (by (with_reducible repeat (fail)); exact aN.o))) (Kd.R_lt (by (with_reducible repeat (fail)); exact aO.o))) (Kd.R_lt (by (with_reducible repeat (fail)); exact bH.o))) (qAm (by repeat ((with_reducible (exact HB.o)))))); have n6_ := am (qAk (g := aD) (o := .cells #[.slice aa l0_0.length ad, .int .i64 a0_1, .slice ab l0_2.length ae, .slice ac l0_3.length af] 27 (0, 0)) (by (with_reducible repeat (fail)); exact aA.o) hb); have n7_ := am (qAk (g := aF) (o := .cells #[.slice aj l1_0.length al, .slice ak l1_1.length an] 30 (0, 0)) (by (with_reducible repeat (fail)); exact aC.o) hb); have n8_ := am (qAk (g := aH) (o := .cells #[.int .i64 a3_0, .int .i64 a3_1, .int .i64 a3_2, .int .u64 a3_3] 50 (0, 0)) (by (with_reducible repeat (fail)); exact aG.o) hb); have n9_ := am (qAk (g := aB) (o := .cells #[.slice bN aP.length bM, .int .i64 au, .slice bT aR.length bR, .slice b5 aV.length b4] 37 (0, 0)) (by (with_reducible repeat (fail)); exact aJ.o) hb); have n10_ := am (qAk (g := aE) (o := .cells #[.slice bb ao.length b7, .slice bQ aW.length bO] 41 (0, 0)) (by (with_reducible repeat (fail)); exact aK.o) hb); have n11_ := am (qAq (by repeat ((with_reducible (exact HB.o)))) hb); clear aN; clear aO; clear aT; clear bI; clear bH; clear aA; clear aC; clear aG; clear aJ; clear aK; clear HB; have aN := n0_; have aO := n1_; have aT := n2_; have bI := n3_; have bH := n4_; have ch := n5_; have aA := n6_; have aC := n7_; have aG := n8_; have aJ := n9_; have aK := n10_; have HB := n11_; clear n0_ n1_ n2_ n3_ n4_ n5_ n6_ n7_ n8_ n9_ n10_ n11_; (skip); (skip); (skip); obtain ⟨eJ, eK, eL, eM⟩ := c4_ hF aG.o; obtain ⟨e7, e8, e9, ea⟩ := z4_ aG.o) | ((with_reducible refine qAV (N := 16) rfl ?_); (try (refine qBw (by rfl) ?_; dsimp only)); refine bx 16 #[.int .i64 0, .int .i64 0, .int .i64 0, .int .u64 0] 51 ?_; intro aI hg gO hbox hb; have n0_ := am (Kd.R_below (by (with_reducible repeat (fail)); exact aN.o) hb); have n1_ := am (Kd.R_below (by (with_reducible repeat (fail)); exact aO.o) hb); have n2_ := am (Kd.R_below (Kd.R_elderB (by (with_reducible repeat (fail)); exact aT.o) aI (Nat.le_of_eq hg.symm)) hb); have n3_ := am (Kd.S_below (by (with_reducible repeat (fail)); exact bI.o) hb); have n4_ := am (Kd.R_below (by (with_reducible repeat (fail)); exact bH.o) hb); have n5_ := am (Kd.R_below (by (with_reducible repeat (fail)); exact ch.o) hb); have n6_ := am (qAk (g := aD) (o := .cells #[.slice aa l0_0.length ad, .int .i64 a0_1, .slice ab l0_2.length ae, .slice ac l0_3.length af] 27 (0, 0)) (by (with_reducible repeat (fail)); exact aA.o) hb); have n7_ := am (qAk (g := aF) (o := .cells #[.slice aj l1_0.length al, .slice ak l1_1.length an] 30 (0, 0)) (by (with_reducible repeat (fail)); exact aC.o) hb); have n8_ := am (qAk (g := aH) (o := .cells #[.int .i64 a3_0, .int .i64 a3_1, .int .i64 a3_2, .int .u64 a3_3] 50 (0, 0)) (by (with_reducible repeat (fail)); exact aG.o) hb); have n9_ := am (qAk (g := aB) (o := .cells #[.slice bN aP.length bM, .int .i64 au, .slice bT aR.length bR, .slice b5 aV.length b4] 37 (0, 0)) (by (with_reducible repeat (fail)); exact aJ.o) hb); have n10_ := am (qAk (g := aE) (o := .cells #[.slice bb ao.length b7, .slice bQ aW.length bO] 41 (0, 0)) (by (with_reducible repeat (fail)); exact aK.o) hb); have n11_ := am (qAq (by repeat ((with_reducible (exact HB.o)))) hb); have n12_ := am (hbox); have n13_ := am ((by rw [hg]; exact (qAm (by repeat ((with_reducible (exact HB.o))))) : w.heap.size ≤ aI)); have n14_ := am ((by rw [hg]; exact (qAm (by repeat ((with_reducible (exact HB.o))))) : w.heap.size ≤ aI)); have n15_ := am ((by rw [hg]; exact Nat.ne_of_lt (qAZ (g := aD) (o := .cells #[.slice aa l0_0.length ad, .int .i64 a0_1, .slice ab l0_2.length ae, .slice ac l0_3.length af] 27 (0, 0)) (by (with_reducible repeat (fail)); exact aA.o)) : aD ≠ aI)); have n16_ := am ((by rw [hg]; exact Nat.ne_of_gt (qAZ (g := aD) (o := .cells #[.slice aa l0_0.length ad, .int .i64 a0_1, .slice ab l0_2.length ae, .slice ac l0_3.length af] 27 (0, 0)) (by (with_reducible repeat (fail)); exact aA.o)) : aI ≠ aD)); have n17_ := am ((by rw [hg]; exact Nat.ne_of_lt (qAZ (g := aF) (o := .cells #[.slice aj l1_0.length al, .slice ak l1_1.length an] 30 (0, 0)) (by (with_reducible repeat (fail)); exact aC.o)) : aF ≠ aI)); have n18_ := am ((by rw [hg]; exact Nat.ne_of_gt (qAZ (g := aF) (o := .cells #[.slice aj l1_0.length al, .slice ak l1_1.length an] 30 (0, 0)) (by (with_reducible repeat (fail)); exact aC.o)) : aI ≠ aF)); have n19_ := am ((by rw [hg]; exact Nat.ne_of_lt (qAZ (g := aH) (o := .cells #[.int .i64 a3_0, .int .i64 a3_1, .int .i64 a3_2, .int .u64 a3_3] 50 (0, 0)) (by (with_reducible repeat (fail)); exact aG.o)) : aH ≠ aI)); have n20_ := am ((by rw [hg]; exact Nat.ne_of_gt (qAZ (g := aH) (o := .cells #[.int .i64 a3_0, .int .i64 a3_1, .int .i64 a3_2, .int .u64 a3_3] 50 (0, 0)) (by (with_reducible repeat (fail)); exact aG.o)) : aI ≠ aH)); have n21_ := am ((by rw [hg]; exact Nat.ne_of_lt (qAZ (g := aB) (o := .cells #[.slice bN aP.length bM, .int .i64 au, .slice bT aR.length bR, .slice b5 aV.length b4] 37 (0, 0)) (by (with_reducible repeat (fail)); exact aJ.o)) : aB ≠ aI)); have n22_ := am ((by rw [hg]; exact Nat.ne_of_gt (qAZ (g := aB) (o := .cells #[.slice bN aP.length bM, .int .i64 au, .slice bT aR.length bR, .slice b5 aV.length b4] 37 (0, 0)) (by (with_reducible repeat (fail)); exact aJ.o)) : aI ≠ aB)); have n23_ := am ((by rw [hg]; exact Nat.ne_of_lt (qAZ (g := aE) (o := .cells #[.slice bb ao.length b7, .slice bQ aW.length bO] 41 (0, 0)) (by (with_reducible repeat (fail)); exact aK.o)) : aE ≠ aI)); have n24_ := am ((by rw [hg]; exact Nat.ne_of_gt (qAZ (g := aE) (o := .cells #[.slice bb ao.length b7, .slice bQ aW.length bO] 41 (0, 0)) (by (with_reducible repeat (fail)); exact aK.o)) : aI ≠ aE)); clear aN; clear aO; clear aT; clear bI; clear bH; clear ch; clear aA; clear aC; clear aG; clear aJ; clear aK; clear HB; have aN := n0_; have aO := n1_; have aT := n2_; have bI := n3_; have bH := n4_; have ch := n5_; have aA := n6_; have aC := n7_; have aG := n8_; have aJ := n9_; have aK := n10_; have HB := n11_; have ar := n12_; have cd := n14_; have bD := n15_; have cx := n16_; have bE := n17_; have cy := n18_; have bF := n19_; have cz := n20_; have bJ := n21_; have c0 := n22_; have bG := n23_; have dA := n24_; clear n0_ n1_ n2_ n3_ n4_ n5_ n6_ n7_ n8_ n9_ n10_ n11_ n12_ n13_ n14_ n15_ n16_ n17_ n18_ n19_ n20_ n21_ n22_ n23_ n24_; clear hb hbox hg; obtain ⟨eN, eO, eP, eQ⟩ := c4_ gO ar.o; obtain ⟨eb, ec, ed, ee⟩ := z4_ ar.o))
  (skip)
  go_cut [74] (fun gu wc => ∃ (kq : Nat) (ca : Bool), gu = .bool ca ∧ qAd (foundrylaw14_CodeDead.j0 kq a2 ca l0_0 a0_1 l0_2 l0_3 aP au aR aV ao aW a3_0 a3_1 a3_2 a3_3 = some r) ∧ qAd (kq ≤ k) ∧ qAd (Kd.R (Kd.int .i64) 3 wc w.heap.size (fun k_ => some k_ ≠ ((.slice bT aR.length bR) : Value).ownBlock ∧ some k_ ≠ ((.slice bQ aW.length bO) : Value).ownBlock) (.slice bN aP.length bM) aP) ∧ qAd (Kd.R (Kd.int .i64) 3 wc w.heap.size (fun k_ => some k_ ≠ ((.slice bN aP.length bM) : Value).ownBlock ∧ some k_ ≠ ((.slice bQ aW.length bO) : Value).ownBlock) (.slice bT aR.length bR) aR) ∧ qAd (Kd.R k51 51 wc w.heap.size (fun k_ => k_ ≠ aI) (.slice b5 aV.length b4) aV) ∧ qAd (Kd.S k34 34 wc w.heap.size (fun k_ => some k_ ≠ ((.slice bN aP.length bM) : Value).ownBlock ∧ some k_ ≠ ((.slice bT aR.length bR) : Value).ownBlock ∧ some k_ ≠ ((.slice bQ aW.length bO) : Value).ownBlock) (.slice bb ao.length b7) ao) ∧ qAd (Kd.R (Kd.int .i64) 3 wc w.heap.size (fun k_ => some k_ ≠ ((.slice bN aP.length bM) : Value).ownBlock ∧ some k_ ≠ ((.slice bT aR.length bR) : Value).ownBlock) (.slice bQ aW.length bO) aW) ∧ qAd (wc.heap[aD]? = some (.cells #[(.slice aa l0_0.length ad), .int .i64 a0_1, (.slice ab l0_2.length ae), (.slice ac l0_3.length af)] 27 (0, 0))) ∧ qAd (wc.heap[aF]? = some (.cells #[(.slice aj l1_0.length al), (.slice ak l1_1.length an)] 30 (0, 0))) ∧ qAd (wc.heap[aH]? = some (.cells #[.int .i64 a3_0, .int .i64 a3_1, .int .i64 a3_2, .int .u64 a3_3] 50 (0, 0))) ∧ qAd (wc.heap[aB]? = some (.cells #[(.slice bN aP.length bM), .int .i64 au, (.slice bT aR.length bR), (.slice b5 aV.length b4)] 37 (0, 0))) ∧ qAd (wc.heap[aE]? = some (.cells #[(.slice bb ao.length b7), (.slice bQ aW.length bO)] 41 (0, 0))) ∧ qAd (wc.heap[aI]? = some (.cells #[.int .i64 a3_0, .int .i64 a3_1, .int .i64 a3_2, .int .u64 a3_3] 51 (0, 0))) ∧ qAd (Below w.heap.size w wc))
  case first =>
   have H := ew.o
   clear ew
   by_cases fR : dE = 0
   rotate_left
   ·rw [if_neg fR] at H
    have fS : (dE != 0) = true := bne_iff_ne.mpr fR
    ((skip))
    have H' := am H
    clear H
    go_wp2
    go_meet
    case rel => exact ⟨_, (true), (by (rfl)), H', ⟨by (omega)⟩, ⟨by (with_reducible repeat (fail)); exact Kd.R_mono (Kd.R_far (p := ⟨aI, 3, none⟩) (Kd.R_far (p := ⟨aI, 2, none⟩) (Kd.R_far (p := ⟨aI, 1, none⟩) (Kd.R_far (p := ⟨aI, 0, none⟩) (Kd.R_types aN.o ar.o (by decide)) (fun _ hk => hk.2) (.int .i64 a3_0)) (fun _ hk => hk.2) (.int .i64 a3_1)) (fun _ hk => hk.2) (.int .i64 a3_2)) (fun _ hk => hk.2) (.int .u64 a3_3)) (fun _ hk => ⟨hk.1.1.1, hk.1.1.2⟩)⟩, ⟨by (with_reducible repeat (fail)); exact Kd.R_mono (Kd.R_far (p := ⟨aI, 3, none⟩) (Kd.R_far (p := ⟨aI, 2, none⟩) (Kd.R_far (p := ⟨aI, 1, none⟩) (Kd.R_far (p := ⟨aI, 0, none⟩) (Kd.R_types aO.o ar.o (by decide)) (fun _ hk => hk.2) (.int .i64 a3_0)) (fun _ hk => hk.2) (.int .i64 a3_1)) (fun _ hk => hk.2) (.int .i64 a3_2)) (fun _ hk => hk.2) (.int .u64 a3_3)) (fun _ hk => ⟨hk.1.1.1, hk.1.1.2⟩)⟩, ⟨by (with_reducible repeat (fail)); exact Kd.R_mono (Kd.R_far (p := ⟨aI, 3, none⟩) (Kd.R_far (p := ⟨aI, 2, none⟩) (Kd.R_far (p := ⟨aI, 1, none⟩) (Kd.R_far (p := ⟨aI, 0, none⟩) (Kd.R_mono aT.o (fun k_ hk => (⟨hk, hk.2⟩ : _ ∧ k_ ≠ aI))) (fun _ hk => hk.2) (.int .i64 a3_0)) (fun _ hk => hk.2) (.int .i64 a3_1)) (fun _ hk => hk.2) (.int .i64 a3_2)) (fun _ hk => hk.2) (.int .u64 a3_3)) (fun _ hk => hk.1.2)⟩, ⟨by (with_reducible repeat (fail)); exact Kd.S_mono (Kd.S_far (p := ⟨aI, 3, none⟩) (Kd.S_far (p := ⟨aI, 2, none⟩) (Kd.S_far (p := ⟨aI, 1, none⟩) (Kd.S_far (p := ⟨aI, 0, none⟩) (Kd.S_types bI.o ar.o (by decide)) (fun _ hk => hk.2) (.int .i64 a3_0)) (fun _ hk => hk.2) (.int .i64 a3_1)) (fun _ hk => hk.2) (.int .i64 a3_2)) (fun _ hk => hk.2) (.int .u64 a3_3)) (fun _ hk => ⟨hk.1.1.1, ⟨hk.1.1.2.1, hk.1.1.2.2⟩⟩)⟩, ⟨by (with_reducible repeat (fail)); exact Kd.R_mono (Kd.R_far (p := ⟨aI, 3, none⟩) (Kd.R_far (p := ⟨aI, 2, none⟩) (Kd.R_far (p := ⟨aI, 1, none⟩) (Kd.R_far (p := ⟨aI, 0, none⟩) (Kd.R_types bH.o ar.o (by decide)) (fun _ hk => hk.2) (.int .i64 a3_0)) (fun _ hk => hk.2) (.int .i64 a3_1)) (fun _ hk => hk.2) (.int .i64 a3_2)) (fun _ hk => hk.2) (.int .u64 a3_3)) (fun _ hk => ⟨hk.1.1.1, hk.1.1.2⟩)⟩, ⟨by (with_reducible repeat (fail)); refine qDH ?_ bD.o _; (with_reducible repeat (fail)); refine qDH ?_ bD.o _; (with_reducible repeat (fail)); refine qDH ?_ bD.o _; (with_reducible repeat (fail)); refine qDH ?_ bD.o _; (with_reducible repeat (fail)); exact aA.o⟩, ⟨by (with_reducible repeat (fail)); refine qDH ?_ bE.o _; (with_reducible repeat (fail)); refine qDH ?_ bE.o _; (with_reducible repeat (fail)); refine qDH ?_ bE.o _; (with_reducible repeat (fail)); refine qDH ?_ bE.o _; (with_reducible repeat (fail)); exact aC.o⟩, ⟨by (with_reducible repeat (fail)); refine qDH ?_ bF.o _; (with_reducible repeat (fail)); refine qDH ?_ bF.o _; (with_reducible repeat (fail)); refine qDH ?_ bF.o _; (with_reducible repeat (fail)); refine qDH ?_ bF.o _; (with_reducible repeat (fail)); exact aG.o⟩, ⟨by (with_reducible repeat (fail)); refine qDH ?_ bJ.o _; (with_reducible repeat (fail)); refine qDH ?_ bJ.o _; (with_reducible repeat (fail)); refine qDH ?_ bJ.o _; (with_reducible repeat (fail)); refine qDH ?_ bJ.o _; (with_reducible repeat (fail)); exact aJ.o⟩, ⟨by (with_reducible repeat (fail)); refine qDH ?_ bG.o _; (with_reducible repeat (fail)); refine qDH ?_ bG.o _; (with_reducible repeat (fail)); refine qDH ?_ bG.o _; (with_reducible repeat (fail)); refine qDH ?_ bG.o _; (with_reducible repeat (fail)); exact aK.o⟩, ⟨by (with_reducible repeat (fail)); refine qAQ (cs := #[.int .i64 a3_0, .int .i64 a3_1, .int .i64 a3_2, .int .u64 0]) ?_ 3 _ rfl; (with_reducible repeat (fail)); refine qAQ (cs := #[.int .i64 a3_0, .int .i64 a3_1, .int .i64 0, .int .u64 0]) ?_ 2 _ rfl; (with_reducible repeat (fail)); refine qAQ (cs := #[.int .i64 a3_0, .int .i64 0, .int .i64 0, .int .u64 0]) ?_ 1 _ rfl; (with_reducible repeat (fail)); refine qAQ (cs := #[.int .i64 0, .int .i64 0, .int .i64 0, .int .u64 0]) ?_ 0 _ rfl; (with_reducible repeat (fail)); exact ar.o⟩, ⟨by repeat ((with_reducible first | exact HB.o | refine qAi ?_ cd.o))⟩⟩
   rw [if_pos fR] at H
   have fS : (dE != 0) = false := bn fR
   clear fR
   ((skip))
   by_cases fm : fF = true
   ·subst fm
    replace H : (foundrylaw14_CodeDead.j0 k a2 true l0_0 a0_1 l0_2 l0_3 aP au aR aV ao aW a3_0 a3_1 a3_2 a3_3) = some r := by rw [if_pos rfl] at H; exact H
    have H' := am H
    clear H
    go_wp2
    go_meet
    case rel => exact ⟨_, (true), (by (rfl)), H', ⟨by (omega)⟩, ⟨by (with_reducible repeat (fail)); exact Kd.R_mono (Kd.R_far (p := ⟨aI, 3, none⟩) (Kd.R_far (p := ⟨aI, 2, none⟩) (Kd.R_far (p := ⟨aI, 1, none⟩) (Kd.R_far (p := ⟨aI, 0, none⟩) (Kd.R_types aN.o ar.o (by decide)) (fun _ hk => hk.2) (.int .i64 a3_0)) (fun _ hk => hk.2) (.int .i64 a3_1)) (fun _ hk => hk.2) (.int .i64 a3_2)) (fun _ hk => hk.2) (.int .u64 a3_3)) (fun _ hk => ⟨hk.1.1.1, hk.1.1.2⟩)⟩, ⟨by (with_reducible repeat (fail)); exact Kd.R_mono (Kd.R_far (p := ⟨aI, 3, none⟩) (Kd.R_far (p := ⟨aI, 2, none⟩) (Kd.R_far (p := ⟨aI, 1, none⟩) (Kd.R_far (p := ⟨aI, 0, none⟩) (Kd.R_types aO.o ar.o (by decide)) (fun _ hk => hk.2) (.int .i64 a3_0)) (fun _ hk => hk.2) (.int .i64 a3_1)) (fun _ hk => hk.2) (.int .i64 a3_2)) (fun _ hk => hk.2) (.int .u64 a3_3)) (fun _ hk => ⟨hk.1.1.1, hk.1.1.2⟩)⟩, ⟨by (with_reducible repeat (fail)); exact Kd.R_mono (Kd.R_far (p := ⟨aI, 3, none⟩) (Kd.R_far (p := ⟨aI, 2, none⟩) (Kd.R_far (p := ⟨aI, 1, none⟩) (Kd.R_far (p := ⟨aI, 0, none⟩) (Kd.R_mono aT.o (fun k_ hk => (⟨hk, hk.2⟩ : _ ∧ k_ ≠ aI))) (fun _ hk => hk.2) (.int .i64 a3_0)) (fun _ hk => hk.2) (.int .i64 a3_1)) (fun _ hk => hk.2) (.int .i64 a3_2)) (fun _ hk => hk.2) (.int .u64 a3_3)) (fun _ hk => hk.1.2)⟩, ⟨by (with_reducible repeat (fail)); exact Kd.S_mono (Kd.S_far (p := ⟨aI, 3, none⟩) (Kd.S_far (p := ⟨aI, 2, none⟩) (Kd.S_far (p := ⟨aI, 1, none⟩) (Kd.S_far (p := ⟨aI, 0, none⟩) (Kd.S_types bI.o ar.o (by decide)) (fun _ hk => hk.2) (.int .i64 a3_0)) (fun _ hk => hk.2) (.int .i64 a3_1)) (fun _ hk => hk.2) (.int .i64 a3_2)) (fun _ hk => hk.2) (.int .u64 a3_3)) (fun _ hk => ⟨hk.1.1.1, ⟨hk.1.1.2.1, hk.1.1.2.2⟩⟩)⟩, ⟨by (with_reducible repeat (fail)); exact Kd.R_mono (Kd.R_far (p := ⟨aI, 3, none⟩) (Kd.R_far (p := ⟨aI, 2, none⟩) (Kd.R_far (p := ⟨aI, 1, none⟩) (Kd.R_far (p := ⟨aI, 0, none⟩) (Kd.R_types bH.o ar.o (by decide)) (fun _ hk => hk.2) (.int .i64 a3_0)) (fun _ hk => hk.2) (.int .i64 a3_1)) (fun _ hk => hk.2) (.int .i64 a3_2)) (fun _ hk => hk.2) (.int .u64 a3_3)) (fun _ hk => ⟨hk.1.1.1, hk.1.1.2⟩)⟩, ⟨by (with_reducible repeat (fail)); refine qDH ?_ bD.o _; (with_reducible repeat (fail)); refine qDH ?_ bD.o _; (with_reducible repeat (fail)); refine qDH ?_ bD.o _; (with_reducible repeat (fail)); refine qDH ?_ bD.o _; (with_reducible repeat (fail)); exact aA.o⟩, ⟨by (with_reducible repeat (fail)); refine qDH ?_ bE.o _; (with_reducible repeat (fail)); refine qDH ?_ bE.o _; (with_reducible repeat (fail)); refine qDH ?_ bE.o _; (with_reducible repeat (fail)); refine qDH ?_ bE.o _; (with_reducible repeat (fail)); exact aC.o⟩, ⟨by (with_reducible repeat (fail)); refine qDH ?_ bF.o _; (with_reducible repeat (fail)); refine qDH ?_ bF.o _; (with_reducible repeat (fail)); refine qDH ?_ bF.o _; (with_reducible repeat (fail)); refine qDH ?_ bF.o _; (with_reducible repeat (fail)); exact aG.o⟩, ⟨by (with_reducible repeat (fail)); refine qDH ?_ bJ.o _; (with_reducible repeat (fail)); refine qDH ?_ bJ.o _; (with_reducible repeat (fail)); refine qDH ?_ bJ.o _; (with_reducible repeat (fail)); refine qDH ?_ bJ.o _; (with_reducible repeat (fail)); exact aJ.o⟩, ⟨by (with_reducible repeat (fail)); refine qDH ?_ bG.o _; (with_reducible repeat (fail)); refine qDH ?_ bG.o _; (with_reducible repeat (fail)); refine qDH ?_ bG.o _; (with_reducible repeat (fail)); refine qDH ?_ bG.o _; (with_reducible repeat (fail)); exact aK.o⟩, ⟨by (with_reducible repeat (fail)); refine qAQ (cs := #[.int .i64 a3_0, .int .i64 a3_1, .int .i64 a3_2, .int .u64 0]) ?_ 3 _ rfl; (with_reducible repeat (fail)); refine qAQ (cs := #[.int .i64 a3_0, .int .i64 a3_1, .int .i64 0, .int .u64 0]) ?_ 2 _ rfl; (with_reducible repeat (fail)); refine qAQ (cs := #[.int .i64 a3_0, .int .i64 0, .int .i64 0, .int .u64 0]) ?_ 1 _ rfl; (with_reducible repeat (fail)); refine qAQ (cs := #[.int .i64 0, .int .i64 0, .int .i64 0, .int .u64 0]) ?_ 0 _ rfl; (with_reducible repeat (fail)); exact ar.o⟩, ⟨by repeat ((with_reducible first | exact HB.o | refine qAi ?_ cd.o))⟩⟩
   replace fm := Bool.eq_false_iff.mpr fm
   subst fm
   replace H : (if a2 < 0 then (foundrylaw14_CodeDead.j0 k a2 true l0_0 a0_1 l0_2 l0_3 aP au aR aV ao aW a3_0 a3_1 a3_2 a3_3) else (if a2 ≥ (aV.length : Int) then (foundrylaw14_CodeDead.j0 k a2 true l0_0 a0_1 l0_2 l0_3 aP au aR aV ao aW a3_0 a3_1 a3_2 a3_3) else ((qDJ.f a3_0 a3_1 a3_2 a3_3).bind fun bz => (foundrylaw14_CodeDead.j0 k a2 (!bz) l0_0 a0_1 l0_2 l0_3 aP au aR aV ao aW a3_0 a3_1 a3_2 a3_3)))) = some r := by rw [if_neg (show ¬ (false = true) by decide)] at H; exact H
   by_cases fI : a2 < 0
   ·rw [if_pos fI] at H
    replace fI := d1 fI
    have H' := am H
    clear H
    go_wp2
    go_meet
    case rel => exact ⟨_, (true), (by (rfl)), H', ⟨by (omega)⟩, ⟨by (with_reducible repeat (fail)); exact Kd.R_mono (Kd.R_far (p := ⟨aI, 3, none⟩) (Kd.R_far (p := ⟨aI, 2, none⟩) (Kd.R_far (p := ⟨aI, 1, none⟩) (Kd.R_far (p := ⟨aI, 0, none⟩) (Kd.R_types aN.o ar.o (by decide)) (fun _ hk => hk.2) (.int .i64 a3_0)) (fun _ hk => hk.2) (.int .i64 a3_1)) (fun _ hk => hk.2) (.int .i64 a3_2)) (fun _ hk => hk.2) (.int .u64 a3_3)) (fun _ hk => ⟨hk.1.1.1, hk.1.1.2⟩)⟩, ⟨by (with_reducible repeat (fail)); exact Kd.R_mono (Kd.R_far (p := ⟨aI, 3, none⟩) (Kd.R_far (p := ⟨aI, 2, none⟩) (Kd.R_far (p := ⟨aI, 1, none⟩) (Kd.R_far (p := ⟨aI, 0, none⟩) (Kd.R_types aO.o ar.o (by decide)) (fun _ hk => hk.2) (.int .i64 a3_0)) (fun _ hk => hk.2) (.int .i64 a3_1)) (fun _ hk => hk.2) (.int .i64 a3_2)) (fun _ hk => hk.2) (.int .u64 a3_3)) (fun _ hk => ⟨hk.1.1.1, hk.1.1.2⟩)⟩, ⟨by (with_reducible repeat (fail)); exact Kd.R_mono (Kd.R_far (p := ⟨aI, 3, none⟩) (Kd.R_far (p := ⟨aI, 2, none⟩) (Kd.R_far (p := ⟨aI, 1, none⟩) (Kd.R_far (p := ⟨aI, 0, none⟩) (Kd.R_mono aT.o (fun k_ hk => (⟨hk, hk.2⟩ : _ ∧ k_ ≠ aI))) (fun _ hk => hk.2) (.int .i64 a3_0)) (fun _ hk => hk.2) (.int .i64 a3_1)) (fun _ hk => hk.2) (.int .i64 a3_2)) (fun _ hk => hk.2) (.int .u64 a3_3)) (fun _ hk => hk.1.2)⟩, ⟨by (with_reducible repeat (fail)); exact Kd.S_mono (Kd.S_far (p := ⟨aI, 3, none⟩) (Kd.S_far (p := ⟨aI, 2, none⟩) (Kd.S_far (p := ⟨aI, 1, none⟩) (Kd.S_far (p := ⟨aI, 0, none⟩) (Kd.S_types bI.o ar.o (by decide)) (fun _ hk => hk.2) (.int .i64 a3_0)) (fun _ hk => hk.2) (.int .i64 a3_1)) (fun _ hk => hk.2) (.int .i64 a3_2)) (fun _ hk => hk.2) (.int .u64 a3_3)) (fun _ hk => ⟨hk.1.1.1, ⟨hk.1.1.2.1, hk.1.1.2.2⟩⟩)⟩, ⟨by (with_reducible repeat (fail)); exact Kd.R_mono (Kd.R_far (p := ⟨aI, 3, none⟩) (Kd.R_far (p := ⟨aI, 2, none⟩) (Kd.R_far (p := ⟨aI, 1, none⟩) (Kd.R_far (p := ⟨aI, 0, none⟩) (Kd.R_types bH.o ar.o (by decide)) (fun _ hk => hk.2) (.int .i64 a3_0)) (fun _ hk => hk.2) (.int .i64 a3_1)) (fun _ hk => hk.2) (.int .i64 a3_2)) (fun _ hk => hk.2) (.int .u64 a3_3)) (fun _ hk => ⟨hk.1.1.1, hk.1.1.2⟩)⟩, ⟨by (with_reducible repeat (fail)); refine qDH ?_ bD.o _; (with_reducible repeat (fail)); refine qDH ?_ bD.o _; (with_reducible repeat (fail)); refine qDH ?_ bD.o _; (with_reducible repeat (fail)); refine qDH ?_ bD.o _; (with_reducible repeat (fail)); exact aA.o⟩, ⟨by (with_reducible repeat (fail)); refine qDH ?_ bE.o _; (with_reducible repeat (fail)); refine qDH ?_ bE.o _; (with_reducible repeat (fail)); refine qDH ?_ bE.o _; (with_reducible repeat (fail)); refine qDH ?_ bE.o _; (with_reducible repeat (fail)); exact aC.o⟩, ⟨by (with_reducible repeat (fail)); refine qDH ?_ bF.o _; (with_reducible repeat (fail)); refine qDH ?_ bF.o _; (with_reducible repeat (fail)); refine qDH ?_ bF.o _; (with_reducible repeat (fail)); refine qDH ?_ bF.o _; (with_reducible repeat (fail)); exact aG.o⟩, ⟨by (with_reducible repeat (fail)); refine qDH ?_ bJ.o _; (with_reducible repeat (fail)); refine qDH ?_ bJ.o _; (with_reducible repeat (fail)); refine qDH ?_ bJ.o _; (with_reducible repeat (fail)); refine qDH ?_ bJ.o _; (with_reducible repeat (fail)); exact aJ.o⟩, ⟨by (with_reducible repeat (fail)); refine qDH ?_ bG.o _; (with_reducible repeat (fail)); refine qDH ?_ bG.o _; (with_reducible repeat (fail)); refine qDH ?_ bG.o _; (with_reducible repeat (fail)); refine qDH ?_ bG.o _; (with_reducible repeat (fail)); exact aK.o⟩, ⟨by (with_reducible repeat (fail)); refine qAQ (cs := #[.int .i64 a3_0, .int .i64 a3_1, .int .i64 a3_2, .int .u64 0]) ?_ 3 _ rfl; (with_reducible repeat (fail)); refine qAQ (cs := #[.int .i64 a3_0, .int .i64 a3_1, .int .i64 0, .int .u64 0]) ?_ 2 _ rfl; (with_reducible repeat (fail)); refine qAQ (cs := #[.int .i64 a3_0, .int .i64 0, .int .i64 0, .int .u64 0]) ?_ 1 _ rfl; (with_reducible repeat (fail)); refine qAQ (cs := #[.int .i64 0, .int .i64 0, .int .i64 0, .int .u64 0]) ?_ 0 _ rfl; (with_reducible repeat (fail)); exact ar.o⟩, ⟨by repeat ((with_reducible first | exact HB.o | refine qAi ?_ cd.o))⟩⟩
   rw [if_neg fI] at H
   replace fI := d0 fI
   by_cases fJ : a2 ≥ (aV.length : Int)
   ·rw [if_pos fJ] at H
    replace fJ := d1 fJ
    have H' := am H
    clear H
    have gf := c0.o
    obtain ⟨-, -, -, fq⟩ := c4_ gO aJ.o
    go_wp2
    go_meet
    case rel => exact ⟨_, (true), (by (rfl)), H', ⟨by (omega)⟩, ⟨by (with_reducible repeat (fail)); exact Kd.R_mono (Kd.R_far (p := ⟨aI, 3, none⟩) (Kd.R_far (p := ⟨aI, 2, none⟩) (Kd.R_far (p := ⟨aI, 1, none⟩) (Kd.R_far (p := ⟨aI, 0, none⟩) (Kd.R_types aN.o ar.o (by decide)) (fun _ hk => hk.2) (.int .i64 a3_0)) (fun _ hk => hk.2) (.int .i64 a3_1)) (fun _ hk => hk.2) (.int .i64 a3_2)) (fun _ hk => hk.2) (.int .u64 a3_3)) (fun _ hk => ⟨hk.1.1.1, hk.1.1.2⟩)⟩, ⟨by (with_reducible repeat (fail)); exact Kd.R_mono (Kd.R_far (p := ⟨aI, 3, none⟩) (Kd.R_far (p := ⟨aI, 2, none⟩) (Kd.R_far (p := ⟨aI, 1, none⟩) (Kd.R_far (p := ⟨aI, 0, none⟩) (Kd.R_types aO.o ar.o (by decide)) (fun _ hk => hk.2) (.int .i64 a3_0)) (fun _ hk => hk.2) (.int .i64 a3_1)) (fun _ hk => hk.2) (.int .i64 a3_2)) (fun _ hk => hk.2) (.int .u64 a3_3)) (fun _ hk => ⟨hk.1.1.1, hk.1.1.2⟩)⟩, ⟨by (with_reducible repeat (fail)); exact Kd.R_mono (Kd.R_far (p := ⟨aI, 3, none⟩) (Kd.R_far (p := ⟨aI, 2, none⟩) (Kd.R_far (p := ⟨aI, 1, none⟩) (Kd.R_far (p := ⟨aI, 0, none⟩) (Kd.R_mono aT.o (fun k_ hk => (⟨hk, hk.2⟩ : _ ∧ k_ ≠ aI))) (fun _ hk => hk.2) (.int .i64 a3_0)) (fun _ hk => hk.2) (.int .i64 a3_1)) (fun _ hk => hk.2) (.int .i64 a3_2)) (fun _ hk => hk.2) (.int .u64 a3_3)) (fun _ hk => hk.1.2)⟩, ⟨by (with_reducible repeat (fail)); exact Kd.S_mono (Kd.S_far (p := ⟨aI, 3, none⟩) (Kd.S_far (p := ⟨aI, 2, none⟩) (Kd.S_far (p := ⟨aI, 1, none⟩) (Kd.S_far (p := ⟨aI, 0, none⟩) (Kd.S_types bI.o ar.o (by decide)) (fun _ hk => hk.2) (.int .i64 a3_0)) (fun _ hk => hk.2) (.int .i64 a3_1)) (fun _ hk => hk.2) (.int .i64 a3_2)) (fun _ hk => hk.2) (.int .u64 a3_3)) (fun _ hk => ⟨hk.1.1.1, ⟨hk.1.1.2.1, hk.1.1.2.2⟩⟩)⟩, ⟨by (with_reducible repeat (fail)); exact Kd.R_mono (Kd.R_far (p := ⟨aI, 3, none⟩) (Kd.R_far (p := ⟨aI, 2, none⟩) (Kd.R_far (p := ⟨aI, 1, none⟩) (Kd.R_far (p := ⟨aI, 0, none⟩) (Kd.R_types bH.o ar.o (by decide)) (fun _ hk => hk.2) (.int .i64 a3_0)) (fun _ hk => hk.2) (.int .i64 a3_1)) (fun _ hk => hk.2) (.int .i64 a3_2)) (fun _ hk => hk.2) (.int .u64 a3_3)) (fun _ hk => ⟨hk.1.1.1, hk.1.1.2⟩)⟩, ⟨by (with_reducible repeat (fail)); refine qDH ?_ bD.o _; (with_reducible repeat (fail)); refine qDH ?_ bD.o _; (with_reducible repeat (fail)); refine qDH ?_ bD.o _; (with_reducible repeat (fail)); refine qDH ?_ bD.o _; (with_reducible repeat (fail)); exact aA.o⟩, ⟨by (with_reducible repeat (fail)); refine qDH ?_ bE.o _; (with_reducible repeat (fail)); refine qDH ?_ bE.o _; (with_reducible repeat (fail)); refine qDH ?_ bE.o _; (with_reducible repeat (fail)); refine qDH ?_ bE.o _; (with_reducible repeat (fail)); exact aC.o⟩, ⟨by (with_reducible repeat (fail)); refine qDH ?_ bF.o _; (with_reducible repeat (fail)); refine qDH ?_ bF.o _; (with_reducible repeat (fail)); refine qDH ?_ bF.o _; (with_reducible repeat (fail)); refine qDH ?_ bF.o _; (with_reducible repeat (fail)); exact aG.o⟩, ⟨by (with_reducible repeat (fail)); refine qDH ?_ bJ.o _; (with_reducible repeat (fail)); refine qDH ?_ bJ.o _; (with_reducible repeat (fail)); refine qDH ?_ bJ.o _; (with_reducible repeat (fail)); refine qDH ?_ bJ.o _; (with_reducible repeat (fail)); exact aJ.o⟩, ⟨by (with_reducible repeat (fail)); refine qDH ?_ bG.o _; (with_reducible repeat (fail)); refine qDH ?_ bG.o _; (with_reducible repeat (fail)); refine qDH ?_ bG.o _; (with_reducible repeat (fail)); refine qDH ?_ bG.o _; (with_reducible repeat (fail)); exact aK.o⟩, ⟨by (with_reducible repeat (fail)); refine qAQ (cs := #[.int .i64 a3_0, .int .i64 a3_1, .int .i64 a3_2, .int .u64 0]) ?_ 3 _ rfl; (with_reducible repeat (fail)); refine qAQ (cs := #[.int .i64 a3_0, .int .i64 a3_1, .int .i64 0, .int .u64 0]) ?_ 2 _ rfl; (with_reducible repeat (fail)); refine qAQ (cs := #[.int .i64 a3_0, .int .i64 0, .int .i64 0, .int .u64 0]) ?_ 1 _ rfl; (with_reducible repeat (fail)); refine qAQ (cs := #[.int .i64 0, .int .i64 0, .int .i64 0, .int .u64 0]) ?_ 0 _ rfl; (with_reducible repeat (fail)); exact ar.o⟩, ⟨by repeat ((with_reducible first | exact HB.o | refine qAi ?_ cd.o))⟩⟩
   rw [if_neg fJ] at H
   replace fJ := d0 fJ
   replace H := bm H
   obtain ⟨bz, fL, H⟩ := H
   replace H : (foundrylaw14_CodeDead.j0 k a2 (!bz) l0_0 a0_1 l0_2 l0_3 aP au aR aV ao aW a3_0 a3_1 a3_2 a3_3) = some r := H
   have gq := am fL
   clear fL
   have H' := am H
   clear H
   have gg := c0.o
   obtain ⟨-, -, -, fs⟩ := c4_ gO aJ.o
   have g5 := cx.o
   have gh := bD.o
   have g6 := cy.o
   have gi := bE.o
   have g7 := cz.o
   have gj := bF.o
   have g8 := dA.o
   have gl := bG.o
   go_wp2_with ((go_at_call 18; (with_reducible refine (qDJ.calls a3_0 a3_1 a3_2 a3_3 bz _ gq.o).mono ?_); rintro e hN ⟨rfl, hb⟩; have n0_ := am (Kd.R_below (by (with_reducible repeat (fail)); exact (Kd.R_mono (Kd.R_far (p := ⟨aI, 3, none⟩) (Kd.R_far (p := ⟨aI, 2, none⟩) (Kd.R_far (p := ⟨aI, 1, none⟩) (Kd.R_far (p := ⟨aI, 0, none⟩) (Kd.R_types aN.o ar.o (by decide)) (fun _ hk => hk.2) (.int .i64 a3_0)) (fun _ hk => hk.2) (.int .i64 a3_1)) (fun _ hk => hk.2) (.int .i64 a3_2)) (fun _ hk => hk.2) (.int .u64 a3_3)) (fun _ h_ => h_.1))) hb); have n1_ := am (Kd.R_below (by (with_reducible repeat (fail)); exact (Kd.R_mono (Kd.R_far (p := ⟨aI, 3, none⟩) (Kd.R_far (p := ⟨aI, 2, none⟩) (Kd.R_far (p := ⟨aI, 1, none⟩) (Kd.R_far (p := ⟨aI, 0, none⟩) (Kd.R_types aO.o ar.o (by decide)) (fun _ hk => hk.2) (.int .i64 a3_0)) (fun _ hk => hk.2) (.int .i64 a3_1)) (fun _ hk => hk.2) (.int .i64 a3_2)) (fun _ hk => hk.2) (.int .u64 a3_3)) (fun _ h_ => h_.1))) hb); have n2_ := am (Kd.R_below (by (with_reducible repeat (fail)); exact (Kd.R_mono (Kd.R_far (p := ⟨aI, 3, none⟩) (Kd.R_far (p := ⟨aI, 2, none⟩) (Kd.R_far (p := ⟨aI, 1, none⟩) (Kd.R_far (p := ⟨aI, 0, none⟩) (Kd.R_mono aT.o (fun k_ hk => (⟨hk, hk.2⟩ : _ ∧ k_ ≠ aI))) (fun _ hk => hk.2) (.int .i64 a3_0)) (fun _ hk => hk.2) (.int .i64 a3_1)) (fun _ hk => hk.2) (.int .i64 a3_2)) (fun _ hk => hk.2) (.int .u64 a3_3)) (fun _ h_ => h_.1))) hb); have n3_ := am (Kd.S_below (by (with_reducible repeat (fail)); exact (Kd.S_mono (Kd.S_far (p := ⟨aI, 3, none⟩) (Kd.S_far (p := ⟨aI, 2, none⟩) (Kd.S_far (p := ⟨aI, 1, none⟩) (Kd.S_far (p := ⟨aI, 0, none⟩) (Kd.S_types bI.o ar.o (by decide)) (fun _ hk => hk.2) (.int .i64 a3_0)) (fun _ hk => hk.2) (.int .i64 a3_1)) (fun _ hk => hk.2) (.int .i64 a3_2)) (fun _ hk => hk.2) (.int .u64 a3_3)) (fun _ h_ => h_.1))) hb); have n4_ := am (Kd.R_below (by (with_reducible repeat (fail)); exact (Kd.R_mono (Kd.R_far (p := ⟨aI, 3, none⟩) (Kd.R_far (p := ⟨aI, 2, none⟩) (Kd.R_far (p := ⟨aI, 1, none⟩) (Kd.R_far (p := ⟨aI, 0, none⟩) (Kd.R_types bH.o ar.o (by decide)) (fun _ hk => hk.2) (.int .i64 a3_0)) (fun _ hk => hk.2) (.int .i64 a3_1)) (fun _ hk => hk.2) (.int .i64 a3_2)) (fun _ hk => hk.2) (.int .u64 a3_3)) (fun _ h_ => h_.1))) hb); have n5_ := am (Kd.R_below (by (with_reducible repeat (fail)); exact (Kd.R_mono (Kd.R_far (p := ⟨aI, 3, none⟩) (Kd.R_far (p := ⟨aI, 2, none⟩) (Kd.R_far (p := ⟨aI, 1, none⟩) (Kd.R_far (p := ⟨aI, 0, none⟩) (Kd.R_types ch.o ar.o (by decide)) (fun _ hk => hk.2) (.int .i64 a3_0)) (fun _ hk => hk.2) (.int .i64 a3_1)) (fun _ hk => hk.2) (.int .i64 a3_2)) (fun _ hk => hk.2) (.int .u64 a3_3)) (fun _ h_ => h_.1))) hb); have n6_ := am (qAk (g := aD) (o := .cells #[.slice aa l0_0.length ad, .int .i64 a0_1, .slice ab l0_2.length ae, .slice ac l0_3.length af] 27 (0, 0)) (by (with_reducible repeat (fail)); refine qDH ?_ bD.o _; (with_reducible repeat (fail)); refine qDH ?_ bD.o _; (with_reducible repeat (fail)); refine qDH ?_ bD.o _; (with_reducible repeat (fail)); refine qDH ?_ bD.o _; (with_reducible repeat (fail)); exact aA.o) hb); have n7_ := am (qAk (g := aF) (o := .cells #[.slice aj l1_0.length al, .slice ak l1_1.length an] 30 (0, 0)) (by (with_reducible repeat (fail)); refine qDH ?_ bE.o _; (with_reducible repeat (fail)); refine qDH ?_ bE.o _; (with_reducible repeat (fail)); refine qDH ?_ bE.o _; (with_reducible repeat (fail)); refine qDH ?_ bE.o _; (with_reducible repeat (fail)); exact aC.o) hb); have n8_ := am (qAk (g := aH) (o := .cells #[.int .i64 a3_0, .int .i64 a3_1, .int .i64 a3_2, .int .u64 a3_3] 50 (0, 0)) (by (with_reducible repeat (fail)); refine qDH ?_ bF.o _; (with_reducible repeat (fail)); refine qDH ?_ bF.o _; (with_reducible repeat (fail)); refine qDH ?_ bF.o _; (with_reducible repeat (fail)); refine qDH ?_ bF.o _; (with_reducible repeat (fail)); exact aG.o) hb); have n9_ := am (qAk (g := aB) (o := .cells #[.slice bN aP.length bM, .int .i64 au, .slice bT aR.length bR, .slice b5 aV.length b4] 37 (0, 0)) (by (with_reducible repeat (fail)); refine qDH ?_ bJ.o _; (with_reducible repeat (fail)); refine qDH ?_ bJ.o _; (with_reducible repeat (fail)); refine qDH ?_ bJ.o _; (with_reducible repeat (fail)); refine qDH ?_ bJ.o _; (with_reducible repeat (fail)); exact aJ.o) hb); have n10_ := am (qAk (g := aE) (o := .cells #[.slice bb ao.length b7, .slice bQ aW.length bO] 41 (0, 0)) (by (with_reducible repeat (fail)); refine qDH ?_ bG.o _; (with_reducible repeat (fail)); refine qDH ?_ bG.o _; (with_reducible repeat (fail)); refine qDH ?_ bG.o _; (with_reducible repeat (fail)); refine qDH ?_ bG.o _; (with_reducible repeat (fail)); exact aK.o) hb); have n11_ := am (qAk (g := aI) (o := .cells #[.int .i64 a3_0, .int .i64 a3_1, .int .i64 a3_2, .int .u64 a3_3] 51 (0, 0)) (by (with_reducible repeat (fail)); refine qAQ (cs := #[.int .i64 a3_0, .int .i64 a3_1, .int .i64 a3_2, .int .u64 0]) ?_ 3 _ rfl; (with_reducible repeat (fail)); refine qAQ (cs := #[.int .i64 a3_0, .int .i64 a3_1, .int .i64 0, .int .u64 0]) ?_ 2 _ rfl; (with_reducible repeat (fail)); refine qAQ (cs := #[.int .i64 a3_0, .int .i64 0, .int .i64 0, .int .u64 0]) ?_ 1 _ rfl; (with_reducible repeat (fail)); refine qAQ (cs := #[.int .i64 0, .int .i64 0, .int .i64 0, .int .u64 0]) ?_ 0 _ rfl; (with_reducible repeat (fail)); exact ar.o) hb); have n12_ := am (qAq (by repeat ((with_reducible first | exact HB.o | refine qAi ?_ cd.o))) hb); clear aN; clear aO; clear aT; clear bI; clear bH; clear ch; clear aA; clear aC; clear aG; clear aJ; clear aK; clear ar; clear HB; have aN := n0_; have aO := n1_; have aT := n2_; have bI := n3_; have bH := n4_; have aA := n6_; have aC := n7_; have aG := n8_; have aJ := n9_; have aK := n10_; have ar := n11_; have HB := n12_; clear n0_ n1_ n2_ n3_ n4_ n5_ n6_ n7_ n8_ n9_ n10_ n11_ n12_; (skip); (skip); (skip)))
   go_meet
   case rel => exact ⟨_, (!bz), (by (rfl)), H', ⟨by (omega)⟩, ⟨by (with_reducible repeat (fail)); exact Kd.R_mono aN.o (fun _ hk => ⟨hk.1.1, hk.1.2⟩)⟩, ⟨by (with_reducible repeat (fail)); exact Kd.R_mono aO.o (fun _ hk => ⟨hk.1.1, hk.1.2⟩)⟩, ⟨by (with_reducible repeat (fail)); exact Kd.R_mono aT.o (fun _ hk => hk.2)⟩, ⟨by (with_reducible repeat (fail)); exact Kd.S_mono bI.o (fun _ hk => ⟨hk.1.1, ⟨hk.1.2.1, hk.1.2.2⟩⟩)⟩, ⟨by (with_reducible repeat (fail)); exact Kd.R_mono bH.o (fun _ hk => ⟨hk.1.1, hk.1.2⟩)⟩, ⟨by (with_reducible repeat (fail)); exact aA.o⟩, ⟨by (with_reducible repeat (fail)); exact aC.o⟩, ⟨by (with_reducible repeat (fail)); exact aG.o⟩, ⟨by (with_reducible repeat (fail)); exact aJ.o⟩, ⟨by (with_reducible repeat (fail)); exact aK.o⟩, ⟨by (with_reducible repeat (fail)); exact ar.o⟩, ⟨by repeat ((with_reducible (exact HB.o)))⟩⟩
  case rest =>
   clear ew
   skip
   skip
   skip
   skip
   skip
   skip
   skip
   skip
   skip
   skip
   skip
   skip
   skip
   skip
   skip
   skip
   skip
   skip
   skip
   skip
   skip
   skip
   skip
   skip
   skip
   skip
   skip
   skip
   skip
   skip
   skip
   skip
   skip
   skip
   skip
   skip
   skip
   skip
   skip
   skip
   skip
   skip
   skip
   skip
   skip
   skip
   skip
   skip
   skip
   skip
   skip
   skip
   skip
   skip
   skip
   skip
   skip
   skip
   skip
   skip
   skip
   skip
   skip
   skip
   skip
   skip
   skip
   skip
   skip
   skip
   skip
   obtain ⟨kq, ca, rfl, HA, dt, aX, aY, ah, aZ, aQ, aA, aC, aG, aJ, aK, ar, HB⟩ := hcut
   cases kq with
   | zero => exact absurd HA.o (by simp [foundrylaw14_CodeDead.j0])
   | succ cZ =>
    have H := HA.o
    clear HA
    simp only [foundrylaw14_CodeDead.j0] at H
    by_cases fn : ca = true
    ·subst fn
     replace H : (some true) = some r := by rw [if_pos rfl] at H; exact H
     obtain rfl := Option.some.inj H
     go_wp2
     go_ret
     exact ⟨by (rfl), by repeat ((with_reducible (exact HB.o)))⟩
    replace fn := Bool.eq_false_iff.mpr fn
    subst fn
    replace H : ((qAG.f cZ l0_0 a0_1 l0_2 l0_3).bind fun bi => (if 0 ≤ a2 then (if a2 < (bi.2.2.2.length : Int) then ((some (bi.2.2.2.set (a2 : Int).toNat (⟨a3_0, a3_1, (⟨a3_2, a3_3⟩ : S48)⟩ : S51) : List (S51))).bind fun ba => ((qAN.f bi.1 bi.2.1 bi.2.2.1 ba ao aW).bind fun cK => (if cK.2 = 0 then (foundrylaw14_CodeDead.j1 cZ (cK.1 != 0) aP au aR aV ao aW bi.1 bi.2.1 bi.2.2.1 ba) else (foundrylaw14_CodeDead.j1 cZ true aP au aR aV ao aW bi.1 bi.2.1 bi.2.2.1 ba)))) else (none)) else (none))) = some r := by rw [if_neg (show ¬ (false = true) by decide)] at H; exact H
    replace H := bm H
    obtain ⟨⟨bL, b9, bP, b3⟩, fM, H⟩ := H
    replace H : (if 0 ≤ a2 then (if a2 < (b3.length : Int) then ((some (b3.set (a2 : Int).toNat (⟨a3_0, a3_1, (⟨a3_2, a3_3⟩ : S48)⟩ : S51) : List (S51))).bind fun ba => ((qAN.f bL b9 bP ba ao aW).bind fun cK => (if cK.2 = 0 then (foundrylaw14_CodeDead.j1 cZ (cK.1 != 0) aP au aR aV ao aW bL b9 bP ba) else (foundrylaw14_CodeDead.j1 cZ true aP au aR aV ao aW bL b9 bP ba)))) else (none)) else (none)) = some r := H
    have fl := am fM
    clear fM
    obtain ⟨fo, H⟩ := gd H
    replace fo := d1 fo
    obtain ⟨fp, H⟩ := gd H
    replace fp := d1 fp
    obtain ⟨ba, dm⟩ : ∃ y_ : List (S51), y_ = (b3.set (a2 : Int).toNat (⟨a3_0, a3_1, (⟨a3_2, a3_3⟩ : S48)⟩ : S51)) := ⟨_, rfl⟩
    replace H : ((qAN.f bL b9 bP ba ao aW).bind fun cK => (if cK.2 = 0 then (foundrylaw14_CodeDead.j1 cZ (cK.1 != 0) aP au aR aV ao aW bL b9 bP ba) else (foundrylaw14_CodeDead.j1 cZ true aP au aR aV ao aW bL b9 bP ba))) = some r := by (have H2_ := (Option.bind_some _ _).symm.trans H; rw [dm]; with_reducible exact H2_)
    have fQ := am dm
    clear dm
    replace H := bm H
    obtain ⟨⟨fG, dn⟩, fN, H⟩ := H
    replace H : (if dn = 0 then (foundrylaw14_CodeDead.j1 cZ (fG != 0) aP au aR aV ao aW bL b9 bP ba) else (foundrylaw14_CodeDead.j1 cZ true aP au aR aV ao aW bL b9 bP ba)) = some r := H
    have gr := am fN
    clear fN
    have ex := am H
    clear H
    obtain ⟨eR, eS, eT, eU⟩ := c4_ wc aA.o
    obtain ⟨ef, eg, eh, ei⟩ := z4_ aA.o
    go_upto_region 12 with (first | ((with_reducible refine qA7 (f := 14) rfl ?_); refine gL 76 Tryz.func14 #[.agg #[.slice aa l0_0.length ad, .int .i64 a0_1, .slice ab l0_2.length ae, .slice ac l0_3.length af]] ?_; (with_reducible refine (qAG.calls cZ _ _ l0_0 a0_1 _ _ l0_2 _ _ l0_3 bL b9 bP b3 _ ?side1 ?side2 ?side3 ?side4 ?side5 ?side6 fl.o).mono ?_); (case side1 => repeat ((exact (Kd.C_below ci.o HB.o)))); (case side2 => exact ce.o); (case side3 => repeat ((exact (Kd.C_below cj.o HB.o)))); (case side4 => exact cf.o); (case side5 => repeat ((exact (Kd.C_below ck.o HB.o)))); (case side6 => exact cg.o); rintro e hP ⟨gw, gx, gy, rfl, bo, cH, cm, hb⟩; refine ⟨_, rfl, ?_⟩; have n0_ := am (Kd.R_mono (Kd.R_told (Kd.R_told (Kd.R_old (by (with_reducible repeat (fail)); exact aX.o) hb) (Kd.R_base bo)) (Kd.R_base cH)) (fun _ h_ => h_.1)); have n1_ := am (Kd.R_mono (Kd.R_told (Kd.R_told (Kd.R_old (by (with_reducible repeat (fail)); exact aY.o) hb) (Kd.R_base bo)) (Kd.R_base cH)) (fun _ h_ => h_.1)); have n2_ := am (Kd.R_elder' (by (with_reducible repeat (fail)); exact ah.o) (Kd.R_base cm) hb); have n3_ := am (Kd.S_mono (Kd.S_told (Kd.S_told (Kd.S_old (by (with_reducible repeat (fail)); exact aZ.o) hb) (Kd.R_base bo)) (Kd.R_base cH)) (fun _ h_ => h_.1)); have n4_ := am (Kd.R_mono (Kd.R_told (Kd.R_told (Kd.R_old (by (with_reducible repeat (fail)); exact aQ.o) hb) (Kd.R_base bo)) (Kd.R_base cH)) (fun _ h_ => h_.1)); have n5_ := am (Kd.R_lower (Kd.R_new' (Kd.R_new' (Kd.R_new' bo (Kd.R_lt (by (with_reducible repeat (fail)); exact aX.o))) (Kd.R_lt (by (with_reducible repeat (fail)); exact aY.o))) (Kd.R_lt (by (with_reducible repeat (fail)); exact aQ.o))) (qAm (by repeat ((with_reducible (exact HB.o)))))); have n6_ := am (Kd.R_lower (Kd.R_new' (Kd.R_new' (Kd.R_new' cH (Kd.R_lt (by (with_reducible repeat (fail)); exact aX.o))) (Kd.R_lt (by (with_reducible repeat (fail)); exact aY.o))) (Kd.R_lt (by (with_reducible repeat (fail)); exact aQ.o))) (qAm (by repeat ((with_reducible (exact HB.o)))))); have n7_ := am (Kd.R_lower (Kd.R_newB (Kd.R_new' cm (Kd.R_lt (by (with_reducible repeat (fail)); exact ah.o))) (g := aI) (o := .cells #[.int .i64 a3_0, .int .i64 a3_1, .int .i64 a3_2, .int .u64 a3_3] 51 (0, 0)) (by (with_reducible repeat (fail)); exact ar.o)) (qAm (by repeat ((with_reducible (exact HB.o)))))); have n8_ := am (qAk (g := aD) (o := .cells #[.slice aa l0_0.length ad, .int .i64 a0_1, .slice ab l0_2.length ae, .slice ac l0_3.length af] 27 (0, 0)) (by (with_reducible repeat (fail)); exact aA.o) hb); have n9_ := am (qAk (g := aF) (o := .cells #[.slice aj l1_0.length al, .slice ak l1_1.length an] 30 (0, 0)) (by (with_reducible repeat (fail)); exact aC.o) hb); have n10_ := am (qAk (g := aH) (o := .cells #[.int .i64 a3_0, .int .i64 a3_1, .int .i64 a3_2, .int .u64 a3_3] 50 (0, 0)) (by (with_reducible repeat (fail)); exact aG.o) hb); have n11_ := am (qAk (g := aB) (o := .cells #[.slice bN aP.length bM, .int .i64 au, .slice bT aR.length bR, .slice b5 aV.length b4] 37 (0, 0)) (by (with_reducible repeat (fail)); exact aJ.o) hb); have n12_ := am (qAk (g := aE) (o := .cells #[.slice bb ao.length b7, .slice bQ aW.length bO] 41 (0, 0)) (by (with_reducible repeat (fail)); exact aK.o) hb); have n13_ := am (qAk (g := aI) (o := .cells #[.int .i64 a3_0, .int .i64 a3_1, .int .i64 a3_2, .int .u64 a3_3] 51 (0, 0)) (by (with_reducible repeat (fail)); exact ar.o) hb); have n14_ := am (qAq (by repeat ((with_reducible (exact HB.o)))) hb); clear aX; clear aY; clear ah; clear aZ; clear aQ; clear aA; clear aC; clear aG; clear aJ; clear aK; clear ar; clear HB; have aX := n0_; have aY := n1_; have ah := n2_; have aZ := n3_; have aQ := n4_; have bp := n5_; have bq := n6_; have bW := n7_; have aA := n8_; have aC := n9_; have aG := n10_; have aJ := n11_; have aK := n12_; have ar := n13_; have HB := n14_; clear n0_ n1_ n2_ n3_ n4_ n5_ n6_ n7_ n8_ n9_ n10_ n11_ n12_ n13_ n14_; (skip); (skip); (skip)) | ((with_reducible refine qAV (N := 17) rfl ?_); (try (refine qBw (by rfl) ?_; dsimp only)); refine bx 17 #[.slice none 0 0, .int .i64 0, .slice none 0 0, .slice none 0 0] 37 ?_; intro ay hg go hbox hb; have n0_ := am (Kd.R_below (by (with_reducible repeat (fail)); exact aX.o) hb); have n1_ := am (Kd.R_below (by (with_reducible repeat (fail)); exact aY.o) hb); have n2_ := am (Kd.R_below (by (with_reducible repeat (fail)); exact ah.o) hb); have n3_ := am (Kd.S_below (by (with_reducible repeat (fail)); exact aZ.o) hb); have n4_ := am (Kd.R_below (by (with_reducible repeat (fail)); exact aQ.o) hb); have n5_ := am (Kd.R_below (by (with_reducible repeat (fail)); exact bp.o) hb); have n6_ := am (Kd.R_below (by (with_reducible repeat (fail)); exact bq.o) hb); have n7_ := am (Kd.R_below (by (with_reducible repeat (fail)); exact bW.o) hb); have n8_ := am (qAk (g := aD) (o := .cells #[.slice aa l0_0.length ad, .int .i64 a0_1, .slice ab l0_2.length ae, .slice ac l0_3.length af] 27 (0, 0)) (by (with_reducible repeat (fail)); exact aA.o) hb); have n9_ := am (qAk (g := aF) (o := .cells #[.slice aj l1_0.length al, .slice ak l1_1.length an] 30 (0, 0)) (by (with_reducible repeat (fail)); exact aC.o) hb); have n10_ := am (qAk (g := aH) (o := .cells #[.int .i64 a3_0, .int .i64 a3_1, .int .i64 a3_2, .int .u64 a3_3] 50 (0, 0)) (by (with_reducible repeat (fail)); exact aG.o) hb); have n11_ := am (qAk (g := aB) (o := .cells #[.slice bN aP.length bM, .int .i64 au, .slice bT aR.length bR, .slice b5 aV.length b4] 37 (0, 0)) (by (with_reducible repeat (fail)); exact aJ.o) hb); have n12_ := am (qAk (g := aE) (o := .cells #[.slice bb ao.length b7, .slice bQ aW.length bO] 41 (0, 0)) (by (with_reducible repeat (fail)); exact aK.o) hb); have n13_ := am (qAk (g := aI) (o := .cells #[.int .i64 a3_0, .int .i64 a3_1, .int .i64 a3_2, .int .u64 a3_3] 51 (0, 0)) (by (with_reducible repeat (fail)); exact ar.o) hb); have n14_ := am (qAq (by repeat ((with_reducible (exact HB.o)))) hb); have n15_ := am (hbox); have n16_ := am ((by rw [hg]; exact (qAm (by repeat ((with_reducible (exact HB.o))))) : w.heap.size ≤ ay)); have n17_ := am ((by rw [hg]; exact (qAm (by repeat ((with_reducible (exact HB.o))))) : w.heap.size ≤ ay)); have n18_ := am ((by rw [hg]; exact Nat.ne_of_lt (qAZ (g := aD) (o := .cells #[.slice aa l0_0.length ad, .int .i64 a0_1, .slice ab l0_2.length ae, .slice ac l0_3.length af] 27 (0, 0)) (by (with_reducible repeat (fail)); exact aA.o)) : aD ≠ ay)); have n19_ := am ((by rw [hg]; exact Nat.ne_of_gt (qAZ (g := aD) (o := .cells #[.slice aa l0_0.length ad, .int .i64 a0_1, .slice ab l0_2.length ae, .slice ac l0_3.length af] 27 (0, 0)) (by (with_reducible repeat (fail)); exact aA.o)) : ay ≠ aD)); have n20_ := am ((by rw [hg]; exact Nat.ne_of_lt (qAZ (g := aF) (o := .cells #[.slice aj l1_0.length al, .slice ak l1_1.length an] 30 (0, 0)) (by (with_reducible repeat (fail)); exact aC.o)) : aF ≠ ay)); have n21_ := am ((by rw [hg]; exact Nat.ne_of_gt (qAZ (g := aF) (o := .cells #[.slice aj l1_0.length al, .slice ak l1_1.length an] 30 (0, 0)) (by (with_reducible repeat (fail)); exact aC.o)) : ay ≠ aF)); have n22_ := am ((by rw [hg]; exact Nat.ne_of_lt (qAZ (g := aH) (o := .cells #[.int .i64 a3_0, .int .i64 a3_1, .int .i64 a3_2, .int .u64 a3_3] 50 (0, 0)) (by (with_reducible repeat (fail)); exact aG.o)) : aH ≠ ay)); have n23_ := am ((by rw [hg]; exact Nat.ne_of_gt (qAZ (g := aH) (o := .cells #[.int .i64 a3_0, .int .i64 a3_1, .int .i64 a3_2, .int .u64 a3_3] 50 (0, 0)) (by (with_reducible repeat (fail)); exact aG.o)) : ay ≠ aH)); have n24_ := am ((by rw [hg]; exact Nat.ne_of_lt (qAZ (g := aB) (o := .cells #[.slice bN aP.length bM, .int .i64 au, .slice bT aR.length bR, .slice b5 aV.length b4] 37 (0, 0)) (by (with_reducible repeat (fail)); exact aJ.o)) : aB ≠ ay)); have n25_ := am ((by rw [hg]; exact Nat.ne_of_gt (qAZ (g := aB) (o := .cells #[.slice bN aP.length bM, .int .i64 au, .slice bT aR.length bR, .slice b5 aV.length b4] 37 (0, 0)) (by (with_reducible repeat (fail)); exact aJ.o)) : ay ≠ aB)); have n26_ := am ((by rw [hg]; exact Nat.ne_of_lt (qAZ (g := aE) (o := .cells #[.slice bb ao.length b7, .slice bQ aW.length bO] 41 (0, 0)) (by (with_reducible repeat (fail)); exact aK.o)) : aE ≠ ay)); have n27_ := am ((by rw [hg]; exact Nat.ne_of_gt (qAZ (g := aE) (o := .cells #[.slice bb ao.length b7, .slice bQ aW.length bO] 41 (0, 0)) (by (with_reducible repeat (fail)); exact aK.o)) : ay ≠ aE)); have n28_ := am ((by rw [hg]; exact Nat.ne_of_lt (qAZ (g := aI) (o := .cells #[.int .i64 a3_0, .int .i64 a3_1, .int .i64 a3_2, .int .u64 a3_3] 51 (0, 0)) (by (with_reducible repeat (fail)); exact ar.o)) : aI ≠ ay)); have n29_ := am ((by rw [hg]; exact Nat.ne_of_gt (qAZ (g := aI) (o := .cells #[.int .i64 a3_0, .int .i64 a3_1, .int .i64 a3_2, .int .u64 a3_3] 51 (0, 0)) (by (with_reducible repeat (fail)); exact ar.o)) : ay ≠ aI)); clear aX; clear aY; clear ah; clear aZ; clear aQ; clear bp; clear bq; clear bW; clear aA; clear aC; clear aG; clear aJ; clear aK; clear ar; clear HB; have aX := n0_; have aY := n1_; have ah := n2_; have aZ := n3_; have aQ := n4_; have bp := n5_; have bq := n6_; have bW := n7_; have aA := n8_; have aC := n9_; have aG := n10_; have aJ := n11_; have aK := n12_; have ar := n13_; have HB := n14_; have bS := n15_; have fO := n17_; have cM := n18_; have cN := n20_; have cO := n22_; have cP := n24_; have cQ := n26_; have cR := n28_; clear n0_ n1_ n2_ n3_ n4_ n5_ n6_ n7_ n8_ n9_ n10_ n11_ n12_ n13_ n14_ n15_ n16_ n17_ n18_ n19_ n20_ n21_ n22_ n23_ n24_ n25_ n26_ n27_ n28_ n29_; clear hb hbox hg; obtain ⟨b6, b8, gJ⟩ := Kd.R_slice bp.o; subst gJ; obtain ⟨dK, dL, dM, dN⟩ := c4_ go bS.o; obtain ⟨d4, d5, d6, d7⟩ := z4_ bS.o; obtain ⟨bU, bV, fX⟩ := Kd.R_slice bq.o; subst fX; obtain ⟨cG, bX, fY⟩ := Kd.R_slice bW.o; subst fY) | ((with_reducible refine gate_store (t := 37) (p := 17) rfl ?_); refine store_event (t := 37) (p := 17) (v := ?vo_w104) (w1 := ((((go.setCell ⟨ay, 0, none⟩ (.slice b6 bL.length b8)).setCell ⟨ay, 1, none⟩ (.int .i64 b9)).setCell ⟨ay, 2, none⟩ (.slice bU bP.length bV)).setCell ⟨ay, 3, none⟩ (.slice cG b3.length bX))) ?hg ?ho ?hn ?hr ?_; (case ho => rfl); (case hg => rfl); (case hn => rfl); (case hr => (go_simp; done)); intro bl hw; have n0_ : qAd (Kd.R (Kd.int .i64) 3 bl w.heap.size (fun k_ => some k_ ≠ (.slice bT aR.length bR : Value).ownBlock ∧ some k_ ≠ (.slice bQ aW.length bO : Value).ownBlock ∧ some k_ ≠ (.slice b6 bL.length b8 : Value).ownBlock ∧ some k_ ≠ (.slice bU bP.length bV : Value).ownBlock) (.slice bN aP.length bM) aP) := ⟨(by rw [hw]; exact (by (with_reducible repeat (fail)); exact Kd.R_mono (Kd.R_far (p := ⟨ay, 3, none⟩) (Kd.R_far (p := ⟨ay, 2, none⟩) (Kd.R_far (p := ⟨ay, 1, none⟩) (Kd.R_far (p := ⟨ay, 0, none⟩) (Kd.R_types aX.o bS.o (by decide)) (fun _ hk => hk.2) (.slice b6 bL.length b8)) (fun _ hk => hk.2) (.int .i64 b9)) (fun _ hk => hk.2) (.slice bU bP.length bV)) (fun _ hk => hk.2) (.slice cG b3.length bX)) (fun _ hk => ⟨hk.1.1.1.1, ⟨hk.1.1.1.2, ⟨hk.1.1.2, hk.1.2⟩⟩⟩)))⟩; have n1_ : qAd (Kd.R (Kd.int .i64) 3 bl w.heap.size (fun k_ => some k_ ≠ (.slice bN aP.length bM : Value).ownBlock ∧ some k_ ≠ (.slice bQ aW.length bO : Value).ownBlock ∧ some k_ ≠ (.slice b6 bL.length b8 : Value).ownBlock ∧ some k_ ≠ (.slice bU bP.length bV : Value).ownBlock) (.slice bT aR.length bR) aR) := ⟨(by rw [hw]; exact (by (with_reducible repeat (fail)); exact Kd.R_mono (Kd.R_far (p := ⟨ay, 3, none⟩) (Kd.R_far (p := ⟨ay, 2, none⟩) (Kd.R_far (p := ⟨ay, 1, none⟩) (Kd.R_far (p := ⟨ay, 0, none⟩) (Kd.R_types aY.o bS.o (by decide)) (fun _ hk => hk.2) (.slice b6 bL.length b8)) (fun _ hk => hk.2) (.int .i64 b9)) (fun _ hk => hk.2) (.slice bU bP.length bV)) (fun _ hk => hk.2) (.slice cG b3.length bX)) (fun _ hk => ⟨hk.1.1.1.1, ⟨hk.1.1.1.2, ⟨hk.1.1.2, hk.1.2⟩⟩⟩)))⟩; have n2_ : qAd (Kd.R k51 51 bl w.heap.size (fun k_ => some k_ ≠ (.slice cG b3.length bX : Value).ownBlock ∧ k_ ≠ aI) (.slice b5 aV.length b4) aV) := ⟨(by rw [hw]; exact (by (with_reducible repeat (fail)); exact Kd.R_mono (Kd.R_far (p := ⟨ay, 3, none⟩) (Kd.R_far (p := ⟨ay, 2, none⟩) (Kd.R_far (p := ⟨ay, 1, none⟩) (Kd.R_far (p := ⟨ay, 0, none⟩) (Kd.R_types ah.o bS.o (by decide)) (fun _ hk => hk.2) (.slice b6 bL.length b8)) (fun _ hk => hk.2) (.int .i64 b9)) (fun _ hk => hk.2) (.slice bU bP.length bV)) (fun _ hk => hk.2) (.slice cG b3.length bX)) (fun _ hk => ⟨hk.1.2, hk.1.1⟩)))⟩; have n3_ : qAd (Kd.S k34 34 bl w.heap.size (fun k_ => some k_ ≠ (.slice bN aP.length bM : Value).ownBlock ∧ some k_ ≠ (.slice bT aR.length bR : Value).ownBlock ∧ some k_ ≠ (.slice bQ aW.length bO : Value).ownBlock ∧ some k_ ≠ (.slice b6 bL.length b8 : Value).ownBlock ∧ some k_ ≠ (.slice bU bP.length bV : Value).ownBlock) (.slice bb ao.length b7) ao) := ⟨(by rw [hw]; exact (by (with_reducible repeat (fail)); exact Kd.S_mono (Kd.S_far (p := ⟨ay, 3, none⟩) (Kd.S_far (p := ⟨ay, 2, none⟩) (Kd.S_far (p := ⟨ay, 1, none⟩) (Kd.S_far (p := ⟨ay, 0, none⟩) (Kd.S_types aZ.o bS.o (by decide)) (fun _ hk => hk.2) (.slice b6 bL.length b8)) (fun _ hk => hk.2) (.int .i64 b9)) (fun _ hk => hk.2) (.slice bU bP.length bV)) (fun _ hk => hk.2) (.slice cG b3.length bX)) (fun _ hk => ⟨hk.1.1.1.1, ⟨hk.1.1.1.2.1, ⟨hk.1.1.1.2.2, ⟨hk.1.1.2, hk.1.2⟩⟩⟩⟩)))⟩; have n4_ : qAd (Kd.R (Kd.int .i64) 3 bl w.heap.size (fun k_ => some k_ ≠ (.slice bN aP.length bM : Value).ownBlock ∧ some k_ ≠ (.slice bT aR.length bR : Value).ownBlock ∧ some k_ ≠ (.slice b6 bL.length b8 : Value).ownBlock ∧ some k_ ≠ (.slice bU bP.length bV : Value).ownBlock) (.slice bQ aW.length bO) aW) := ⟨(by rw [hw]; exact (by (with_reducible repeat (fail)); exact Kd.R_mono (Kd.R_far (p := ⟨ay, 3, none⟩) (Kd.R_far (p := ⟨ay, 2, none⟩) (Kd.R_far (p := ⟨ay, 1, none⟩) (Kd.R_far (p := ⟨ay, 0, none⟩) (Kd.R_types aQ.o bS.o (by decide)) (fun _ hk => hk.2) (.slice b6 bL.length b8)) (fun _ hk => hk.2) (.int .i64 b9)) (fun _ hk => hk.2) (.slice bU bP.length bV)) (fun _ hk => hk.2) (.slice cG b3.length bX)) (fun _ hk => ⟨hk.1.1.1.1, ⟨hk.1.1.1.2, ⟨hk.1.1.2, hk.1.2⟩⟩⟩)))⟩; have n5_ : qAd (Kd.R (Kd.int .i64) 3 bl w.heap.size (fun k_ => some k_ ≠ (.slice bN aP.length bM : Value).ownBlock ∧ some k_ ≠ (.slice bT aR.length bR : Value).ownBlock ∧ some k_ ≠ (.slice bQ aW.length bO : Value).ownBlock ∧ some k_ ≠ (.slice bU bP.length bV : Value).ownBlock) (.slice b6 bL.length b8) bL) := ⟨(by rw [hw]; exact (by (with_reducible repeat (fail)); exact Kd.R_mono (Kd.R_far (p := ⟨ay, 3, none⟩) (Kd.R_far (p := ⟨ay, 2, none⟩) (Kd.R_far (p := ⟨ay, 1, none⟩) (Kd.R_far (p := ⟨ay, 0, none⟩) (Kd.R_types bp.o bS.o (by decide)) (fun _ hk => hk.2) (.slice b6 bL.length b8)) (fun _ hk => hk.2) (.int .i64 b9)) (fun _ hk => hk.2) (.slice bU bP.length bV)) (fun _ hk => hk.2) (.slice cG b3.length bX)) (fun _ hk => ⟨hk.1.1.1.2, ⟨hk.1.1.2, ⟨hk.1.2, hk.1.1.1.1⟩⟩⟩)))⟩; have n6_ : qAd (Kd.R (Kd.int .i64) 3 bl w.heap.size (fun k_ => some k_ ≠ (.slice bN aP.length bM : Value).ownBlock ∧ some k_ ≠ (.slice bT aR.length bR : Value).ownBlock ∧ some k_ ≠ (.slice bQ aW.length bO : Value).ownBlock ∧ some k_ ≠ (.slice b6 bL.length b8 : Value).ownBlock) (.slice bU bP.length bV) bP) := ⟨(by rw [hw]; exact (by (with_reducible repeat (fail)); exact Kd.R_mono (Kd.R_far (p := ⟨ay, 3, none⟩) (Kd.R_far (p := ⟨ay, 2, none⟩) (Kd.R_far (p := ⟨ay, 1, none⟩) (Kd.R_far (p := ⟨ay, 0, none⟩) (Kd.R_types bq.o bS.o (by decide)) (fun _ hk => hk.2) (.slice b6 bL.length b8)) (fun _ hk => hk.2) (.int .i64 b9)) (fun _ hk => hk.2) (.slice bU bP.length bV)) (fun _ hk => hk.2) (.slice cG b3.length bX)) (fun _ hk => ⟨hk.1.1.1.2, ⟨hk.1.1.2, ⟨hk.1.2, hk.1.1.1.1⟩⟩⟩)))⟩; have n7_ : qAd (Kd.R k51 51 bl w.heap.size (fun k_ => some k_ ≠ (.slice b5 aV.length b4 : Value).ownBlock ∧ k_ ≠ aI) (.slice cG b3.length bX) b3) := ⟨(by rw [hw]; exact (by (with_reducible repeat (fail)); exact Kd.R_mono (Kd.R_far (p := ⟨ay, 3, none⟩) (Kd.R_far (p := ⟨ay, 2, none⟩) (Kd.R_far (p := ⟨ay, 1, none⟩) (Kd.R_far (p := ⟨ay, 0, none⟩) (Kd.R_types bW.o bS.o (by decide)) (fun _ hk => hk.2) (.slice b6 bL.length b8)) (fun _ hk => hk.2) (.int .i64 b9)) (fun _ hk => hk.2) (.slice bU bP.length bV)) (fun _ hk => hk.2) (.slice cG b3.length bX)) (fun _ hk => ⟨hk.1.1.2, hk.1.2⟩)))⟩; have n8_ : qAd (bl.heap[aD]? = some (.cells #[.slice aa l0_0.length ad, .int .i64 a0_1, .slice ab l0_2.length ae, .slice ac l0_3.length af] 27 (0, 0))) := ⟨(by rw [hw]; exact (by (with_reducible repeat (fail)); refine qDH ?_ cM.o _; (with_reducible repeat (fail)); refine qDH ?_ cM.o _; (with_reducible repeat (fail)); refine qDH ?_ cM.o _; (with_reducible repeat (fail)); refine qDH ?_ cM.o _; (with_reducible repeat (fail)); exact aA.o))⟩; have n9_ : qAd (bl.heap[aF]? = some (.cells #[.slice aj l1_0.length al, .slice ak l1_1.length an] 30 (0, 0))) := ⟨(by rw [hw]; exact (by (with_reducible repeat (fail)); refine qDH ?_ cN.o _; (with_reducible repeat (fail)); refine qDH ?_ cN.o _; (with_reducible repeat (fail)); refine qDH ?_ cN.o _; (with_reducible repeat (fail)); refine qDH ?_ cN.o _; (with_reducible repeat (fail)); exact aC.o))⟩; have n10_ : qAd (bl.heap[aH]? = some (.cells #[.int .i64 a3_0, .int .i64 a3_1, .int .i64 a3_2, .int .u64 a3_3] 50 (0, 0))) := ⟨(by rw [hw]; exact (by (with_reducible repeat (fail)); refine qDH ?_ cO.o _; (with_reducible repeat (fail)); refine qDH ?_ cO.o _; (with_reducible repeat (fail)); refine qDH ?_ cO.o _; (with_reducible repeat (fail)); refine qDH ?_ cO.o _; (with_reducible repeat (fail)); exact aG.o))⟩; have n11_ : qAd (bl.heap[aB]? = some (.cells #[.slice bN aP.length bM, .int .i64 au, .slice bT aR.length bR, .slice b5 aV.length b4] 37 (0, 0))) := ⟨(by rw [hw]; exact (by (with_reducible repeat (fail)); refine qDH ?_ cP.o _; (with_reducible repeat (fail)); refine qDH ?_ cP.o _; (with_reducible repeat (fail)); refine qDH ?_ cP.o _; (with_reducible repeat (fail)); refine qDH ?_ cP.o _; (with_reducible repeat (fail)); exact aJ.o))⟩; have n12_ : qAd (bl.heap[aE]? = some (.cells #[.slice bb ao.length b7, .slice bQ aW.length bO] 41 (0, 0))) := ⟨(by rw [hw]; exact (by (with_reducible repeat (fail)); refine qDH ?_ cQ.o _; (with_reducible repeat (fail)); refine qDH ?_ cQ.o _; (with_reducible repeat (fail)); refine qDH ?_ cQ.o _; (with_reducible repeat (fail)); refine qDH ?_ cQ.o _; (with_reducible repeat (fail)); exact aK.o))⟩; have n13_ : qAd (bl.heap[aI]? = some (.cells #[.int .i64 a3_0, .int .i64 a3_1, .int .i64 a3_2, .int .u64 a3_3] 51 (0, 0))) := ⟨(by rw [hw]; exact (by (with_reducible repeat (fail)); refine qDH ?_ cR.o _; (with_reducible repeat (fail)); refine qDH ?_ cR.o _; (with_reducible repeat (fail)); refine qDH ?_ cR.o _; (with_reducible repeat (fail)); refine qDH ?_ cR.o _; (with_reducible repeat (fail)); exact ar.o))⟩; have n14_ : qAd (bl.heap[ay]? = some (.cells #[.slice b6 bL.length b8, .int .i64 b9, .slice bU bP.length bV, .slice cG b3.length bX] 37 (0, 0))) := ⟨(by rw [hw]; exact (by (with_reducible repeat (fail)); refine qAQ (cs := #[.slice b6 bL.length b8, .int .i64 b9, .slice bU bP.length bV, .slice none 0 0]) ?_ 3 _ rfl; (with_reducible repeat (fail)); refine qAQ (cs := #[.slice b6 bL.length b8, .int .i64 b9, .slice none 0 0, .slice none 0 0]) ?_ 2 _ rfl; (with_reducible repeat (fail)); refine qAQ (cs := #[.slice b6 bL.length b8, .int .i64 0, .slice none 0 0, .slice none 0 0]) ?_ 1 _ rfl; (with_reducible repeat (fail)); refine qAQ (cs := #[.slice none 0 0, .int .i64 0, .slice none 0 0, .slice none 0 0]) ?_ 0 _ rfl; (with_reducible repeat (fail)); exact bS.o))⟩; have n15_ : qAd (Below w.heap.size w bl) := ⟨(by rw [hw]; exact (by repeat ((with_reducible first | exact HB.o | refine qAi ?_ fO.o))))⟩; clear hw; clear aX; clear aY; clear ah; clear aZ; clear aQ; clear bp; clear bq; clear bW; clear aA; clear aC; clear aG; clear aJ; clear aK; clear ar; clear bS; clear HB; have aX := n0_; have aY := n1_; have ah := n2_; have aZ := n3_; have aQ := n4_; have bp := n5_; have bq := n6_; have bW := n7_; have aA := n8_; have aC := n9_; have aG := n10_; have aJ := n11_; have aK := n12_; have ar := n13_; have bS := n14_; have HB := n15_; clear n0_ n1_ n2_ n3_ n4_ n5_ n6_ n7_ n8_ n9_ n10_ n11_ n12_ n13_ n14_ n15_; obtain ⟨dO, dP, dQ, dR⟩ := c4_ bl bS.o; obtain ⟨d8, d9, da, db⟩ := z4_ bS.o; obtain ⟨dS, dT, dU, dV⟩ := c4_ bl ar.o; obtain ⟨dc, dd, de, df⟩ := z4_ ar.o; have ft : 0 ≤ (a2 : Int) := of_decide_eq_true (by (with_reducible assumption)); have fu : (a2 : Int) < ((b3.length : Int) : Int) := of_decide_eq_true (by (with_reducible assumption)); obtain ⟨go83, gs, gI, f4, gl83, cl83, HG83⟩ := Kd.R_form bW.o (by omega); ((cases gI)); have GB83 := am f4; clear f4 gl83 HG83; obtain ⟨ce83, hcl83, hM83, hcc83, hfr83⟩ := Kd.R_elem bW.o z51 (a2 : Int) ft fu; obtain rfl := k51_openM hM83; have fA : bl.cell? ⟨go83, (a2 : Int).toNat * 4, none⟩ = some (.int .i64 ((qA0 b3 a2).f0)) := hcc83 0 _ rfl; have fB : bl.cell? ⟨go83, (a2 : Int).toNat * 4 + 1, none⟩ = some (.int .i64 ((qA0 b3 a2).f1)) := hcc83 1 _ rfl; have fC : bl.cell? ⟨go83, (a2 : Int).toNat * 4 + 2, none⟩ = some (.int .i64 ((qA0 b3 a2).f2.f0)) := hcc83 2 _ rfl; have fD : bl.cell? ⟨go83, (a2 : Int).toNat * 4 + 3, none⟩ = some (.int .u64 ((qA0 b3 a2).f2.f1)) := hcc83 3 _ rfl; have hf83_0 : bl.frozen? ⟨go83, (a2 : Int).toNat * 4, none⟩ = false := hfr83 0; have hf83_1 : bl.frozen? ⟨go83, (a2 : Int).toNat * 4 + 1, none⟩ = false := hfr83 1; have hf83_2 : bl.frozen? ⟨go83, (a2 : Int).toNat * 4 + 2, none⟩ = false := hfr83 2; have hf83_3 : bl.frozen? ⟨go83, (a2 : Int).toNat * 4 + 3, none⟩ = false := hfr83 3; clear hcl83 hcc83 hfr83 hM83; replace ft := eq_true ft; replace fu := eq_true fu; have HX111 := am (show Kd.R k51 51 bl w.heap.size (fun k_ => some k_ ≠ (.slice b5 aV.length b4 : Value).ownBlock ∧ k_ ≠ aI) (.slice (some ⟨go83, 0, none⟩) b3.length bX) b3 from (by (with_reducible repeat (fail)); exact bW.o)); obtain ⟨ce111, hcl111, hM111, hcc111, hfr111⟩ := Kd.R_elem HX111.o z51 (a2 : Int) (of_decide_eq_true (by (with_reducible assumption))) (by have h_ : (a2 : Int) < ((b3.length : Int) : Int) := of_decide_eq_true (by (with_reducible assumption)); (exact h_)); obtain rfl := k51_openM hM111; have dH := Kd.R_seg HX111.o (a2 : Int) (of_decide_eq_true (by (with_reducible assumption))) (by have h_ : (a2 : Int) < ((b3.length : Int) : Int) := of_decide_eq_true (by (with_reducible assumption)); (exact h_)) (seg := [.int .i64 a3_0, .int .i64 a3_1, .int .i64 a3_2, .int .u64 a3_3]) (j := 0) hcl111 hcc111 (show 4 ≤ 4 from by decide) (x' := (⟨a3_0, a3_1, (⟨a3_2, a3_3⟩ : S48)⟩ : S51)) (qCW _ _ _ (⟨a3_0, a3_1, (⟨a3_2, a3_3⟩ : S48)⟩ : S51) ) (fun _ hk => hk); have ct := hcc111 0 _ rfl; (try simp only [show (k51).sz = 4 from rfl, Nat.add_zero] at ct); have hf111_0 := hfr111 0; (try simp only [show (k51).sz = 4 from rfl, Nat.add_zero] at hf111_0); have cu := hcc111 1 _ rfl; (try simp only [show (k51).sz = 4 from rfl] at cu); have hf111_1 := hfr111 1; (try simp only [show (k51).sz = 4 from rfl] at hf111_1); have cv := hcc111 2 _ rfl; (try simp only [show (k51).sz = 4 from rfl] at cv); have hf111_2 := hfr111 2; (try simp only [show (k51).sz = 4 from rfl] at hf111_2); have cw := hcc111 3 _ rfl; (try simp only [show (k51).sz = 4 from rfl] at cw); have hf111_3 := hfr111 3; (try simp only [show (k51).sz = 4 from rfl] at hf111_3); clear hcl111 hcc111 hfr111 hM111) | ((with_reducible refine gate_store (t := 51) (p := 81) rfl ?_); refine store_event (t := 51) (p := 81) (v := ?vo_w112) (w1 := ((((bl.setCell ⟨go83, (a2 : Int).toNat * 4, none⟩ (.int .i64 a3_0)).setCell ⟨go83, (a2 : Int).toNat * 4 + 1, none⟩ (.int .i64 a3_1)).setCell ⟨go83, (a2 : Int).toNat * 4 + 2, none⟩ (.int .i64 a3_2)).setCell ⟨go83, (a2 : Int).toNat * 4 + 3, none⟩ (.int .u64 a3_3))) ?hg ?ho ?hn ?hr ?_; (case ho => rfl); (case hg => rfl); (case hn => rfl); (case hr => (go_simp; done)); intro dq hw; have hg : bl.grownBy dq (some go83) := (by rw [hw]; exact dH.2); have hp_ : Kd.R k51 51 dq w.heap.size (fun k_ => some k_ ≠ (.slice b5 aV.length b4 : Value).ownBlock ∧ k_ ≠ aI) (.slice (some ⟨go83, 0, none⟩) b3.length bX) ba := (by rw [hw, fQ.o]; exact dH.1); clear dH; have n0_ := am (Kd.R_over' (v := (.slice (some ⟨go83, 0, none⟩) b3.length bX)) (by (with_reducible repeat (fail)); exact aX.o) (Kd.R_typed bW.o) (by decide) hg); have n1_ := am (Kd.R_over' (v := (.slice (some ⟨go83, 0, none⟩) b3.length bX)) (by (with_reducible repeat (fail)); exact aY.o) (Kd.R_typed bW.o) (by decide) hg); have n2_ := am (Kd.R_after (v := (.slice (some ⟨go83, 0, none⟩) b3.length bX)) (v1 := (.slice (some ⟨go83, 0, none⟩) b3.length bX)) (ok := (fun k_ => k_ ≠ aI)) (by (with_reducible repeat (fail)); exact Kd.R_mono ah.o (fun _ hk => ⟨hk.2, hk.1⟩)) hg (.inl rfl)); have n3_ := am (Kd.S_over' (v := (.slice (some ⟨go83, 0, none⟩) b3.length bX)) (by (with_reducible repeat (fail)); exact aZ.o) (Kd.R_typed bW.o) (by decide) hg); have n4_ := am (Kd.R_over' (v := (.slice (some ⟨go83, 0, none⟩) b3.length bX)) (by (with_reducible repeat (fail)); exact aQ.o) (Kd.R_typed bW.o) (by decide) hg); have n5_ := am (qBN (g := aD) (o := .cells #[.slice aa l0_0.length ad, .int .i64 a0_1, .slice ab l0_2.length ae, .slice ac l0_3.length af] 27 (0, 0)) (by (with_reducible repeat (fail)); exact aA.o) hg (Kd.R_ne bW.o aA.o (by decide))); have n6_ := am (qBN (g := aF) (o := .cells #[.slice aj l1_0.length al, .slice ak l1_1.length an] 30 (0, 0)) (by (with_reducible repeat (fail)); exact aC.o) hg (Kd.R_ne bW.o aC.o (by decide))); have n7_ := am (qBN (g := aH) (o := .cells #[.int .i64 a3_0, .int .i64 a3_1, .int .i64 a3_2, .int .u64 a3_3] 50 (0, 0)) (by (with_reducible repeat (fail)); exact aG.o) hg (Kd.R_ne bW.o aG.o (by decide))); have n8_ := am (qBN (g := aB) (o := .cells #[.slice bN aP.length bM, .int .i64 au, .slice bT aR.length bR, .slice b5 aV.length b4] 37 (0, 0)) (by (with_reducible repeat (fail)); exact aJ.o) hg (Kd.R_ne bW.o aJ.o (by decide))); have n9_ := am (qBN (g := aE) (o := .cells #[.slice bb ao.length b7, .slice bQ aW.length bO] 41 (0, 0)) (by (with_reducible repeat (fail)); exact aK.o) hg (Kd.R_ne bW.o aK.o (by decide))); have n10_ := am (qBN (g := aI) (o := .cells #[.int .i64 a3_0, .int .i64 a3_1, .int .i64 a3_2, .int .u64 a3_3] 51 (0, 0)) (by (with_reducible repeat (fail)); exact ar.o) hg (Kd.R_away bW.o (fun _ hk => hk.2))); have n11_ := am (Kd.R_over' (v := (.slice (some ⟨go83, 0, none⟩) b3.length bX)) (by (with_reducible repeat (fail)); exact bp.o) (Kd.R_typed bW.o) (by decide) hg); have n12_ := am (Kd.R_over' (v := (.slice (some ⟨go83, 0, none⟩) b3.length bX)) (by (with_reducible repeat (fail)); exact bq.o) (Kd.R_typed bW.o) (by decide) hg); have n13_ := am (hp_); have n14_ := am (qBN (g := ay) (o := .cells #[.slice b6 bL.length b8, .int .i64 b9, .slice bU bP.length bV, .slice (some ⟨go83, 0, none⟩) b3.length bX] 37 (0, 0)) (by (with_reducible repeat (fail)); exact bS.o) hg (Kd.R_ne bW.o bS.o (by decide))); have n15_ := am ((by rw [hw]; exact qAi (qAi (qAi (qAi (HB.o) GB83.o) GB83.o) GB83.o) GB83.o : Below w.heap.size w dq)); clear aX; clear aY; clear ah; clear aZ; clear aQ; clear aA; clear aC; clear aG; clear aJ; clear aK; clear ar; clear bp; clear bq; clear bW; clear bS; clear HB; have aX := n0_; have aY := n1_; have ah := n2_; have aZ := n3_; have aQ := n4_; have aA := n5_; have aC := n6_; have aG := n7_; have aJ := n8_; have aK := n9_; have ar := n10_; have bp := n11_; have bq := n12_; have bW := n13_; have bS := n14_; have HB := n15_; clear n0_ n1_ n2_ n3_ n4_ n5_ n6_ n7_ n8_ n9_ n10_ n11_ n12_ n13_ n14_ n15_; clear hg hw hp_; obtain ⟨dW, dX, dY, dZ⟩ := c4_ dq bS.o; obtain ⟨dg, dh, di, dj⟩ := z4_ bS.o; obtain ⟨d2, d3⟩ := c2_ dq aK.o; obtain ⟨dk, dl⟩ := z2_ aK.o) | ((with_reducible refine qA7 (f := 13) rfl ?_); refine qBG (some 85) rfl rfl Tryz.func13 (by kernel_rfl) rfl #[.agg #[.slice b6 bL.length b8, .int .i64 b9, .slice bU bP.length bV, .slice (some ⟨go83, 0, none⟩) ba.length bX], .agg #[.slice bb ao.length b7, .slice bQ aW.length bO]] rfl (by (try simp only [List.map_toArray, List.map_cons, List.map_nil]); (rw [show ba.length = b3.length from (Kd.R_reads' bW.o).1.symm] <;> rfl)) ?_; (with_reducible refine (qAN.calls _ _ bL b9 _ _ bP _ _ ba _ _ ao _ _ aW fG dn _ ?side1 ?side2 ?side3 ?side4 ?side5 ?side6 ?side7 ?side8 ?side9 ?side10 gr.o).mono ?_); (case side1 => repeat ((exact (Kd.R_reads' bp.o).2.2))); (case side2 => exact (Kd.R_reads' bp.o).2.1); (case side3 => repeat ((exact (Kd.R_reads' bq.o).2.2))); (case side4 => exact (Kd.R_reads' bq.o).2.1); (case side5 => repeat ((exact (Kd.R_reads' bW.o).2.2))); (case side6 => rw [show ba.length = b3.length from (Kd.R_reads' bW.o).1.symm]; exact (Kd.R_reads' bW.o).2.1); (case side7 => repeat ((exact (Kd.S_reads' aZ.o).2.2))); (case side8 => exact (Kd.S_reads' aZ.o).2.1); (case side9 => repeat ((exact (Kd.R_reads' aQ.o).2.2))); (case side10 => exact (Kd.R_reads' aQ.o).2.1); rintro e hC ⟨rfl, hb⟩; refine ⟨_, rfl, ?_⟩; have n0_ := am (Kd.R_below (by (with_reducible repeat (fail)); exact aX.o) hb); have n1_ := am (Kd.R_below (by (with_reducible repeat (fail)); exact aY.o) hb); have n2_ := am (Kd.R_below (by (with_reducible repeat (fail)); exact ah.o) hb); have n3_ := am (Kd.S_below (by (with_reducible repeat (fail)); exact aZ.o) hb); have n4_ := am (Kd.R_below (by (with_reducible repeat (fail)); exact aQ.o) hb); have n5_ := am (Kd.R_below (by (with_reducible repeat (fail)); exact bp.o) hb); have n6_ := am (Kd.R_below (by (with_reducible repeat (fail)); exact bq.o) hb); have n7_ := am (Kd.R_below (by (with_reducible repeat (fail)); exact bW.o) hb); have n8_ := am (qAk (g := aD) (o := .cells #[.slice aa l0_0.length ad, .int .i64 a0_1, .slice ab l0_2.length ae, .slice ac l0_3.length af] 27 (0, 0)) (by (with_reducible repeat (fail)); exact aA.o) hb); have n9_ := am (qAk (g := aF) (o := .cells #[.slice aj l1_0.length al, .slice ak l1_1.length an] 30 (0, 0)) (by (with_reducible repeat (fail)); exact aC.o) hb); have n10_ := am (qAk (g := aH) (o := .cells #[.int .i64 a3_0, .int .i64 a3_1, .int .i64 a3_2, .int .u64 a3_3] 50 (0, 0)) (by (with_reducible repeat (fail)); exact aG.o) hb); have n11_ := am (qAk (g := aB) (o := .cells #[.slice bN aP.length bM, .int .i64 au, .slice bT aR.length bR, .slice b5 aV.length b4] 37 (0, 0)) (by (with_reducible repeat (fail)); exact aJ.o) hb); have n12_ := am (qAk (g := aE) (o := .cells #[.slice bb ao.length b7, .slice bQ aW.length bO] 41 (0, 0)) (by (with_reducible repeat (fail)); exact aK.o) hb); have n13_ := am (qAk (g := aI) (o := .cells #[.int .i64 a3_0, .int .i64 a3_1, .int .i64 a3_2, .int .u64 a3_3] 51 (0, 0)) (by (with_reducible repeat (fail)); exact ar.o) hb); have n14_ := am (qAk (g := ay) (o := .cells #[.slice b6 bL.length b8, .int .i64 b9, .slice bU bP.length bV, .slice (some ⟨go83, 0, none⟩) b3.length bX] 37 (0, 0)) (by (with_reducible repeat (fail)); exact bS.o) hb); have n15_ := am (qAq (by repeat ((with_reducible (exact HB.o)))) hb); clear aX; clear aY; clear ah; clear aZ; clear aQ; clear bp; clear bq; clear bW; clear aA; clear aC; clear aG; clear aJ; clear aK; clear ar; clear bS; clear HB; have aX := n0_; have aY := n1_; have ah := n2_; have aZ := n3_; have aQ := n4_; have bp := n5_; have bq := n6_; have bW := n7_; have aA := n8_; have aC := n9_; have aG := n10_; have aJ := n11_; have aK := n12_; have ar := n13_; have bS := n14_; have HB := n15_; clear n0_ n1_ n2_ n3_ n4_ n5_ n6_ n7_ n8_ n9_ n10_ n11_ n12_ n13_ n14_ n15_; (skip); (skip); (skip)))
    (skip)
    go_cut [93] (fun hB wc => ∃ (kq : Nat) (cc : Bool), hB = .bool cc ∧ qAd (foundrylaw14_CodeDead.j1 kq cc aP au aR aV ao aW bL b9 bP ba = some r) ∧ qAd (kq ≤ cZ) ∧ qAd (Kd.R (Kd.int .i64) 3 wc w.heap.size (fun k_ => some k_ ≠ ((.slice bT aR.length bR) : Value).ownBlock ∧ some k_ ≠ ((.slice bQ aW.length bO) : Value).ownBlock ∧ some k_ ≠ ((.slice b6 bL.length b8) : Value).ownBlock ∧ some k_ ≠ ((.slice bU bP.length bV) : Value).ownBlock) (.slice bN aP.length bM) aP) ∧ qAd (Kd.R (Kd.int .i64) 3 wc w.heap.size (fun k_ => some k_ ≠ ((.slice bN aP.length bM) : Value).ownBlock ∧ some k_ ≠ ((.slice bQ aW.length bO) : Value).ownBlock ∧ some k_ ≠ ((.slice b6 bL.length b8) : Value).ownBlock ∧ some k_ ≠ ((.slice bU bP.length bV) : Value).ownBlock) (.slice bT aR.length bR) aR) ∧ qAd (Kd.R k51 51 wc w.heap.size (fun k_ => some k_ ≠ ((.slice (some ⟨go83, 0, none⟩) b3.length bX) : Value).ownBlock ∧ k_ ≠ aI) (.slice b5 aV.length b4) aV) ∧ qAd (Kd.S k34 34 wc w.heap.size (fun k_ => some k_ ≠ ((.slice bN aP.length bM) : Value).ownBlock ∧ some k_ ≠ ((.slice bT aR.length bR) : Value).ownBlock ∧ some k_ ≠ ((.slice bQ aW.length bO) : Value).ownBlock ∧ some k_ ≠ ((.slice b6 bL.length b8) : Value).ownBlock ∧ some k_ ≠ ((.slice bU bP.length bV) : Value).ownBlock) (.slice bb ao.length b7) ao) ∧ qAd (Kd.R (Kd.int .i64) 3 wc w.heap.size (fun k_ => some k_ ≠ ((.slice bN aP.length bM) : Value).ownBlock ∧ some k_ ≠ ((.slice bT aR.length bR) : Value).ownBlock ∧ some k_ ≠ ((.slice b6 bL.length b8) : Value).ownBlock ∧ some k_ ≠ ((.slice bU bP.length bV) : Value).ownBlock) (.slice bQ aW.length bO) aW) ∧ qAd (Kd.R (Kd.int .i64) 3 wc w.heap.size (fun k_ => some k_ ≠ ((.slice bN aP.length bM) : Value).ownBlock ∧ some k_ ≠ ((.slice bT aR.length bR) : Value).ownBlock ∧ some k_ ≠ ((.slice bQ aW.length bO) : Value).ownBlock ∧ some k_ ≠ ((.slice bU bP.length bV) : Value).ownBlock) (.slice b6 bL.length b8) bL) ∧ qAd (Kd.R (Kd.int .i64) 3 wc w.heap.size (fun k_ => some k_ ≠ ((.slice bN aP.length bM) : Value).ownBlock ∧ some k_ ≠ ((.slice bT aR.length bR) : Value).ownBlock ∧ some k_ ≠ ((.slice bQ aW.length bO) : Value).ownBlock ∧ some k_ ≠ ((.slice b6 bL.length b8) : Value).ownBlock) (.slice bU bP.length bV) bP) ∧ qAd (Kd.R k51 51 wc w.heap.size (fun k_ => some k_ ≠ ((.slice b5 aV.length b4) : Value).ownBlock ∧ k_ ≠ aI) (.slice (some ⟨go83, 0, none⟩) b3.length bX) ba) ∧ qAd (wc.heap[aD]? = some (.cells #[(.slice aa l0_0.length ad), .int .i64 a0_1, (.slice ab l0_2.length ae), (.slice ac l0_3.length af)] 27 (0, 0))) ∧ qAd (wc.heap[aF]? = some (.cells #[(.slice aj l1_0.length al), (.slice ak l1_1.length an)] 30 (0, 0))) ∧ qAd (wc.heap[aH]? = some (.cells #[.int .i64 a3_0, .int .i64 a3_1, .int .i64 a3_2, .int .u64 a3_3] 50 (0, 0))) ∧ qAd (wc.heap[aB]? = some (.cells #[(.slice bN aP.length bM), .int .i64 au, (.slice bT aR.length bR), (.slice b5 aV.length b4)] 37 (0, 0))) ∧ qAd (wc.heap[aE]? = some (.cells #[(.slice bb ao.length b7), (.slice bQ aW.length bO)] 41 (0, 0))) ∧ qAd (wc.heap[aI]? = some (.cells #[.int .i64 a3_0, .int .i64 a3_1, .int .i64 a3_2, .int .u64 a3_3] 51 (0, 0))) ∧ qAd (wc.heap[ay]? = some (.cells #[(.slice b6 bL.length b8), .int .i64 b9, (.slice bU bP.length bV), (.slice (some ⟨go83, 0, none⟩) b3.length bX)] 37 (0, 0))) ∧ qAd (Below w.heap.size w wc))
    case first =>
     have H := ex.o
     clear ex
     by_cases dJ : dn = 0
     rotate_left
     ·rw [if_neg dJ] at H
      have ey : (dn != 0) = true := bne_iff_ne.mpr dJ
      ((skip))
      have H' := am H
      clear H
      go_wp2
      go_meet
      case rel => exact ⟨_, (true), (by (rfl)), H', ⟨by have := dt.o; (omega)⟩, ⟨by (with_reducible repeat (fail)); exact aX.o⟩, ⟨by (with_reducible repeat (fail)); exact aY.o⟩, ⟨by (with_reducible repeat (fail)); exact Kd.R_mono ah.o (fun _ hk => ⟨hk.2, hk.1⟩)⟩, ⟨by (with_reducible repeat (fail)); exact aZ.o⟩, ⟨by (with_reducible repeat (fail)); exact aQ.o⟩, ⟨by (with_reducible repeat (fail)); exact bp.o⟩, ⟨by (with_reducible repeat (fail)); exact bq.o⟩, ⟨by (with_reducible repeat (fail)); exact bW.o⟩, ⟨by (with_reducible repeat (fail)); exact aA.o⟩, ⟨by (with_reducible repeat (fail)); exact aC.o⟩, ⟨by (with_reducible repeat (fail)); exact aG.o⟩, ⟨by (with_reducible repeat (fail)); exact aJ.o⟩, ⟨by (with_reducible repeat (fail)); exact aK.o⟩, ⟨by (with_reducible repeat (fail)); exact ar.o⟩, ⟨by (with_reducible repeat (fail)); exact bS.o⟩, ⟨by repeat ((with_reducible (exact HB.o)))⟩⟩
     rw [if_pos dJ] at H
     have ey : (dn != 0) = false := bn dJ
     clear dJ
     ((skip))
     have H' := am H
     clear H
     go_wp2
     go_meet
     case rel => exact ⟨_, ((fG != 0)), (by (rfl)), H', ⟨by have := dt.o; (omega)⟩, ⟨by (with_reducible repeat (fail)); exact aX.o⟩, ⟨by (with_reducible repeat (fail)); exact aY.o⟩, ⟨by (with_reducible repeat (fail)); exact Kd.R_mono ah.o (fun _ hk => ⟨hk.2, hk.1⟩)⟩, ⟨by (with_reducible repeat (fail)); exact aZ.o⟩, ⟨by (with_reducible repeat (fail)); exact aQ.o⟩, ⟨by (with_reducible repeat (fail)); exact bp.o⟩, ⟨by (with_reducible repeat (fail)); exact bq.o⟩, ⟨by (with_reducible repeat (fail)); exact bW.o⟩, ⟨by (with_reducible repeat (fail)); exact aA.o⟩, ⟨by (with_reducible repeat (fail)); exact aC.o⟩, ⟨by (with_reducible repeat (fail)); exact aG.o⟩, ⟨by (with_reducible repeat (fail)); exact aJ.o⟩, ⟨by (with_reducible repeat (fail)); exact aK.o⟩, ⟨by (with_reducible repeat (fail)); exact ar.o⟩, ⟨by (with_reducible repeat (fail)); exact bS.o⟩, ⟨by repeat ((with_reducible (exact HB.o)))⟩⟩
    case rest =>
     clear ex
     skip
     skip
     skip
     skip
     skip
     skip
     skip
     skip
     skip
     skip
     skip
     skip
     skip
     skip
     skip
     skip
     skip
     skip
     skip
     skip
     skip
     skip
     skip
     skip
     skip
     skip
     skip
     skip
     skip
     skip
     skip
     skip
     skip
     skip
     skip
     skip
     skip
     skip
     skip
     skip
     skip
     skip
     skip
     skip
     skip
     skip
     skip
     skip
     skip
     skip
     skip
     skip
     skip
     skip
     skip
     skip
     skip
     skip
     skip
     skip
     skip
     skip
     skip
     skip
     skip
     skip
     skip
     skip
     skip
     skip
     skip
     skip
     skip
     skip
     skip
     skip
     skip
     skip
     skip
     skip
     skip
     skip
     skip
     skip
     skip
     skip
     skip
     skip
     skip
     skip
     skip
     skip
     skip
     skip
     skip
     skip
     skip
     skip
     skip
     skip
     skip
     skip
     skip
     skip
     skip
     skip
     skip
     skip
     skip
     skip
     skip
     skip
     skip
     skip
     skip
     skip
     skip
     skip
     skip
     skip
     skip
     skip
     skip
     skip
     skip
     skip
     skip
     skip
     skip
     skip
     skip
     skip
     skip
     skip
     skip
     skip
     skip
     skip
     skip
     skip
     skip
     skip
     skip
     skip
     skip
     skip
     skip
     skip
     skip
     skip
     skip
     skip
     skip
     skip
     skip
     skip
     obtain ⟨kq, cc, rfl, HA, fP, aX, aY, ah, aZ, aQ, b0, b1, b2, aA, aC, aG, aJ, aK, ar, bS, HB⟩ := hcut
     have cL := (Kd.R_reads' b2.o).1
     rw [cL] at b2
     (skip)
     (skip)
     (skip)
     (skip)
     (skip)
     (skip)
     (skip)
     (try simp only [cL] at bS)
     (skip)
     (skip)
     (try simp only [cL] at ah)
     (skip)
     (skip)
     (skip)
     (skip)
     cases kq with
     | zero => exact absurd HA.o (by simp [foundrylaw14_CodeDead.j1])
     | succ fE =>
      have H := HA.o
      clear HA
      simp only [foundrylaw14_CodeDead.j1] at H
      by_cases du : cc = true
      ·subst du
       replace H : (none) = some r := by rw [if_pos rfl] at H; exact H
       exact absurd H (by simp)
      replace du := Bool.eq_false_iff.mpr du
      subst du
      replace H : (foundrylaw14_CodeDead.l0 fE 0 aP au aR aV ao aW bL b9 bP ba) = some r := by rw [if_neg (show ¬ (false = true) by decide)] at H; exact H
      have H' := am H
      clear H
      go_wp2
      go_loopg [20] fE (fun kq gt w' => ∃ (br : Int), gt = .int .i64 br ∧ qAd (foundrylaw14_CodeDead.l0 kq br aP au aR aV ao aW bL b9 bP ba = some r) ∧ qAd (kq ≤ fE) ∧ qAd (Kd.R (Kd.int .i64) 3 w' w.heap.size (fun k_ => some k_ ≠ ((.slice bT aR.length bR) : Value).ownBlock ∧ some k_ ≠ ((.slice bQ aW.length bO) : Value).ownBlock ∧ some k_ ≠ ((.slice b6 bL.length b8) : Value).ownBlock ∧ some k_ ≠ ((.slice bU bP.length bV) : Value).ownBlock) (.slice bN aP.length bM) aP) ∧ qAd (Kd.R (Kd.int .i64) 3 w' w.heap.size (fun k_ => some k_ ≠ ((.slice bN aP.length bM) : Value).ownBlock ∧ some k_ ≠ ((.slice bQ aW.length bO) : Value).ownBlock ∧ some k_ ≠ ((.slice b6 bL.length b8) : Value).ownBlock ∧ some k_ ≠ ((.slice bU bP.length bV) : Value).ownBlock) (.slice bT aR.length bR) aR) ∧ qAd (Kd.R k51 51 w' w.heap.size (fun k_ => some k_ ≠ ((.slice (some ⟨go83, 0, none⟩) ba.length bX) : Value).ownBlock ∧ k_ ≠ aI) (.slice b5 aV.length b4) aV) ∧ qAd (Kd.S k34 34 w' w.heap.size (fun k_ => some k_ ≠ ((.slice bN aP.length bM) : Value).ownBlock ∧ some k_ ≠ ((.slice bT aR.length bR) : Value).ownBlock ∧ some k_ ≠ ((.slice bQ aW.length bO) : Value).ownBlock ∧ some k_ ≠ ((.slice b6 bL.length b8) : Value).ownBlock ∧ some k_ ≠ ((.slice bU bP.length bV) : Value).ownBlock) (.slice bb ao.length b7) ao) ∧ qAd (Kd.R (Kd.int .i64) 3 w' w.heap.size (fun k_ => some k_ ≠ ((.slice bN aP.length bM) : Value).ownBlock ∧ some k_ ≠ ((.slice bT aR.length bR) : Value).ownBlock ∧ some k_ ≠ ((.slice b6 bL.length b8) : Value).ownBlock ∧ some k_ ≠ ((.slice bU bP.length bV) : Value).ownBlock) (.slice bQ aW.length bO) aW) ∧ qAd (Kd.R (Kd.int .i64) 3 w' w.heap.size (fun k_ => some k_ ≠ ((.slice bN aP.length bM) : Value).ownBlock ∧ some k_ ≠ ((.slice bT aR.length bR) : Value).ownBlock ∧ some k_ ≠ ((.slice bQ aW.length bO) : Value).ownBlock ∧ some k_ ≠ ((.slice bU bP.length bV) : Value).ownBlock) (.slice b6 bL.length b8) bL) ∧ qAd (Kd.R (Kd.int .i64) 3 w' w.heap.size (fun k_ => some k_ ≠ ((.slice bN aP.length bM) : Value).ownBlock ∧ some k_ ≠ ((.slice bT aR.length bR) : Value).ownBlock ∧ some k_ ≠ ((.slice bQ aW.length bO) : Value).ownBlock ∧ some k_ ≠ ((.slice b6 bL.length b8) : Value).ownBlock) (.slice bU bP.length bV) bP) ∧ qAd (Kd.R k51 51 w' w.heap.size (fun k_ => some k_ ≠ ((.slice b5 aV.length b4) : Value).ownBlock ∧ k_ ≠ aI) (.slice (some ⟨go83, 0, none⟩) ba.length bX) ba) ∧ qAd (w'.heap[aD]? = some (.cells #[(.slice aa l0_0.length ad), .int .i64 a0_1, (.slice ab l0_2.length ae), (.slice ac l0_3.length af)] 27 (0, 0))) ∧ qAd (w'.heap[aF]? = some (.cells #[(.slice aj l1_0.length al), (.slice ak l1_1.length an)] 30 (0, 0))) ∧ qAd (w'.heap[aH]? = some (.cells #[.int .i64 a3_0, .int .i64 a3_1, .int .i64 a3_2, .int .u64 a3_3] 50 (0, 0))) ∧ qAd (w'.heap[aB]? = some (.cells #[(.slice bN aP.length bM), .int .i64 au, (.slice bT aR.length bR), (.slice b5 aV.length b4)] 37 (0, 0))) ∧ qAd (w'.heap[aE]? = some (.cells #[(.slice bb ao.length b7), (.slice bQ aW.length bO)] 41 (0, 0))) ∧ qAd (w'.heap[aI]? = some (.cells #[.int .i64 a3_0, .int .i64 a3_1, .int .i64 a3_2, .int .u64 a3_3] 51 (0, 0))) ∧ qAd (w'.heap[ay]? = some (.cells #[(.slice b6 bL.length b8), .int .i64 b9, (.slice bU bP.length bV), (.slice (some ⟨go83, 0, none⟩) ba.length bX)] 37 (0, 0))) ∧ qAd (Below w.heap.size w w'))
      case atStart => exact ⟨(0), (by (rfl)), H', ⟨Nat.le_refl _⟩, ⟨by (skip); (with_reducible repeat (fail)); exact aX.o⟩, ⟨by (skip); (with_reducible repeat (fail)); exact aY.o⟩, ⟨by (skip); (with_reducible repeat (fail)); exact ah.o⟩, ⟨by (skip); (with_reducible repeat (fail)); exact aZ.o⟩, ⟨by (skip); (with_reducible repeat (fail)); exact aQ.o⟩, ⟨by (skip); (with_reducible repeat (fail)); exact b0.o⟩, ⟨by (skip); (with_reducible repeat (fail)); exact b1.o⟩, ⟨by (skip); (with_reducible repeat (fail)); exact b2.o⟩, ⟨by (skip); (with_reducible repeat (fail)); exact aA.o⟩, ⟨by (skip); (with_reducible repeat (fail)); exact aC.o⟩, ⟨by (skip); (with_reducible repeat (fail)); exact aG.o⟩, ⟨by (skip); (with_reducible repeat (fail)); exact aJ.o⟩, ⟨by (skip); (with_reducible repeat (fail)); exact aK.o⟩, ⟨by (skip); (with_reducible repeat (fail)); exact ar.o⟩, ⟨by (skip); (with_reducible repeat (fail)); exact bS.o⟩, ⟨by repeat ((with_reducible (exact HB.o)))⟩⟩
      case round =>
       clear H'
       skip
       skip
       skip
       skip
       skip
       skip
       skip
       skip
       skip
       skip
       skip
       skip
       skip
       skip
       skip
       skip
       skip
       skip
       skip
       skip
       skip
       skip
       skip
       skip
       skip
       skip
       skip
       skip
       skip
       skip
       skip
       skip
       skip
       skip
       skip
       skip
       skip
       skip
       skip
       skip
       skip
       skip
       skip
       skip
       skip
       skip
       skip
       skip
       skip
       skip
       skip
       skip
       skip
       skip
       skip
       skip
       skip
       skip
       skip
       skip
       skip
       skip
       skip
       skip
       skip
       skip
       skip
       skip
       skip
       skip
       skip
       skip
       skip
       skip
       skip
       skip
       skip
       skip
       skip
       skip
       skip
       skip
       skip
       skip
       skip
       skip
       skip
       skip
       skip
       skip
       skip
       skip
       skip
       skip
       skip
       skip
       skip
       skip
       skip
       skip
       skip
       skip
       skip
       skip
       skip
       skip
       skip
       skip
       skip
       skip
       skip
       skip
       skip
       skip
       skip
       skip
       skip
       skip
       skip
       skip
       skip
       skip
       skip
       skip
       skip
       skip
       skip
       skip
       skip
       skip
       skip
       skip
       skip
       skip
       skip
       skip
       skip
       skip
       skip
       skip
       skip
       skip
       skip
       skip
       skip
       skip
       skip
       skip
       skip
       skip
       skip
       skip
       skip
       skip
       skip
       skip
       skip
       skip
       skip
       skip
       skip
       skip
       skip
       skip
       skip
       skip
       skip
       skip
       skip
       skip
       skip
       skip
       skip
       skip
       skip
       skip
       skip
       skip
       skip
       skip
       skip
       skip
       skip
       skip
       skip
       skip
       skip
       skip
       skip
       skip
       skip
       skip
       skip
       skip
       skip
       skip
       skip
       skip
       skip
       skip
       skip
       skip
       skip
       skip
       skip
       skip
       skip
       skip
       skip
       skip
       skip
       skip
       skip
       skip
       skip
       skip
       obtain ⟨br, rfl, HA, gZ, aX, aY, ah, aZ, aQ, b0, b1, b2, aA, aC, aG, aJ, aK, ar, bS, HB⟩ := hrel
       cases gk with
       | zero => exact absurd HA.o (by simp [foundrylaw14_CodeDead.l0])
       | succ k3 =>
        have H := HA.o
        clear HA
        simp only [foundrylaw14_CodeDead.l0] at H
        by_cases dB : br < (aV.length : Int)
        rotate_left
        ·rw [if_neg dB] at H
         replace dB := d0 dB
         obtain rfl := Option.some.inj H
         obtain ⟨-, -, -, fi⟩ := c4_ wr aJ.o
         go_wp2
         go_ret
         exact ⟨by (rfl), by repeat ((with_reducible (exact HB.o)))⟩
        rw [if_pos dB] at H
        replace dB := d1 dB
        replace H := bm H
        obtain ⟨⟨ej, dp, cn⟩, et, H⟩ := H
        replace H : ((qBI.f bL b9 bP ba ao aW br).bind fun cY => (if (cn != cY.2.2) = true then (none) else (if dp = cY.2.1 then ((foundrylaw14_alike.f k3 ej cY.1).bind fun cl => (if cl = true then (foundrylaw14_CodeDead.l0 k3 (wrap64 (br + 1)) aP au aR aV ao aW bL b9 bP ba) else (none))) else (none)))) = some r := H
        have fw := am et
        clear et
        replace H := bm H
        obtain ⟨⟨fH, ek, dF⟩, eu, H⟩ := H
        replace H : (if (cn != dF) = true then (none) else (if dp = ek then ((foundrylaw14_alike.f k3 ej fH).bind fun cl => (if cl = true then (foundrylaw14_CodeDead.l0 k3 (wrap64 (br + 1)) aP au aR aV ao aW bL b9 bP ba) else (none))) else (none))) = some r := H
        have fx := am eu
        clear eu
        by_cases dC : (cn != dF) = true
        ·rw [if_pos dC] at H
         exact absurd H (by simp)
        rw [if_neg dC] at H
        have fz : (cn != dF) = false := by simpa using dC
        (try (have gA : decide (cn = dF) = true := by simpa using dC))
        (try (have gB : (cn == dF) = true := by simpa using dC))
        clear dC
        obtain ⟨dv, H⟩ := gd H
        have gC : (dp != ek) = false := bn dv
        clear dv
        replace H := bm H
        obtain ⟨cl, ev, H⟩ := H
        replace H : (if cl = true then (foundrylaw14_CodeDead.l0 k3 (wrap64 (br + 1)) aP au aR aV ao aW bL b9 bP ba) else (none)) = some r := H
        have fy := am ev
        clear ev
        by_cases dw : cl = true
        rotate_left
        ·replace dw := Bool.eq_false_iff.mpr dw
         subst dw
         replace H : (none) = some r := by rw [if_neg (show ¬ (false = true) by decide)] at H; exact H
         exact absurd H (by simp)
        subst dw
        replace H : (foundrylaw14_CodeDead.l0 k3 (wrap64 (br + 1)) aP au aR aV ao aW bL b9 bP ba) = some r := by rw [if_pos rfl] at H; exact H
        have H' := am H
        clear H
        obtain ⟨f5, f6, f7, f9⟩ := c4_ wr aJ.o
        obtain ⟨fa, fb⟩ := c2_ wr aK.o
        go_wp2_with (first | ((with_reducible refine qA7 (f := 27) rfl ?_); refine gL 105 Tryz.func27 #[.agg #[.slice bN aP.length bM, .int .i64 au, .slice bT aR.length bR, .slice b5 aV.length b4], .agg #[.slice bb ao.length b7, .slice bQ aW.length bO], .int .i64 br] ?_; (with_reducible refine (qBI.calls _ _ aP au _ _ aR _ _ aV _ _ ao _ _ aW br ej dp cn _ ?side1 ?side2 ?side3 ?side4 ?side5 ?side6 ?side7 ?side8 ?side9 ?side10 fw.o).mono ?_); (case side1 => repeat ((exact (Kd.R_reads' aX.o).2.2))); (case side2 => exact (Kd.R_reads' aX.o).2.1); (case side3 => repeat ((exact (Kd.R_reads' aY.o).2.2))); (case side4 => exact (Kd.R_reads' aY.o).2.1); (case side5 => repeat ((exact (Kd.R_reads' ah.o).2.2))); (case side6 => exact (Kd.R_reads' ah.o).2.1); (case side7 => repeat ((exact (Kd.S_reads' aZ.o).2.2))); (case side8 => exact (Kd.S_reads' aZ.o).2.1); (case side9 => repeat ((exact (Kd.R_reads' aQ.o).2.2))); (case side10 => exact (Kd.R_reads' aQ.o).2.1); rintro e fk ⟨gz, rfl, bo, hb⟩; refine ⟨_, rfl, ?_⟩; have n0_ := am (Kd.R_elder' (by (with_reducible repeat (fail)); exact aX.o) (Kd.R_base bo) hb); have n1_ := am (Kd.R_elder' (by (with_reducible repeat (fail)); exact aY.o) (Kd.R_base bo) hb); have n2_ := am (Kd.R_below (by (with_reducible repeat (fail)); exact ah.o) hb); have n3_ := am (Kd.S_elder' (by (with_reducible repeat (fail)); exact aZ.o) (Kd.R_base bo) hb); have n4_ := am (Kd.R_elder' (by (with_reducible repeat (fail)); exact aQ.o) (Kd.R_base bo) hb); have n5_ := am (Kd.R_elder' (by (with_reducible repeat (fail)); exact b0.o) (Kd.R_base bo) hb); have n6_ := am (Kd.R_elder' (by (with_reducible repeat (fail)); exact b1.o) (Kd.R_base bo) hb); have n7_ := am (Kd.R_below (by (with_reducible repeat (fail)); exact b2.o) hb); have n8_ := am (Kd.R_lower (Kd.R_new' (Kd.R_new' (Kd.R_new' (Kd.R_new' (Kd.R_new' bo (Kd.R_lt (by (with_reducible repeat (fail)); exact aX.o))) (Kd.R_lt (by (with_reducible repeat (fail)); exact aY.o))) (Kd.R_lt (by (with_reducible repeat (fail)); exact aQ.o))) (Kd.R_lt (by (with_reducible repeat (fail)); exact b0.o))) (Kd.R_lt (by (with_reducible repeat (fail)); exact b1.o))) (qAm (by repeat ((with_reducible (exact HB.o)))))); have n9_ := am (qAk (g := aD) (o := .cells #[.slice aa l0_0.length ad, .int .i64 a0_1, .slice ab l0_2.length ae, .slice ac l0_3.length af] 27 (0, 0)) (by (with_reducible repeat (fail)); exact aA.o) hb); have n10_ := am (qAk (g := aF) (o := .cells #[.slice aj l1_0.length al, .slice ak l1_1.length an] 30 (0, 0)) (by (with_reducible repeat (fail)); exact aC.o) hb); have n11_ := am (qAk (g := aH) (o := .cells #[.int .i64 a3_0, .int .i64 a3_1, .int .i64 a3_2, .int .u64 a3_3] 50 (0, 0)) (by (with_reducible repeat (fail)); exact aG.o) hb); have n12_ := am (qAk (g := aB) (o := .cells #[.slice bN aP.length bM, .int .i64 au, .slice bT aR.length bR, .slice b5 aV.length b4] 37 (0, 0)) (by (with_reducible repeat (fail)); exact aJ.o) hb); have n13_ := am (qAk (g := aE) (o := .cells #[.slice bb ao.length b7, .slice bQ aW.length bO] 41 (0, 0)) (by (with_reducible repeat (fail)); exact aK.o) hb); have n14_ := am (qAk (g := aI) (o := .cells #[.int .i64 a3_0, .int .i64 a3_1, .int .i64 a3_2, .int .u64 a3_3] 51 (0, 0)) (by (with_reducible repeat (fail)); exact ar.o) hb); have n15_ := am (qAk (g := ay) (o := .cells #[.slice b6 bL.length b8, .int .i64 b9, .slice bU bP.length bV, .slice (some ⟨go83, 0, none⟩) ba.length bX] 37 (0, 0)) (by (with_reducible repeat (fail)); exact bS.o) hb); have n16_ := am (qAq (by repeat ((with_reducible (exact HB.o)))) hb); clear aX; clear aY; clear ah; clear aZ; clear aQ; clear b0; clear b1; clear b2; clear aA; clear aC; clear aG; clear aJ; clear aK; clear ar; clear bS; clear HB; have aX := n0_; have aY := n1_; have ah := n2_; have aZ := n3_; have aQ := n4_; have b0 := n5_; have b1 := n6_; have b2 := n7_; have cX := n8_; have aA := n9_; have aC := n10_; have aG := n11_; have aJ := n12_; have aK := n13_; have ar := n14_; have bS := n15_; have HB := n16_; clear n0_ n1_ n2_ n3_ n4_ n5_ n6_ n7_ n8_ n9_ n10_ n11_ n12_ n13_ n14_ n15_ n16_; (skip); (skip); (skip); obtain ⟨fc, fd, fe, ff⟩ := c4_ fk bS.o; obtain ⟨fg, fh⟩ := c2_ fk aK.o; have fj := qAb aK.o 1) | ((with_reducible refine qA7 (f := 27) rfl ?_); refine gL 113 Tryz.func27 #[.agg #[.slice b6 bL.length b8, .int .i64 b9, .slice bU bP.length bV, .slice (some ⟨go83, 0, none⟩) ba.length bX], .agg #[.slice bb ao.length b7, .slice bQ aW.length bO], .int .i64 br] ?_; (with_reducible refine (qBI.calls _ _ bL b9 _ _ bP _ _ ba _ _ ao _ _ aW br fH ek dF _ ?side1 ?side2 ?side3 ?side4 ?side5 ?side6 ?side7 ?side8 ?side9 ?side10 fx.o).mono ?_); (case side1 => repeat ((exact (Kd.R_reads' b0.o).2.2))); (case side2 => exact (Kd.R_reads' b0.o).2.1); (case side3 => repeat ((exact (Kd.R_reads' b1.o).2.2))); (case side4 => exact (Kd.R_reads' b1.o).2.1); (case side5 => repeat ((exact (Kd.R_reads' b2.o).2.2))); (case side6 => exact (Kd.R_reads' b2.o).2.1); (case side7 => repeat ((exact (Kd.S_reads' aZ.o).2.2))); (case side8 => exact (Kd.S_reads' aZ.o).2.1); (case side9 => repeat ((exact (Kd.R_reads' aQ.o).2.2))); (case side10 => exact (Kd.R_reads' aQ.o).2.1); rintro e hD ⟨hA, rfl, bo, hb⟩; refine ⟨_, rfl, ?_⟩; have n0_ := am (Kd.R_elder' (by (with_reducible repeat (fail)); exact aX.o) (Kd.R_base bo) hb); have n1_ := am (Kd.R_elder' (by (with_reducible repeat (fail)); exact aY.o) (Kd.R_base bo) hb); have n2_ := am (Kd.R_below (by (with_reducible repeat (fail)); exact ah.o) hb); have n3_ := am (Kd.S_elder' (by (with_reducible repeat (fail)); exact aZ.o) (Kd.R_base bo) hb); have n4_ := am (Kd.R_elder' (by (with_reducible repeat (fail)); exact aQ.o) (Kd.R_base bo) hb); have n5_ := am (Kd.R_elder' (by (with_reducible repeat (fail)); exact b0.o) (Kd.R_base bo) hb); have n6_ := am (Kd.R_elder' (by (with_reducible repeat (fail)); exact b1.o) (Kd.R_base bo) hb); have n7_ := am (Kd.R_below (by (with_reducible repeat (fail)); exact b2.o) hb); have n8_ := am (Kd.R_elder' (by (with_reducible repeat (fail)); exact cX.o) (Kd.R_base bo) hb); have n9_ := am (Kd.R_lower (Kd.R_new' (Kd.R_new' (Kd.R_new' (Kd.R_new' (Kd.R_new' (Kd.R_new' bo (Kd.R_lt (by (with_reducible repeat (fail)); exact aX.o))) (Kd.R_lt (by (with_reducible repeat (fail)); exact aY.o))) (Kd.R_lt (by (with_reducible repeat (fail)); exact aQ.o))) (Kd.R_lt (by (with_reducible repeat (fail)); exact b0.o))) (Kd.R_lt (by (with_reducible repeat (fail)); exact b1.o))) (Kd.R_lt (by (with_reducible repeat (fail)); exact cX.o))) (qAm (by repeat ((with_reducible (exact HB.o)))))); have n10_ := am (qAk (g := aD) (o := .cells #[.slice aa l0_0.length ad, .int .i64 a0_1, .slice ab l0_2.length ae, .slice ac l0_3.length af] 27 (0, 0)) (by (with_reducible repeat (fail)); exact aA.o) hb); have n11_ := am (qAk (g := aF) (o := .cells #[.slice aj l1_0.length al, .slice ak l1_1.length an] 30 (0, 0)) (by (with_reducible repeat (fail)); exact aC.o) hb); have n12_ := am (qAk (g := aH) (o := .cells #[.int .i64 a3_0, .int .i64 a3_1, .int .i64 a3_2, .int .u64 a3_3] 50 (0, 0)) (by (with_reducible repeat (fail)); exact aG.o) hb); have n13_ := am (qAk (g := aB) (o := .cells #[.slice bN aP.length bM, .int .i64 au, .slice bT aR.length bR, .slice b5 aV.length b4] 37 (0, 0)) (by (with_reducible repeat (fail)); exact aJ.o) hb); have n14_ := am (qAk (g := aE) (o := .cells #[.slice bb ao.length b7, .slice bQ aW.length bO] 41 (0, 0)) (by (with_reducible repeat (fail)); exact aK.o) hb); have n15_ := am (qAk (g := aI) (o := .cells #[.int .i64 a3_0, .int .i64 a3_1, .int .i64 a3_2, .int .u64 a3_3] 51 (0, 0)) (by (with_reducible repeat (fail)); exact ar.o) hb); have n16_ := am (qAk (g := ay) (o := .cells #[.slice b6 bL.length b8, .int .i64 b9, .slice bU bP.length bV, .slice (some ⟨go83, 0, none⟩) ba.length bX] 37 (0, 0)) (by (with_reducible repeat (fail)); exact bS.o) hb); have n17_ := am (qAq (by repeat ((with_reducible (exact HB.o)))) hb); clear aX; clear aY; clear ah; clear aZ; clear aQ; clear b0; clear b1; clear b2; clear cX; clear aA; clear aC; clear aG; clear aJ; clear aK; clear ar; clear bS; clear HB; have aX := n0_; have aY := n1_; have ah := n2_; have aZ := n3_; have aQ := n4_; have b0 := n5_; have b1 := n6_; have b2 := n7_; have cX := n8_; have dG := n9_; have aA := n10_; have aC := n11_; have aG := n12_; have aJ := n13_; have aK := n14_; have ar := n15_; have bS := n16_; have HB := n17_; clear n0_ n1_ n2_ n3_ n4_ n5_ n6_ n7_ n8_ n9_ n10_ n11_ n12_ n13_ n14_ n15_ n16_ n17_; (skip); (skip); (skip); obtain ⟨gX, g0, fZ⟩ := Kd.R_slice cX.o; subst fZ; obtain ⟨gY, g1, f3⟩ := Kd.R_slice dG.o; subst f3) | (go_at_call 31; (with_reducible refine (foundrylaw14_alike.calls k3 _ _ ej _ _ fH true _ ?side1 ?side2 ?side3 ?side4 fy.o).mono ?_); (case side1 => repeat ((exact (Kd.R_reads' cX.o).2.2))); (case side2 => exact (Kd.R_reads' cX.o).2.1); (case side3 => repeat ((exact (Kd.R_reads' dG.o).2.2))); (case side4 => exact (Kd.R_reads' dG.o).2.1); rintro e w' ⟨rfl, ⟨nd, rfl⟩⟩))
        go_roundg k3
        case measure => have := dt.o; have := fP.o; have := gZ.o; omega
        case rel => exact ⟨(wrap64 (br + 1)), (by (rfl)), H', ⟨by have := dt.o; have := fP.o; have := gZ.o; omega⟩, ⟨by (skip); (with_reducible repeat ((apply Kd.R_drewN))); exact Kd.R_mono aX.o (fun _ hk => ⟨hk.1.1.1, ⟨hk.1.1.2.1, ⟨hk.1.1.2.2.1, hk.1.1.2.2.2⟩⟩⟩)⟩, ⟨by (skip); (with_reducible repeat ((apply Kd.R_drewN))); exact Kd.R_mono aY.o (fun _ hk => ⟨hk.1.1.1, ⟨hk.1.1.2.1, ⟨hk.1.1.2.2.1, hk.1.1.2.2.2⟩⟩⟩)⟩, ⟨by (skip); (with_reducible repeat ((apply Kd.R_drewN))); exact ah.o⟩, ⟨by (skip); (with_reducible repeat ((apply Kd.S_drewN))); exact Kd.S_mono aZ.o (fun _ hk => ⟨hk.1.1.1, ⟨hk.1.1.2.1, ⟨hk.1.1.2.2.1, ⟨hk.1.1.2.2.2.1, hk.1.1.2.2.2.2⟩⟩⟩⟩)⟩, ⟨by (skip); (with_reducible repeat ((apply Kd.R_drewN))); exact Kd.R_mono aQ.o (fun _ hk => ⟨hk.1.1.1, ⟨hk.1.1.2.1, ⟨hk.1.1.2.2.1, hk.1.1.2.2.2⟩⟩⟩)⟩, ⟨by (skip); (with_reducible repeat ((apply Kd.R_drewN))); exact Kd.R_mono b0.o (fun _ hk => ⟨hk.1.1.1, ⟨hk.1.1.2.1, ⟨hk.1.1.2.2.1, hk.1.1.2.2.2⟩⟩⟩)⟩, ⟨by (skip); (with_reducible repeat ((apply Kd.R_drewN))); exact Kd.R_mono b1.o (fun _ hk => ⟨hk.1.1.1, ⟨hk.1.1.2.1, ⟨hk.1.1.2.2.1, hk.1.1.2.2.2⟩⟩⟩)⟩, ⟨by (skip); (with_reducible repeat ((apply Kd.R_drewN))); exact b2.o⟩, ⟨by (skip); (with_reducible repeat ((refine qAs ?_ _))); exact aA.o⟩, ⟨by (skip); (with_reducible repeat ((refine qAs ?_ _))); exact aC.o⟩, ⟨by (skip); (with_reducible repeat ((refine qAs ?_ _))); exact aG.o⟩, ⟨by (skip); (with_reducible repeat ((refine qAs ?_ _))); exact aJ.o⟩, ⟨by (skip); (with_reducible repeat ((refine qAs ?_ _))); exact aK.o⟩, ⟨by (skip); (with_reducible repeat ((refine qAs ?_ _))); exact ar.o⟩, ⟨by (skip); (with_reducible repeat ((refine qAs ?_ _))); exact bS.o⟩, ⟨by repeat ((with_reducible first | exact HB.o | apply qAe))⟩⟩
 ·replace c6 := Bool.eq_false_iff.mpr c6
  subst c6
  replace H : (none) = some r := by rw [if_neg (show ¬ (false = true) by decide)] at H; exact H
  exact absurd H (by simp)
end Q
end
section
namespace Q
open Go.RowKit YA YC YB
open Val Ins
namespace C14
theorem alike_refl (l : List Int) (hl : l.length ≤ 4611686018427387904) : Ev (fun k => foundrylaw14_alike.f k l l) true := by
 have loop : ∀ (d : Nat) (i : Int), 0 ≤ i → (l.length : Int) - i = d → Ev (fun k => foundrylaw14_alike.l0 k l l i) true := by
  intro d
  induction d with
  | zero =>
   intro i h0 hd
   refine Ev.step (f := fun _ => some true) (fun k => ?_) (Ev.now _)
   simp only [foundrylaw14_alike.l0]; rw [if_neg (by omega)]
  | succ d ih =>
   intro i h0 hd
   refine Ev.step (f := fun k => foundrylaw14_alike.l0 k l l (i + 1)) (fun k => ?_) (ih (i + 1) (by omega) (by omega))
   simp only [foundrylaw14_alike.l0]; rw [if_pos (by omega), if_pos h0, if_pos (by omega), if_pos trivial, qDc (n := l.length) h0 (by omega) hl]
 refine Ev.congr (f := fun k => foundrylaw14_alike.l0 k l l 0) (fun k => by unfold foundrylaw14_alike.f; rw [if_pos rfl]) ?_
 exact loop l.length 0 (by omega) (by omega)
theorem shapeAt_len2 (ps : List Int) (res : Int) (ls : List Int) (code : List S51) (fs : List S34) (vs : List Int) (at_ : Int) : (qBB (qAS ps res ls code fs vs) at_).1.length ≤ 512 := by
 rcases qDS ps res ls code fs vs with ⟨h, _⟩ | ⟨out, ho⟩
 ·unfold qBB; rw [h]; simp
 obtain ⟨R, hR⟩ := One.shapes_zero (ps := ps) (res := res) (ls := ls) (code := code) (fs := fs) (vs := vs) (by rw [ho])
 have he := hR.eq
 rw [he]
 show (if 0 ≤ at_ ∧ at_ < R.length ∧ (qA2 R at_).f0 = true then ((qA2 R at_).f1, ((qA2 R at_).f2.length : Int), true) else ([], 0, false)).1.length ≤ 512
 split
 ·rename_i h
  have hm : qA2 R at_ ∈ R := getD_mem R z113 at_ h.1 h.2.1
  exact (hR.sh _ hm).1
 simp
theorem Good.shp2 {ps ls : List Int} {code : List S50} {fs : List S24} {vs : List Int} (g : Good ps ls code fs vs) (res at_ : Int) : qBI.f ps res ls (code.map ofI) (fs.map ofS) vs at_ = some (qBB (qAS ps res ls (code.map ofI) (fs.map ofS) vs) at_) := if_pos g.sz
theorem dead_ev (a0 : List Int) (a1 : Int) (a2 : List Int) (a3 : List S50) (b0 : List S24) (b1 : List Int) (at_ : Int) (c0 c1 c2 c3 : Int) (hg : qBH 1048576 ⟨⟨a0, a1⟩, a2, a3⟩) (hh : qB7 1048576 ⟨b0, b1⟩) (hi : qBW 1048576 ⟨c0, c1, ⟨c2, c3⟩⟩) : Ev (fun k => foundrylaw14_CodeDead.f k a0 a1 a2 a3 b0 b1 at_ c0 c1 c2 c3) true := by
 have g := good_of hg hh
 have hc3 : 0 ≤ c3 ∧ c3 < 18446744073709551616 := u64_bounds hi.2.2.2
 have hl3 : a3.length ≤ 1048576 := g.c
 have j0t : Ev (fun k => foundrylaw14_CodeDead.j0 k at_ true a0 a1 a2 a3 a0 a1 a2 (a3.map ofI) (b0.map ofS) b1 c0 c1 c2 c3) true := by
  refine Ev.step (f := fun _ => some true) (fun k => ?_) (Ev.now _)
  simp only [foundrylaw14_CodeDead.j0]; rfl
 unfold foundrylaw14_CodeDead.f
 simp only [live_eq, Option.bind_some, if_true]
 refine Ev.bind (fn_ev a0 a1 a2 a3 g.p g.l g.c) ?_
 refine Ev.bind (frame_ev b0 b1 g.f g.v g.s) ?_
 simp only [g.ver, g.shp2, Option.bind_some]
 by_cases he : (qAS a0 a1 a2 (a3.map ofI) (b0.map ofS) b1).2.2 = 0
 rotate_left
 ·simp only [he, if_false]
  exact j0t
 simp only [he, if_true]
 cases hs : (qBB (qAS a0 a1 a2 (a3.map ofI) (b0.map ofS) b1) at_).2.2 with
 | true =>
  simp only [if_true]
  exact j0t
 | false =>
  simp only [Bool.false_eq_true, if_false]
  by_cases h0 : at_ < 0
  ·simp only [h0, if_true]
   exact j0t
  by_cases h1 : at_ ≥ ((a3.map ofI).length : Int)
  ·simp only [h0, h1, if_false, if_true]
   exact j0t
  have hr : qDJ.f c0 c1 c2 c3 = some (okI c0 c1 c2 c3) := if_pos hc3
  simp only [h0, h1, if_false, hr, Option.bind_some]
  cases hok : okI c0 c1 c2 c3 with
  | false => exact j0t
  | true =>
   obtain ⟨R, hR⟩ := One.shapes_zero he
   rw [List.length_map] at h1
   have hlen := hR.len
   rw [List.length_map] at hlen
   have hm : (qA2 R at_).f0 = false := by
    rw [hR.eq] at hs
    change (if 0 ≤ at_ ∧ at_ < R.length ∧ (qA2 R at_).f0 = true then ((qA2 R at_).f1, ((qA2 R at_).f2.length : Int), true) else ([], 0, false)).2.2 = false at hs
    cases hf : (qA2 R at_).f0 with
    | false => rfl
    | true =>
     rw [if_pos ⟨by omega, by omega, hf⟩] at hs
     cases hs
   have hm' : (qA2 R ((at_.toNat : Nat) : Int)).f0 = false := by rw [show ((at_.toNat : Nat) : Int) = at_ from by omega]; exact hm
   have hd := One.shapes_dead hR at_.toNat hm' ⟨c0, c1, ⟨c2, c3⟩⟩ hok
   have hsz : vSz a0 a2 ((a3.map ofI).set at_.toNat ⟨c0, c1, ⟨c2, c3⟩⟩) (b0.map ofS) b1 = true := by
    have h := g.sz
    unfold vSz at h ⊢
    simp only [Bool.and_eq_true, decide_eq_true_eq, List.all_eq_true, List.length_set] at h ⊢
    obtain ⟨h1, h2, h3, h4, h5, h6, h7⟩ := h
    refine ⟨h1, h2, h3, h4, h5, fun x hx => ?_, h7⟩
    rcases List.mem_or_eq_of_mem_set hx with hx | hx
    ·exact h6 x hx
    rw [hx]; exact decide_eq_true hc3
   have hv : qAN.f a0 a1 a2 ((a3.map ofI).set at_.toNat ⟨c0, c1, ⟨c2, c3⟩⟩) (b0.map ofS) b1 = some (0, 0) := by unfold qAN.f; rw [if_pos hsz, hd]
   have hsh : ∀ i, qBI.f a0 a1 a2 ((a3.map ofI).set at_.toNat ⟨c0, c1, ⟨c2, c3⟩⟩) (b0.map ofS) b1 i = some (qBB (some R, 0, 0) i) := fun i => by unfold qBI.f; rw [if_pos hsz, hd]
   have hso : ∀ i, qBI.f a0 a1 a2 (a3.map ofI) (b0.map ofS) b1 i = some (qBB (some R, 0, 0) i) := fun i => by rw [g.shp2, hR.eq]
   have hll : ∀ i, (qBB (some R, 0, 0) i).1.length ≤ 512 := fun i => by have := shapeAt_len2 a0 a1 a2 (a3.map ofI) (b0.map ofS) b1 i; rw [hR.eq] at this; exact this
   have loop : ∀ (d : Nat) (i : Int), 0 ≤ i → (a3.length : Int) - i = d → Ev (fun k => foundrylaw14_CodeDead.l0 k i a0 a1 a2 (a3.map ofI) (b0.map ofS) b1 a0 a1 a2 ((a3.map ofI).set at_.toNat ⟨c0, c1, ⟨c2, c3⟩⟩)) true := by
    intro d
    induction d with
    | zero =>
     intro i h0 hd
     refine Ev.step (f := fun _ => some true) (fun k => ?_) (Ev.now _)
     simp only [foundrylaw14_CodeDead.l0]; rw [if_neg (by rw [List.length_map]; omega)]
    | succ d ih =>
     intro i h0 hd
     refine Ev.step (f := fun k => (foundrylaw14_alike.f k (qBB (some R, 0, 0) i).1 (qBB (some R, 0, 0) i).1).bind fun t => if t = true then foundrylaw14_CodeDead.l0 k (i + 1) a0 a1 a2 (a3.map ofI) (b0.map ofS) b1 a0 a1 a2 ((a3.map ofI).set at_.toNat ⟨c0, c1, ⟨c2, c3⟩⟩) else none) (fun k => ?_) (Ev.bind (alike_refl _ (by have := hll i; omega)) ?_)
     ·simp only [foundrylaw14_CodeDead.l0, hso, hsh, Option.bind_some, bne_self_eq_false, Bool.false_eq_true, if_false, if_true]
      rw [if_pos (by rw [List.length_map]; omega), qDc (n := a3.length) h0 (by omega) (by omega)]
     simp only [if_true]
     exact ih (i + 1) (by omega) (by omega)
   refine Ev.step (f := fun k => (qAG.f k a0 a1 a2 a3).bind fun bt762 => (if 0 ≤ at_ then (if at_ < (bt762.2.2.2.length : Int) then ((some (bt762.2.2.2.set (at_ : Int).toNat (⟨c0, c1, (⟨c2, c3⟩ : S48)⟩ : S51) : List (S51))).bind fun y773 => ((qAN.f bt762.1 bt762.2.1 bt762.2.2.1 y773 (b0.map ofS) b1).bind fun bt774 => (if bt774.2 = 0 then (foundrylaw14_CodeDead.j1 k (bt774.1 != 0) a0 a1 a2 (a3.map ofI) (b0.map ofS) b1 bt762.1 bt762.2.1 bt762.2.2.1 y773) else (foundrylaw14_CodeDead.j1 k true a0 a1 a2 (a3.map ofI) (b0.map ofS) b1 bt762.1 bt762.2.1 bt762.2.2.1 y773)))) else (none)) else (none))) (fun k => ?_) (Ev.bind (fn_ev a0 a1 a2 a3 g.p g.l g.c) ?_)
   ·simp only [foundrylaw14_CodeDead.j0]; rfl
   have q1 : 0 ≤ at_ := by omega
   have q2 : at_ < ((a3.map ofI).length : Int) := by rw [List.length_map]; omega
   simp only [q1, q2, if_true, Option.bind_some, hv, bne_self_eq_false]
   refine Ev.step (f := fun k => foundrylaw14_CodeDead.l0 k 0 a0 a1 a2 (a3.map ofI) (b0.map ofS) b1 a0 a1 a2 ((a3.map ofI).set at_.toNat ⟨c0, c1, ⟨c2, c3⟩⟩)) (fun k => by simp only [foundrylaw14_CodeDead.j1]; rfl) ?_
   exact loop a3.length 0 (by omega) (by omega)
end C14
end Q
end
end Go.Proofs.YtfddibbignedkaaGreatDoor
