/- What the document's object.Unpack and the program's tell of any bytes is the same: Rows.ObjectReadsSaid. Part 9 of 11. -/
import Derived.Test.YtfjpnjbinbhcfaaGreatM8
set_option maxHeartbeats 8000000
set_option maxRecDepth 100000
set_option linter.unusedVariables false
set_option linter.unusedSimpArgs false
namespace Go.Proofs.YtfjpnjbinbhcfaaGreat
section
namespace Q
open Go.RowKit PA PC PB
attribute [local go_sem] qBe min2_int qBq min_two max_three min_three max_four min_four
def qAq.f (k : Nat) (s0_0 : List Int) (s0_1 : Int) (s0_2 : Int) (a1 : Int) : Option (ByteArray × Int × Int) := (qAF.f k s0_0 s0_1 s0_2 a1).bind fun aA => (some (strOfNums aA.1, aA.2.1, aA.2.2))
theorem qAq.calls (k : Nat) (g : Nat) (s0_0 : List Int) (s0_1 : Int) (s0_2 : Int) (a1 : Int) (r1 : ByteArray) (r2 : Int) (r3 : Int) (w0 w : World) (hI : qAv w0 w g s0_0 s0_1 s0_2) (hB : Below w0.heap.size w0 w) (h : qAq.f k s0_0 s0_1 s0_2 a1 = some (r1, r2, r3)) :
  Calls Tryz.prog 67 #[.pointer (some ⟨g, 0, none⟩), .int .i64 a1] w fun e w' => e = .returned (.string r1) ∧ qAv w0 w' g s0_0 r2 r3 ∧ Below w0.heap.size w0 w' ∧ qAg w w' g none := by
 have aF := am hI
 have HK := am (qAg.refl w g none)
 clear hI
 have HB := am hB
 clear hB
 have H : ((qAF.f k s0_0 s0_1 s0_2 a1).bind fun aA => (some (strOfNums aA.1, aA.2.1, aA.2.2))) = some (r1, r2, r3) := h
 clear h
 replace H := bm H
 obtain ⟨⟨aC, aD, aE⟩, aG, H⟩ := H
 replace H : (some (strOfNums aC, aD, aE)) = some (r1, r2, r3) := H
 have A3 := am aG
 clear aG
 simp only [Option.some.injEq, Prod.mk.injEq] at H
 obtain ⟨rfl, rfl, rfl⟩ := H
 go_enter Tryz.func67, Tryz.ntmps67
 go_wp2_with ((with_reducible refine qAk (f := 132) rfl ?_); refine gL 7 Tryz.func132 #[.pointer (some ⟨g, 0, none⟩), .int .i64 a1] ?_; (with_reducible refine (qAF.calls k g s0_0 s0_1 s0_2 a1 aC aD aE w0 _ ?side1 ?side2 A3.o).mono ?_); (case side1 => exact aF.o); (case side2 => exact HB.o); rintro e w4 ⟨aI, rfl, aH, hi, hb, hk⟩; refine ⟨_, rfl, ?_⟩; have n_ := a2 (Kd.R_lower aH (qBm (w := w) (g := g) (row := none) HK.o)) (a2 (qAg.trans HK.o hk (.inl rfl)) (a2 (hb) (am (hi)))); clear HK HB aF; obtain ⟨aB, HK, HB, aF⟩ := n_; have hcv5 := qEt (P := Tryz.prog) Tryz.underlying38 Tryz.underlying5 Tryz.underlying9 (Kd.own_of_R aB.o))
 go_ret
 exact ⟨by rfl, by exact aF.o, by exact HB.o, by exact HK.o⟩
def qAt.f (k : Nat) (s0_0 : List Int) (s0_1 : Int) (s0_2 : Int) : Option (Int × Int × Int) := (qAr.f k s0_0 s0_1 s0_2 1).bind fun aA => (some ((aA.1) % 256, aA.2.1, aA.2.2))
theorem qAt.calls (k : Nat) (g : Nat) (s0_0 : List Int) (s0_1 : Int) (s0_2 : Int) (r1 : Int) (r2 : Int) (r3 : Int) (w0 w : World) (hI : qAv w0 w g s0_0 s0_1 s0_2) (hB : Below w0.heap.size w0 w) (h : qAt.f k s0_0 s0_1 s0_2 = some (r1, r2, r3)) :
  Calls Tryz.prog 69 #[.pointer (some ⟨g, 0, none⟩)] w fun e w' => e = .returned (.int .u8 r1) ∧ qAv w0 w' g s0_0 r2 r3 ∧ Below w0.heap.size w0 w' ∧ qAg w w' g none := by
 have aE := am hI
 have HK := am (qAg.refl w g none)
 clear hI
 have HB := am hB
 clear hB
 have H : ((qAr.f k s0_0 s0_1 s0_2 1).bind fun aA => (some ((aA.1) % 256, aA.2.1, aA.2.2))) = some (r1, r2, r3) := h
 clear h
 replace H := bm H
 obtain ⟨⟨aB, aC, aD⟩, aF, H⟩ := H
 replace H : (some ((aB) % 256, aC, aD)) = some (r1, r2, r3) := H
 have A2 := am aF
 clear aF
 simp only [Option.some.injEq, Prod.mk.injEq] at H
 obtain ⟨rfl, rfl, rfl⟩ := H
 go_enter Tryz.func69, Tryz.ntmps69
 go_wp2_with ((with_reducible refine qAk (f := 133) rfl ?_); refine gL 4 Tryz.func133 #[.pointer (some ⟨g, 0, none⟩), .int .i64 1] ?_; (with_reducible refine (qAr.calls k g s0_0 s0_1 s0_2 1 aB aC aD w0 _ ?side1 ?side2 A2.o).mono ?_); (case side1 => exact aE.o); (case side2 => exact HB.o); rintro e w3 ⟨rfl, hi, hb, hk⟩; refine ⟨_, rfl, ?_⟩; have n_ := a2 (qAg.trans HK.o hk (.inl rfl)) (a2 (hb) (am (hi))); clear HK HB aE; obtain ⟨HK, HB, aE⟩ := n_)
 go_ret
 exact ⟨by rfl, by exact aE.o, by exact HB.o, by exact HK.o⟩
def qAV.f (k : Nat) (s0_0 : List Int) (s0_1 : Int) (s0_2 : Int) : Option (Int × Int × Int) := (qAr.f k s0_0 s0_1 s0_2 8).bind fun aA => (some (aA.1, aA.2.1, aA.2.2))
theorem qAV.calls (k : Nat) (g : Nat) (s0_0 : List Int) (s0_1 : Int) (s0_2 : Int) (r1 : Int) (r2 : Int) (r3 : Int) (w0 w : World) (hI : qAv w0 w g s0_0 s0_1 s0_2) (hB : Below w0.heap.size w0 w) (h : qAV.f k s0_0 s0_1 s0_2 = some (r1, r2, r3)) :
  Calls Tryz.prog 70 #[.pointer (some ⟨g, 0, none⟩)] w fun e w' => e = .returned (.int .u64 r1) ∧ qAv w0 w' g s0_0 r2 r3 ∧ Below w0.heap.size w0 w' ∧ qAg w w' g none := by
 have aE := am hI
 have HK := am (qAg.refl w g none)
 clear hI
 have HB := am hB
 clear hB
 have H : ((qAr.f k s0_0 s0_1 s0_2 8).bind fun aA => (some (aA.1, aA.2.1, aA.2.2))) = some (r1, r2, r3) := h
 clear h
 replace H := bm H
 obtain ⟨⟨aB, aC, aD⟩, aF, H⟩ := H
 replace H : (some (aB, aC, aD)) = some (r1, r2, r3) := H
 have A2 := am aF
 clear aF
 simp only [Option.some.injEq, Prod.mk.injEq] at H
 obtain ⟨rfl, rfl, rfl⟩ := H
 go_enter Tryz.func70, Tryz.ntmps70
 go_wp2_with ((with_reducible refine qAk (f := 133) rfl ?_); refine gL 4 Tryz.func133 #[.pointer (some ⟨g, 0, none⟩), .int .i64 8] ?_; (with_reducible refine (qAr.calls k g s0_0 s0_1 s0_2 8 aB aC aD w0 _ ?side1 ?side2 A2.o).mono ?_); (case side1 => exact aE.o); (case side2 => exact HB.o); rintro e w3 ⟨rfl, hi, hb, hk⟩; refine ⟨_, rfl, ?_⟩; have n_ := a2 (qAg.trans HK.o hk (.inl rfl)) (a2 (hb) (am (hi))); clear HK HB aE; obtain ⟨HK, HB, aE⟩ := n_)
 go_ret
 exact ⟨by rfl, by exact aE.o, by exact HB.o, by exact HK.o⟩
mutual
def qAf.l0 : Nat → List Int → List (S172) → Option ((List (S172)) × Int)
 | 0, _, _ => none
 | k + 1, x0, x4 => if (x0.length : Int) > 0 then (if 0 < (x0.length : Int) then ((qBL.f (wrap64 (rd x0 0)) 0 0 0).bind fun aI => (if aI = 0 then (qAf.j1 k x0 x4 aI true (wrap64 (rd x0 0)) 0 0 0) else (qAf.j1 k x0 x4 aI (decide (aI > (x0.length : Int))) (wrap64 (rd x0 0)) 0 0 0))) else (none)) else (some (x4, 0))
def qAf.j1 : Nat → List Int → List (S172) → Int → Bool → Int → Int → Int → Int → Option ((List (S172)) × Int)
 | 0, _, _, _, _, _, _, _, _ => none
 | k + 1, x0, x4, x6, dD, aQ, aR, aV, aT => if dD = true then (some (([] : List (S172)), 51)) else (if aQ = 1 then (if 1 < (x0.length : Int) then (qAf.l1 k x0 x4 x6 2 aQ aR (wrap64 (rd x0 1)) aT) else (none)) else (qAf.l2 k x0 x4 x6 1 aQ aR aV aT))
def qAf.j4 : Nat → List Int → List (S172) → Int → Int → Int → Int → Int → Option ((List (S172)) × Int)
 | 0, _, _, _, _, _, _, _ => none
 | k + 1, x0, x4, x6, aQ, aR, aV, aT => (qBa.f aQ aR aV aT).bind fun bC => (if bC = true then (if (x4.length : Int) = 4096 then (some (([] : List (S172)), 3)) else (if x4.length < 4398046511104 then (if 0 ≤ x6 then (if x6 ≤ (x0.length : Int) then (qAf.l0 k (x0.drop (x6 : Int).toNat) (x4 ++ [(⟨aQ, aR, (⟨aV, aT⟩ : S83)⟩ : S172)])) else (none)) else (none)) else (none))) else (some (([] : List (S172)), 51)))
def qAf.l1 : Nat → List Int → List (S172) → Int → Int → Int → Int → Int → Int → Option ((List (S172)) × Int)
 | 0, _, _, _, _, _, _, _, _ => none
 | k + 1, x0, x4, x6, x7, aQ, aR, aV, aT => if x7 < 10 then (if 0 ≤ x7 then (if x7 < (x0.length : Int) then (qAf.l1 k x0 x4 x6 (wrap64 (x7 + 1)) aQ aR aV (Go.bits .or .u64 (IntKind.u64.wrap (aT * 256)) (IntKind.u64.wrap (rd x0 x7)))) else (none)) else (none)) else (qAf.j4 k x0 x4 x6 aQ aR aV aT)
def qAf.l2 : Nat → List Int → List (S172) → Int → Int → Int → Int → Int → Int → Option ((List (S172)) × Int)
 | 0, _, _, _, _, _, _, _, _ => none
 | k + 1, x0, x4, x6, x8, aQ, aR, aV, aT => if x8 < x6 then (if 0 ≤ x8 then (if x8 < (x0.length : Int) then (qAf.l2 k x0 x4 x6 (wrap64 (x8 + 1)) aQ (Go.bits .or .i64 (wrap64 (aR * 256)) (wrap64 (rd x0 x8))) aV aT) else (none)) else (none)) else (qAf.j4 k x0 x4 x6 aQ aR aV aT)
end
def qAf.f (k : Nat) (l0 : List Int) : Option ((List (S172)) × Int) := qAf.l0 k l0 ([] : List (S172))
def qAf.T12 : Bool × List (List Nat × List Nat) := (true, [([], []), ([0], [0]), ([1], [1]), ([2], [2]), ([], []), ([], []), ([4, 5], [4, 5]), ([6], [6]), ([7], [7]), ([3, 8], [3, 8]), ([0, 1, 2, 3, 4, 5, 6, 7, 8, 9], []), ([10, 0, 1, 2, 3, 4, 5, 6, 7, 8, 9], [10]), ([11, 9, 0, 1, 2, 3, 4, 5, 6, 7, 8, 9], [9, 11])])
def qAf.B12 : List Nat := [0, 1, 3, 7, 0, 0, 48, 112, 240, 511, 1023, 2047, 4095]
theorem qAf.tab12 : rtab .any (opsOf Tryz.f135 12) = qAf.T12 := by kernel_rfl
theorem qAf.bits12 : qCG qAf.T12.2 qAf.B12 = true := by kernel_rfl
def qAf.T16 : Bool × List (List Nat × List Nat) := (true, [([], []), ([0], [0]), ([1], [1]), ([], []), ([], []), ([3, 4], [3, 4]), ([5], [5]), ([6], [6]), ([2, 7], [2, 7]), ([0, 1, 2, 3, 4, 5, 6, 7, 8], []), ([9, 8, 0, 1, 2, 3, 4, 5, 6, 7, 8], [8, 9])])
def qAf.B16 : List Nat := [0, 1, 3, 0, 0, 24, 56, 120, 255, 511, 1023]
theorem qAf.tab16 : rtab .any (opsOf Tryz.f135 16) = qAf.T16 := by kernel_rfl
theorem qAf.bits16 : qCG qAf.T16.2 qAf.B16 = true := by kernel_rfl
theorem qAf.calls (k : Nat) (P0_ : Nat → Prop) (A0 : Option Addr) (c0 : Nat) (l0 : List Int) (r1 : List (S172)) (r2 : Int) (w : World) (hs0 : Kd.V (Kd.int .u8) 5 w w.heap.size (fun k_ => P0_ k_) (.slice A0 l0.length c0) l0) (h : qAf.f k l0 = some (r1, r2)) :
  Calls Tryz.prog 135 #[.slice A0 l0.length c0] w fun e w' => ∃ v0_ : Value, e = .returned (.tuple #[v0_, .int .i64 r2]) ∧ Kd.R k172 172 w' w.heap.size (fun k_ => (w.heap.size ≤ k_)) v0_ r1 ∧ Below w.heap.size w w' := by
 have cw := am (show Kd.V (Kd.int .u8) 5 w w.heap.size (fun k_ => (P0_ k_ ∨ w.heap.size ≤ k_)) (.slice A0 l0.length c0) l0 from Kd.V_mono hs0 (fun k_ hk => .inl hk))
 have HB := am (Below.refl w.heap.size w)
 have H : (qAf.l0 k l0 ([] : List (S172))) = some (r1, r2) := h
 clear h
 have H' := am H
 clear H
 go_enter Tryz.func135, Tryz.ntmps135
 go_wp2
 go_loopg [0, 4] k (fun kq v0 v4 w' => ∃ (aA : List Int) (aU : List (S172)), qAe (qAf.l0 kq aA aU = some (r1, r2)) ∧ qAe (kq ≤ k) ∧ qAe (Kd.V (Kd.int .u8) 5 w' w.heap.size (fun k_ => (P0_ k_ ∨ w.heap.size ≤ k_) ∧ some k_ ≠ (v4 : Value).ownBlock) v0 aA) ∧ qAe (Kd.R k172 172 w' w.heap.size (fun k_ => (w.heap.size ≤ k_)) v4 aU) ∧ qAe (Below w.heap.size w w'))
 case atStart => exact ⟨(l0), ([] : List (S172)), H', ⟨Nat.le_refl _⟩, ⟨by exact Kd.V_mono cw.o (fun _ hk => ⟨hk, (by simp [Value.ownBlock])⟩)⟩, ⟨by (exact Kd.R_nil _ _ _ _ _)⟩, ⟨by exact HB.o⟩⟩
 case round =>
  clear H'
  obtain ⟨aA, aU, HA, al, aJ, aK, HB⟩ := hrel
  cases gk with
  | zero => exact absurd HA.o (by simp [qAf.l0])
  | succ k1 =>
   have H := HA.o
   clear HA
   simp only [qAf.l0] at H
   by_cases c2 : (aA.length : Int) > 0
   rotate_left
   ·rw [if_neg c2] at H
    have bi : decide (0 < aA.length) = false := decide_eq_false (by omega)
    clear c2
    simp only [Option.some.injEq, Prod.mk.injEq] at H
    obtain ⟨rfl, rfl⟩ := H
    obtain ⟨cv, cz, cf⟩ := Kd.V_slice aJ.o
    subst cf
    go_wp2
    go_ret2
    exact ⟨_, by rfl, by exact aK.o, by exact HB.o⟩
   rw [if_pos c2] at H
   have cU := d1 c2
   have bi : decide (0 < aA.length) = true := decide_eq_true (by omega)
   clear c2
   obtain ⟨c3, H⟩ := gd H
   have cV := d1 c3
   have cW : decide (0 < aA.length) = true := decide_eq_true (by omega)
   clear c3
   replace H := bm H
   obtain ⟨aI, ci, H⟩ := H
   replace H : (if aI = 0 then (qAf.j1 k1 aA aU aI true (wrap64 (rd aA 0)) 0 0 0) else (qAf.j1 k1 aA aU aI (decide (aI > (aA.length : Int))) (wrap64 (rd aA 0)) 0 0 0)) = some (r1, r2) := H
   have A4 := am ci
   clear ci
   have cT := am H
   clear H
   obtain ⟨dE, an, dA⟩ := Kd.V_slice aJ.o
   subst dA
   have ay : 0 ≤ (0 : Int) := (by omega)
   have bA : 0 < (aA.length : Int) := od (by assumption)
   obtain ⟨aW, cY, a9⟩ := Kd.at_int (Kd.V_reads' aJ.o).2.2 0 ay bA
   cases cY
   have qi399 : (0 < aA.length) = True := eq_true (by omega)
   (try rw [show (0 : Int).toNat = 0 from rfl] at a9)
   (try rw [Addr.add_zero'] at a9)
   replace ay := eq_true ay
   replace bA := eq_true bA
   go_upto_region 5 with (first | ((with_reducible refine qAO (N := 5) rfl ?_); (try (refine qBJ (by rfl) ?_; dsimp only)); refine bx 5 #[.int .i64 0, .int .i64 0, .int .i64 0, .int .u64 0] 172 ?_; intro aD hg w7 hbox hb; have n_ := a2 (Kd.V_below (Kd.V_elderB aJ.o aD (Nat.le_of_eq hg.symm)) hb) (a2 (Kd.R_below (Kd.R_elderB aK.o aD (Nat.le_of_eq hg.symm)) hb) (a2 (qAp HB.o hb) (a2 (hbox) (am (by rw [hg]; exact (qA5 HB.o) : w.heap.size ≤ aD))))); clear aJ aK HB; obtain ⟨aJ, aK, HB, aC, ac⟩ := n_; clear hb hbox hg; have bJ : w7.cell? ⟨aD, 0, none⟩ = some (.int .i64 0) := (qAa aC.o 0).trans rfl; have bK : w7.cell? ⟨aD, 1, none⟩ = some (.int .i64 0) := (qAa aC.o 1).trans rfl; have bL : w7.cell? ⟨aD, 2, none⟩ = some (.int .i64 0) := (qAa aC.o 2).trans rfl; have bM : w7.cell? ⟨aD, 3, none⟩ = some (.int .u64 0) := (qAa aC.o 3).trans rfl; have bN := qAb aC.o 0; have bO := qAb aC.o 1; have bP := qAb aC.o 2; have bQ := qAb aC.o 3) | ((with_reducible refine qAk (f := 158) rfl ?_); refine gL 18 Tryz.func158 #[.agg #[.int .i64 (wrap64 (rd aA 0)), .int .i64 0, .int .i64 0, .int .u64 0]] ?_; (with_reducible refine (qBL.calls (wrap64 (rd aA 0)) 0 0 0 aI _ A4.o).mono ?_); rintro e w9 ⟨rfl, hb⟩; refine ⟨_, rfl, ?_⟩; have n_ := a2 (Kd.V_below (by exact (Kd.V_mono (Kd.V_far (p := ⟨aD, 3, none⟩) (Kd.V_far (p := ⟨aD, 2, none⟩) (Kd.V_far (p := ⟨aD, 1, none⟩) (Kd.V_far (p := ⟨aD, 0, none⟩) (Kd.V_mono aJ.o (fun k_ hk => (⟨hk, hk.2⟩ : _ ∧ k_ ≠ aD))) (fun _ hk => hk.2) (.int .i64 (wrap64 (rd aA 0)))) (fun _ hk => hk.2) (.int .i64 0)) (fun _ hk => hk.2) (.int .i64 0)) (fun _ hk => hk.2) (.int .u64 0)) (fun _ h_ => h_.1))) hb) (a2 (Kd.R_below (by exact (Kd.R_mono (Kd.R_far (p := ⟨aD, 3, none⟩) (Kd.R_far (p := ⟨aD, 2, none⟩) (Kd.R_far (p := ⟨aD, 1, none⟩) (Kd.R_far (p := ⟨aD, 0, none⟩) (Kd.R_mono aK.o (fun k_ hk => (⟨hk, hk.2⟩ : _ ∧ k_ ≠ aD))) (fun _ hk => hk.2) (.int .i64 (wrap64 (rd aA 0)))) (fun _ hk => hk.2) (.int .i64 0)) (fun _ hk => hk.2) (.int .i64 0)) (fun _ hk => hk.2) (.int .u64 0)) (fun _ h_ => h_.1))) hb) (a2 (qA4 (g := aD) (o := .cells #[.int .i64 (wrap64 (rd aA 0)), .int .i64 0, .int .i64 0, .int .u64 0] 172 (0, 0)) (by refine qAx (cs := #[.int .i64 (wrap64 (rd aA 0)), .int .i64 0, .int .i64 0, .int .u64 0]) ?_ 3 _ rfl; refine qAx (cs := #[.int .i64 (wrap64 (rd aA 0)), .int .i64 0, .int .i64 0, .int .u64 0]) ?_ 2 _ rfl; refine qAx (cs := #[.int .i64 (wrap64 (rd aA 0)), .int .i64 0, .int .i64 0, .int .u64 0]) ?_ 1 _ rfl; refine qAx (cs := #[.int .i64 0, .int .i64 0, .int .i64 0, .int .u64 0]) ?_ 0 _ rfl; exact aC.o) hb) (am (qAp (by repeat (with_reducible first | exact HB.o | refine qAs ?_ ac.o)) hb)))); clear aJ aK aC HB; obtain ⟨aJ, aK, aC, HB⟩ := n_; (skip)))
   (skip)
   go_cut [26] (fun dB wc => ∃ (kq : Nat) (ag : Bool), dB = .bool ag ∧ qAe (qAf.j1 kq aA aU aI ag (wrap64 (rd aA 0)) 0 0 0 = some (r1, r2)) ∧ qAe (kq ≤ k1) ∧ qAe (Kd.V (Kd.int .u8) 5 wc w.heap.size (fun k_ => (P0_ k_ ∨ w.heap.size ≤ k_) ∧ some k_ ≠ (u4 : Value).ownBlock ∧ k_ ≠ aD) (.slice (some aW) aA.length an) aA) ∧ qAe (Kd.R k172 172 wc w.heap.size (fun k_ => (w.heap.size ≤ k_) ∧ k_ ≠ aD) u4 aU) ∧ qAe (wc.heap[aD]? = some (.cells #[.int .i64 (wrap64 (rd aA 0)), .int .i64 0, .int .i64 0, .int .u64 0] 172 (0, 0))) ∧ qAe (Below w.heap.size w wc))
   case first =>
    have H := cT.o
    clear cT
    by_cases c10 : aI = 0
    ·rw [if_pos c10] at H
     have ba : (aI == 0) = true := beq_iff_eq.mpr c10
     clear c10
     (skip)
     have H' := am H
     clear H
     go_wp2
     go_meet
     case rel => exact ⟨_, (true), (by rfl), H', ⟨by have := al.o; (omega)⟩, ⟨by exact Kd.V_mono aJ.o (fun _ hk => ⟨hk.1.1, ⟨hk.1.2, hk.2⟩⟩)⟩, ⟨by exact aK.o⟩, ⟨by exact aC.o⟩, ⟨by exact HB.o⟩⟩
    rw [if_neg c10] at H
    have ba : (aI == 0) = false := bf c10
    (skip)
    have H' := am H
    clear H
    go_wp2
    go_meet
    case rel => exact ⟨_, (decide (aI > (aA.length : Int))), (by rfl), H', ⟨by have := al.o; (omega)⟩, ⟨by exact Kd.V_mono aJ.o (fun _ hk => ⟨hk.1.1, ⟨hk.1.2, hk.2⟩⟩)⟩, ⟨by exact aK.o⟩, ⟨by exact aC.o⟩, ⟨by exact HB.o⟩⟩
   case rest =>
    clear cT
    obtain ⟨kq, ag, rfl, HA, bD, aJ, aK, aC, HB⟩ := hcut
    cases kq with
    | zero => exact absurd HA.o (by simp [qAf.j1])
    | succ bS =>
     have H := HA.o
     clear HA
     simp only [qAf.j1] at H
     by_cases bk : ag = true
     ·subst bk
      replace H : (some (([] : List (S172)), 51)) = some (r1, r2) := by rw [if_pos rfl] at H; exact H
      simp only [Option.some.injEq, Prod.mk.injEq] at H
      obtain ⟨rfl, rfl⟩ := H
      go_wp2
      go_ret2
      exact ⟨_, by rfl, by (exact Kd.R_nil _ _ _ _ _), by exact HB.o⟩
     replace bk := Bool.eq_false_iff.mpr bk
     subst bk
     replace H : (if (wrap64 (rd aA 0)) = 1 then (if 1 < (aA.length : Int) then (qAf.l1 bS aA aU aI 2 (wrap64 (rd aA 0)) 0 (wrap64 (rd aA 1)) 0) else (none)) else (qAf.l2 bS aA aU aI 1 (wrap64 (rd aA 0)) 0 0 0)) = some (r1, r2) := by rw [if_neg (show ¬ (false = true) by decide)] at H; exact H
     have bH := am H
     clear H
     have aZ : wc.cell? ⟨aD, 0, none⟩ = some (.int .i64 (wrap64 (rd aA 0))) := (qAa aC.o 0).trans rfl
     have a1 : wc.cell? ⟨aD, 1, none⟩ = some (.int .i64 0) := (qAa aC.o 1).trans rfl
     have a3 : wc.cell? ⟨aD, 2, none⟩ = some (.int .i64 0) := (qAa aC.o 2).trans rfl
     have a4 : wc.cell? ⟨aD, 3, none⟩ = some (.int .u64 0) := (qAa aC.o 3).trans rfl
     have a5 := qAb aC.o 0
     have a6 := qAb aC.o 1
     have a7 := qAb aC.o 2
     have a8 := qAb aC.o 3
     go_upto_if 29 with (fail)
     go_cut [] (fun wc => ∃ (kq : Nat) (aE : Int) (aG : Int) (aH : Int), qAe (qAf.j4 kq aA aU aI (wrap64 (rd aA 0)) aE aG aH = some (r1, r2)) ∧ qAe (kq ≤ bS) ∧ qAe (Kd.V (Kd.int .u8) 5 wc w.heap.size (fun k_ => (P0_ k_ ∨ w.heap.size ≤ k_) ∧ some k_ ≠ (u4 : Value).ownBlock ∧ k_ ≠ aD) (.slice (some aW) aA.length an) aA) ∧ qAe (Kd.R k172 172 wc w.heap.size (fun k_ => (w.heap.size ≤ k_) ∧ k_ ≠ aD) u4 aU) ∧ qAe (wc.heap[aD]? = some (.cells #[.int .i64 (wrap64 (rd aA 0)), .int .i64 aE, .int .i64 aG, .int .u64 aH] 172 (0, 0))) ∧ qAe (Below w.heap.size w wc))
     case first =>
      have H := bH.o
      clear bH
      by_cases bF : (wrap64 (rd aA 0)) = 1
      rotate_left
      ·rw [if_neg bF] at H
       have aa : ((wrap64 (rd aA 0)) == 1) = false := bf bF
       have ah : ((wrap64 (rd aA 0)) != 1) = true := bne_iff_ne.mpr bF
       (rw [aa])
       have H' := am H
       clear H
       go_wp2
       go_loopg [8] bS (fun kq v8 w' => ∃ (aY : Int) (aM : Int), v8 = .int .i64 aY ∧ qAe (qAf.l2 kq aA aU aI aY (wrap64 (rd aA 0)) aM 0 0 = some (r1, r2)) ∧ qAe (kq ≤ bS) ∧ qAe (Kd.V (Kd.int .u8) 5 w' w.heap.size (fun k_ => (P0_ k_ ∨ w.heap.size ≤ k_) ∧ some k_ ≠ (u4 : Value).ownBlock ∧ k_ ≠ aD) (.slice (some aW) aA.length an) aA) ∧ qAe (Kd.R k172 172 w' w.heap.size (fun k_ => (w.heap.size ≤ k_) ∧ k_ ≠ aD) u4 aU) ∧ qAe (w'.heap[aD]? = some (.cells #[.int .i64 (wrap64 (rd aA 0)), .int .i64 aM, .int .i64 0, .int .u64 0] 172 (0, 0))) ∧ qAe (Below w.heap.size w w'))
       case atStart => exact ⟨(1), (0), (by rfl), H', ⟨Nat.le_refl _⟩, ⟨by exact aJ.o⟩, ⟨by exact aK.o⟩, ⟨by exact aC.o⟩, ⟨by exact HB.o⟩⟩
       case round =>
        clear H'
        obtain ⟨aY, aM, rfl, HA, bI, aJ, aK, aC, HB⟩ := hrel
        cases gk with
        | zero => exact absurd HA.o (by simp [qAf.l2])
        | succ k3 =>
         have H := HA.o
         clear HA
         simp only [qAf.l2] at H
         by_cases bZ : aY < aI
         rotate_left
         ·rw [if_neg bZ] at H
          replace bZ := d0 bZ
          have H' := am H
          clear H
          go_wp2
          go_meet
          case rel => exact ⟨_, (aM), (0), (0), H', ⟨by have := al.o; have := bD.o; have := bI.o; (omega)⟩, ⟨by exact aJ.o⟩, ⟨by exact aK.o⟩, ⟨by exact aC.o⟩, ⟨by exact HB.o⟩⟩
         rw [if_pos bZ] at H
         replace bZ := d1 bZ
         obtain ⟨bq, H⟩ := gd H
         replace bq := d1 bq
         obtain ⟨br, H⟩ := gd H
         replace br := d1 br
         have H' := am H
         clear H
         try go_wp2
         have n_ := a2 (Kd.V_drew aJ.o) (a2 (Kd.R_drew aK.o) (a2 (qCb aC.o) (am (qAX HB.o))))
         clear aJ aK aC HB
         obtain ⟨aJ, aK, aC, HB⟩ := n_
         have bU : 0 ≤ aY := od (by assumption)
         have bW : aY < (aA.length : Int) := od (by assumption)
         obtain ⟨b9, cc, af⟩ := Kd.at_int (Kd.V_reads' aJ.o).2.2 aY bU bW
         obtain rfl : aW = b9 := (by injection cc)
         replace bU := eq_true bU
         replace bW := eq_true bW
         refine qEG (n := 11) (S := fun w' => w'.cell? ⟨aD, 0, none⟩ = some (.int .i64 (wrap64 (rd aA 0))) ∧ w'.cell? ⟨aD, 1, none⟩ = some (.int .i64 aM) ∧ w'.cell? ⟨aD, 2, none⟩ = some (.int .i64 0) ∧ w'.cell? ⟨aD, 3, none⟩ = some (.int .u64 0) ∧ w'.cell? (aW.add (aY).toNat) = some (.int .u8 (rd aA aY))) (ds := [10]) #[false, false, false, false, false, false, false, false, false, false, false] (by kernel_rfl) rfl rfl ⟨(qAa aC.o 0).trans rfl, (qAa aC.o 1).trans rfl, (qAa aC.o 2).trans rfl, (qAa aC.o 3).trans rfl, af⟩ (fun hHeld => ?_); refine qCD qAf.tab16 qAf.bits16 (fun HT_ HW_ => ?_)
         generalize wr.drew = dG at aJ aK aC HB af hHeld ⊢
         refine pu 0 57 #[true, false, false, false, false, false, false, false, false, false, false] (qBl HT_.o (by kernel_rfl)) ?_
         refine pu 3 60 #[true, false, false, true, false, false, false, false, false, false, false] (qBl HT_.o (by kernel_rfl)) ?_
         refine pu 4 61 #[true, false, false, true, true, false, false, false, false, false, false] (qBl HT_.o (by kernel_rfl)) ?_
         refine pu 5 62 #[true, false, false, true, true, true, false, false, false, false, false] (qBl HT_.o (by kernel_rfl)) ?_
         refine take_ (i := 1) (N := some 58) (v := ?_) (a' := ?_) #[true, true, false, true, true, true, false, false, false, false, false] rfl rfl (qCi HT_.o HW_.o (by kernel_rfl)) (fun _ _ _ h => h) (Or.inl ⟨by rfl, ?_⟩) hHeld ?_ ?_
         rotate_left
         ·rintro w' ⟨s0, s1, s2, s3, s4⟩
          go_simp
          with_reducible rfl
         rotate_left
         ·simp only [Act.put, List.setIfInBounds_toArray, List.set_cons_zero, List.set_cons_succ]
          rfl
         refine pure_ (i := 2) (N := some 59) (v := ?_) (a' := ?_) #[true, true, true, true, true, true, false, false, false, false, false] rfl rfl (qBl HT_.o (by kernel_rfl)) (fun _ _ _ h => h) (Or.inl ⟨by rfl, ?_⟩) ?_ ?_
         rotate_left
         ·intro w'
          go_simp
          with_reducible rfl
         rotate_left
         ·simp only [Act.put, List.setIfInBounds_toArray, List.set_cons_zero, List.set_cons_succ, i64_w]
          rfl
         refine take_ (i := 6) (N := some 63) (v := ?_) (a' := ?_) #[true, true, true, true, true, true, true, false, false, false, false] rfl rfl (qCi HT_.o HW_.o (by kernel_rfl)) (fun _ _ _ h => h) (Or.inl ⟨by rfl, ?_⟩) hHeld ?_ ?_
         rotate_left
         ·rintro w' ⟨s0, s1, s2, s3, s4⟩
          go_simp
          with_reducible rfl
         rotate_left
         ·simp only [Act.put, List.setIfInBounds_toArray, List.set_cons_zero, List.set_cons_succ]
          rfl
         refine pure_ (i := 7) (N := some 64) (v := ?_) (a' := ?_) #[true, true, true, true, true, true, true, true, false, false, false] rfl rfl (qBl HT_.o (by kernel_rfl)) (fun _ _ _ h => h) (Or.inl ⟨by rfl, ?_⟩) ?_ ?_
         rotate_left
         ·intro w'
          go_simp
          with_reducible rfl
         rotate_left
         ·simp only [Act.put, List.setIfInBounds_toArray, List.set_cons_zero, List.set_cons_succ, i64_w]
          rfl
         refine pu 8 65 #[true, true, true, true, true, true, true, true, true, false, false] (qBl HT_.o (by kernel_rfl)) ?_
         refine pu 9 66 #[true, true, true, true, true, true, true, true, true, true, false] (qBl HT_.o (by kernel_rfl)) ?_
         refine last_ (i := 10) (N := none) #[true, true, true, true, true, true, true, true, true, true, true] rfl rfl (qBM HT_.o (by kernel_rfl)) (by decide) (fun K hK => ?_)
         have hfs26 := qAb aC.o 1
         refine skip_ (w1 := ?_) (by rfl) rfl ?_ ?_
         rotate_left
         ·go_simp
          rfl
         refine hK.o _ _ ?_
         clear hK K
         refine done_ (qD5 HT_.o (by kernel_rfl)) ?_
         try go_wp2
         go_roundg k3
         case measure => have := al.o; have := bD.o; have := bI.o; omega
         case rel => exact ⟨(wrap64 (aY + 1)), (Go.bits .or .i64 (wrap64 (aM * 256)) (wrap64 (rd aA aY))), (by rfl), H', ⟨by have := al.o; have := bD.o; have := bI.o; omega⟩, ⟨by exact Kd.V_mono (Kd.V_far (p := ⟨aD, 1, none⟩) (Kd.V_mono aJ.o (fun k_ hk => (⟨hk, hk.2.2⟩ : _ ∧ k_ ≠ aD))) (fun _ hk => hk.2) (.int .i64 (Go.bits .or .i64 (wrap64 (aM * 256)) (wrap64 (rd aA aY))))) (fun _ hk => ⟨hk.1.1, ⟨hk.1.2.1, hk.1.2.2⟩⟩)⟩, ⟨by exact Kd.R_mono (Kd.R_far (p := ⟨aD, 1, none⟩) (Kd.R_mono aK.o (fun k_ hk => (⟨hk, hk.2⟩ : _ ∧ k_ ≠ aD))) (fun _ hk => hk.2) (.int .i64 (Go.bits .or .i64 (wrap64 (aM * 256)) (wrap64 (rd aA aY))))) (fun _ hk => ⟨hk.1.1, hk.1.2⟩)⟩, ⟨by refine qAx (cs := #[.int .i64 (wrap64 (rd aA 0)), .int .i64 aM, .int .i64 0, .int .u64 0]) ?_ 1 _ rfl; exact aC.o⟩, ⟨by repeat (with_reducible first | exact HB.o | refine qAs ?_ ac.o)⟩⟩
      rw [if_pos bF] at H
      have aa : ((wrap64 (rd aA 0)) == 1) = true := beq_iff_eq.mpr bF
      have ah : ((wrap64 (rd aA 0)) != 1) = false := bn bF
      clear bF
      (rw [aa])
      obtain ⟨bl, H⟩ := gd H
      have bb := d1 bl
      have bc : decide (1 < aA.length) = true := decide_eq_true (by omega)
      clear bl
      have H' := am H
      clear H
      have az : 0 ≤ (1 : Int) := (by omega)
      have bB : 1 < (aA.length : Int) := od (by assumption)
      obtain ⟨b7, cZ, ad⟩ := Kd.at_int (Kd.V_reads' aJ.o).2.2 1 az bB
      obtain rfl : aW = b7 := (by injection cZ)
      (try simp only [show (1 : Int).toNat = 1 from rfl, Nat.reduceEqDiff, Go.Addr.add, ↓reduceIte] at ad)
      (skip)
      replace az := eq_true az
      replace bB := eq_true bB
      have ao : wc.cell? ⟨aD, 0, none⟩ = some (.int .i64 (wrap64 (rd aA 0))) := (qAa aC.o 0).trans rfl
      have ap : wc.cell? ⟨aD, 1, none⟩ = some (.int .i64 0) := (qAa aC.o 1).trans rfl
      have aq : wc.cell? ⟨aD, 2, none⟩ = some (.int .i64 0) := (qAa aC.o 2).trans rfl
      have ar : wc.cell? ⟨aD, 3, none⟩ = some (.int .u64 0) := (qAa aC.o 3).trans rfl
      have au := qAb aC.o 0
      have av := qAb aC.o 1
      have aw := qAb aC.o 2
      have ax := qAb aC.o 3
      go_wp2
      go_loopg [7] bS (fun kq v7 w' => ∃ (aX : Int) (aN : Int), v7 = .int .i64 aX ∧ qAe (qAf.l1 kq aA aU aI aX (wrap64 (rd aA 0)) 0 (wrap64 (rd aA 1)) aN = some (r1, r2)) ∧ qAe (kq ≤ bS) ∧ qAe (Kd.V (Kd.int .u8) 5 w' w.heap.size (fun k_ => (P0_ k_ ∨ w.heap.size ≤ k_) ∧ some k_ ≠ (u4 : Value).ownBlock ∧ k_ ≠ aD) (.slice (some aW) aA.length an) aA) ∧ qAe (Kd.R k172 172 w' w.heap.size (fun k_ => (w.heap.size ≤ k_) ∧ k_ ≠ aD) u4 aU) ∧ qAe (w'.heap[aD]? = some (.cells #[.int .i64 (wrap64 (rd aA 0)), .int .i64 0, .int .i64 (wrap64 (rd aA 1)), .int .u64 aN] 172 (0, 0))) ∧ qAe (Below w.heap.size w w'))
      case atStart => exact ⟨(2), (0), (by rfl), H', ⟨Nat.le_refl _⟩, ⟨by exact Kd.V_mono (Kd.V_far (p := ⟨aD, 2, none⟩) (Kd.V_mono aJ.o (fun k_ hk => (⟨hk, hk.2.2⟩ : _ ∧ k_ ≠ aD))) (fun _ hk => hk.2) (.int .i64 (wrap64 (rd aA 1)))) (fun _ hk => ⟨hk.1.1, ⟨hk.1.2.1, hk.1.2.2⟩⟩)⟩, ⟨by exact Kd.R_mono (Kd.R_far (p := ⟨aD, 2, none⟩) (Kd.R_mono aK.o (fun k_ hk => (⟨hk, hk.2⟩ : _ ∧ k_ ≠ aD))) (fun _ hk => hk.2) (.int .i64 (wrap64 (rd aA 1)))) (fun _ hk => ⟨hk.1.1, hk.1.2⟩)⟩, ⟨by refine qAx (cs := #[.int .i64 (wrap64 (rd aA 0)), .int .i64 0, .int .i64 0, .int .u64 0]) ?_ 2 _ rfl; exact aC.o⟩, ⟨by repeat (with_reducible first | exact HB.o | refine qAs ?_ ac.o)⟩⟩
      case round =>
       clear H'
       obtain ⟨aX, aN, rfl, HA, bI, aJ, aK, aC, HB⟩ := hrel
       cases gk with
       | zero => exact absurd HA.o (by simp [qAf.l1])
       | succ k3 =>
        have H := HA.o
        clear HA
        simp only [qAf.l1] at H
        by_cases bY : aX < 10
        rotate_left
        ·rw [if_neg bY] at H
         replace bY := d0 bY
         have H' := am H
         clear H
         go_wp2
         go_meet
         case rel => exact ⟨_, (0), (wrap64 (rd aA 1)), (aN), H', ⟨by have := al.o; have := bD.o; have := bI.o; (omega)⟩, ⟨by exact aJ.o⟩, ⟨by exact aK.o⟩, ⟨by exact aC.o⟩, ⟨by exact HB.o⟩⟩
        rw [if_pos bY] at H
        replace bY := d1 bY
        obtain ⟨bo, H⟩ := gd H
        replace bo := d1 bo
        obtain ⟨bp, H⟩ := gd H
        replace bp := d1 bp
        have H' := am H
        clear H
        try go_wp2
        have n_ := a2 (Kd.V_drew aJ.o) (a2 (Kd.R_drew aK.o) (a2 (qCb aC.o) (am (qAX HB.o))))
        clear aJ aK aC HB
        obtain ⟨aJ, aK, aC, HB⟩ := n_
        have bT : 0 ≤ aX := od (by assumption)
        have bV : aX < (aA.length : Int) := od (by assumption)
        obtain ⟨b8, ca, ae⟩ := Kd.at_int (Kd.V_reads' aJ.o).2.2 aX bT bV
        obtain rfl : aW = b8 := (by injection ca)
        replace bT := eq_true bT
        replace bV := eq_true bV
        refine qEG (n := 13) (S := fun w' => w'.cell? ⟨aD, 0, none⟩ = some (.int .i64 (wrap64 (rd aA 0))) ∧ w'.cell? ⟨aD, 1, none⟩ = some (.int .i64 0) ∧ w'.cell? ⟨aD, 2, none⟩ = some (.int .i64 (wrap64 (rd aA 1))) ∧ w'.cell? ⟨aD, 3, none⟩ = some (.int .u64 aN) ∧ w'.cell? (aW.add (aX).toNat) = some (.int .u8 (rd aA aX))) (ds := [12]) #[false, false, false, false, false, false, false, false, false, false, false, false, false] (by kernel_rfl) rfl rfl ⟨(qAa aC.o 0).trans rfl, (qAa aC.o 1).trans rfl, (qAa aC.o 2).trans rfl, (qAa aC.o 3).trans rfl, ae⟩ (fun hHeld => ?_); refine qCD qAf.tab12 qAf.bits12 (fun HT_ HW_ => ?_)
        generalize wr.drew = dF at aJ aK aC HB ae hHeld ⊢
        refine pu 0 40 #[true, false, false, false, false, false, false, false, false, false, false, false, false] (qBl HT_.o (by kernel_rfl)) ?_
        refine pu 1 41 #[true, true, false, false, false, false, false, false, false, false, false, false, false] (qBl HT_.o (by kernel_rfl)) ?_
        refine pu 4 44 #[true, true, false, false, true, false, false, false, false, false, false, false, false] (qBl HT_.o (by kernel_rfl)) ?_
        refine pu 5 45 #[true, true, false, false, true, true, false, false, false, false, false, false, false] (qBl HT_.o (by kernel_rfl)) ?_
        refine pu 6 46 #[true, true, false, false, true, true, true, false, false, false, false, false, false] (qBl HT_.o (by kernel_rfl)) ?_
        refine take_ (i := 2) (N := some 42) (v := ?_) (a' := ?_) #[true, true, true, false, true, true, true, false, false, false, false, false, false] rfl rfl (qCi HT_.o HW_.o (by kernel_rfl)) (fun _ _ _ h => h) (Or.inl ⟨by rfl, ?_⟩) hHeld ?_ ?_
        rotate_left
        ·rintro w' ⟨s0, s1, s2, s3, s4⟩
         go_simp
         with_reducible rfl
        rotate_left
        ·simp only [Act.put, List.setIfInBounds_toArray, List.set_cons_zero, List.set_cons_succ]
         rfl
        refine pu 3 43 #[true, true, true, true, true, true, true, false, false, false, false, false, false] (qBl HT_.o (by kernel_rfl)) ?_
        refine take_ (i := 7) (N := some 47) (v := ?_) (a' := ?_) #[true, true, true, true, true, true, true, true, false, false, false, false, false] rfl rfl (qCi HT_.o HW_.o (by kernel_rfl)) (fun _ _ _ h => h) (Or.inl ⟨by rfl, ?_⟩) hHeld ?_ ?_
        rotate_left
        ·rintro w' ⟨s0, s1, s2, s3, s4⟩
         go_simp
         with_reducible rfl
        rotate_left
        ·simp only [Act.put, List.setIfInBounds_toArray, List.set_cons_zero, List.set_cons_succ]
         rfl
        refine pu 8 48 #[true, true, true, true, true, true, true, true, true, false, false, false, false] (qBl HT_.o (by kernel_rfl)) ?_
        refine pu 9 49 #[true, true, true, true, true, true, true, true, true, true, false, false, false] (qBl HT_.o (by kernel_rfl)) ?_
        refine pu 10 50 #[true, true, true, true, true, true, true, true, true, true, true, false, false] (qBl HT_.o (by kernel_rfl)) ?_
        refine pu 11 51 #[true, true, true, true, true, true, true, true, true, true, true, true, false] (qBl HT_.o (by kernel_rfl)) ?_
        refine last_ (i := 12) (N := none) #[true, true, true, true, true, true, true, true, true, true, true, true, true] rfl rfl (qBM HT_.o (by kernel_rfl)) (by decide) (fun K hK => ?_)
        have hfs21 := qAb aC.o 3
        refine skip_ (w1 := ?_) (by rfl) rfl ?_ ?_
        rotate_left
        ·go_simp
         rfl
        refine hK.o _ _ ?_
        clear hK K
        refine done_ (qD5 HT_.o (by kernel_rfl)) ?_
        try go_wp2
        go_roundg k3
        case measure => have := al.o; have := bD.o; have := bI.o; omega
        case rel => exact ⟨(wrap64 (aX + 1)), (Go.bits .or .u64 (IntKind.u64.wrap (aN * 256)) (IntKind.u64.wrap (rd aA aX))), (by rfl), H', ⟨by have := al.o; have := bD.o; have := bI.o; omega⟩, ⟨by exact Kd.V_mono (Kd.V_far (p := ⟨aD, 3, none⟩) (Kd.V_mono aJ.o (fun k_ hk => (⟨hk, hk.2.2⟩ : _ ∧ k_ ≠ aD))) (fun _ hk => hk.2) (.int .u64 (Go.bits .or .u64 (IntKind.u64.wrap (aN * 256)) (IntKind.u64.wrap (rd aA aX))))) (fun _ hk => ⟨hk.1.1, ⟨hk.1.2.1, hk.1.2.2⟩⟩)⟩, ⟨by exact Kd.R_mono (Kd.R_far (p := ⟨aD, 3, none⟩) (Kd.R_mono aK.o (fun k_ hk => (⟨hk, hk.2⟩ : _ ∧ k_ ≠ aD))) (fun _ hk => hk.2) (.int .u64 (Go.bits .or .u64 (IntKind.u64.wrap (aN * 256)) (IntKind.u64.wrap (rd aA aX))))) (fun _ hk => ⟨hk.1.1, hk.1.2⟩)⟩, ⟨by refine qAx (cs := #[.int .i64 (wrap64 (rd aA 0)), .int .i64 0, .int .i64 (wrap64 (rd aA 1)), .int .u64 aN]) ?_ 3 _ rfl; exact aC.o⟩, ⟨by repeat (with_reducible first | exact HB.o | refine qAs ?_ ac.o)⟩⟩
     case rest =>
      clear bH
      obtain ⟨kq, aE, aG, aH, HA, b2, aJ, aK, aC, HB⟩ := hcut
      cases kq with
      | zero => exact absurd HA.o (by simp [qAf.j4])
      | succ ak =>
       have H := HA.o
       clear HA
       simp only [qAf.j4] at H
       replace H := bm H
       obtain ⟨bC, b1, H⟩ := H
       replace H : (if bC = true then (if (aU.length : Int) = 4096 then (some (([] : List (S172)), 3)) else (if aU.length < 4398046511104 then (if 0 ≤ aI then (if aI ≤ (aA.length : Int) then (qAf.l0 ak (aA.drop (aI : Int).toNat) (aU ++ [(⟨(wrap64 (rd aA 0)), aE, (⟨aG, aH⟩ : S83)⟩ : S172)])) else (none)) else (none)) else (none))) else (some (([] : List (S172)), 51))) = some (r1, r2) := H
       have cR := am b1
       clear b1
       by_cases bs : bC = true
       rotate_left
       ·replace bs := Bool.eq_false_iff.mpr bs
        subst bs
        replace H : (some (([] : List (S172)), 51)) = some (r1, r2) := by rw [if_neg (show ¬ (false = true) by decide)] at H; exact H
        simp only [Option.some.injEq, Prod.mk.injEq] at H
        obtain ⟨rfl, rfl⟩ := H
        have cL : wc.cell? ⟨aD, 0, none⟩ = some (.int .i64 (wrap64 (rd aA 0))) := (qAa aC.o 0).trans rfl
        have cM : wc.cell? ⟨aD, 1, none⟩ = some (.int .i64 aE) := (qAa aC.o 1).trans rfl
        have cN : wc.cell? ⟨aD, 2, none⟩ = some (.int .i64 aG) := (qAa aC.o 2).trans rfl
        have cO : wc.cell? ⟨aD, 3, none⟩ = some (.int .u64 aH) := (qAa aC.o 3).trans rfl
        go_wp2_with ((with_reducible refine qAk (f := 111) rfl ?_); refine gL 68 Tryz.func111 #[.agg #[.int .i64 (wrap64 (rd aA 0)), .int .i64 aE, .int .i64 aG, .int .u64 aH]] ?_; (with_reducible refine (qBa.calls (wrap64 (rd aA 0)) aE aG aH false _ cR.o).mono ?_); rintro e dJ ⟨rfl, hb⟩; refine ⟨_, rfl, ?_⟩; have n_ := am (qAp HB.o hb); clear aJ aK aC HB; have HB := n_; clear n_; (skip))
        go_ret2
        exact ⟨_, by rfl, by (exact Kd.R_nil _ _ _ _ _), by exact HB.o⟩
       subst bs
       replace H : (if (aU.length : Int) = 4096 then (some (([] : List (S172)), 3)) else (if aU.length < 4398046511104 then (if 0 ≤ aI then (if aI ≤ (aA.length : Int) then (qAf.l0 ak (aA.drop (aI : Int).toNat) (aU ++ [(⟨(wrap64 (rd aA 0)), aE, (⟨aG, aH⟩ : S83)⟩ : S172)])) else (none)) else (none)) else (none))) = some (r1, r2) := by rw [if_pos rfl] at H; exact H
       by_cases b0 : (aU.length : Int) = 4096
       ·rw [if_pos b0] at H
        have bh : ((aU.length : Int) == 4096) = true := beq_iff_eq.mpr b0
        clear b0
        simp only [Option.some.injEq, Prod.mk.injEq] at H
        obtain ⟨rfl, rfl⟩ := H
        have bz : wc.cell? ⟨aD, 0, none⟩ = some (.int .i64 (wrap64 (rd aA 0))) := (qAa aC.o 0).trans rfl
        have cA : wc.cell? ⟨aD, 1, none⟩ = some (.int .i64 aE) := (qAa aC.o 1).trans rfl
        have cB : wc.cell? ⟨aD, 2, none⟩ = some (.int .i64 aG) := (qAa aC.o 2).trans rfl
        have cC : wc.cell? ⟨aD, 3, none⟩ = some (.int .u64 aH) := (qAa aC.o 3).trans rfl
        go_wp2_with ((with_reducible refine qAk (f := 111) rfl ?_); refine gL 68 Tryz.func111 #[.agg #[.int .i64 (wrap64 (rd aA 0)), .int .i64 aE, .int .i64 aG, .int .u64 aH]] ?_; (with_reducible refine (qBa.calls (wrap64 (rd aA 0)) aE aG aH true _ cR.o).mono ?_); rintro e dH ⟨rfl, hb⟩; refine ⟨_, rfl, ?_⟩; have n_ := a2 (Kd.V_below aJ.o hb) (a2 (Kd.R_below aK.o hb) (am (qAp HB.o hb))); clear aJ aK aC HB; obtain ⟨aJ, aK, HB⟩ := n_; obtain ⟨cu, cy, cd⟩ := Kd.R_slice aK.o; subst cd)
        go_ret2
        exact ⟨_, by rfl, by (exact Kd.R_nil _ _ _ _ _), by exact HB.o⟩
       rw [if_neg b0] at H
       have bh : ((aU.length : Int) == 4096) = false := bf b0
       have co : ((aU.length : Int) != 4096) = true := bne_iff_ne.mpr b0
       obtain ⟨bu, H⟩ := gd H
       have b5 := am bu
       clear bu
       obtain ⟨bX, ai⟩ : ∃ y_ : List (S172), y_ = (aU ++ [(⟨(wrap64 (rd aA 0)), aE, (⟨aG, aH⟩ : S83)⟩ : S172)]) := ⟨_, rfl⟩
       replace H : (if 0 ≤ aI then (if aI ≤ (aA.length : Int) then (qAf.l0 ak (aA.drop (aI : Int).toNat) bX) else (none)) else (none)) = some (r1, r2) := by (rw [ai]; with_reducible exact H)
       have b6 := am ai
       clear ai
       obtain ⟨bj, H⟩ := gd H
       have cp := eq_true bj
       replace bj := d1 bj
       obtain ⟨bw, H⟩ := gd H
       replace bw := d1 bw
       obtain ⟨ab, aj⟩ : ∃ y_ : List Int, y_ = (aA.drop (aI : Int).toNat) := ⟨_, rfl⟩
       replace H : (qAf.l0 ak ab bX) = some (r1, r2) := by (rw [aj]; with_reducible exact H)
       have bE := am aj
       clear aj
       have H' := am H
       clear H
       have cD : wc.cell? ⟨aD, 0, none⟩ = some (.int .i64 (wrap64 (rd aA 0))) := (qAa aC.o 0).trans rfl
       have cE : wc.cell? ⟨aD, 1, none⟩ = some (.int .i64 aE) := (qAa aC.o 1).trans rfl
       have cF : wc.cell? ⟨aD, 2, none⟩ = some (.int .i64 aG) := (qAa aC.o 2).trans rfl
       have cG : wc.cell? ⟨aD, 3, none⟩ = some (.int .u64 aH) := (qAa aC.o 3).trans rfl
       go_wp2_with (first | ((with_reducible refine qAk (f := 111) rfl ?_); refine gL 68 Tryz.func111 #[.agg #[.int .i64 (wrap64 (rd aA 0)), .int .i64 aE, .int .i64 aG, .int .u64 aH]] ?_; (with_reducible refine (qBa.calls (wrap64 (rd aA 0)) aE aG aH true _ cR.o).mono ?_); rintro e cQ ⟨rfl, hb⟩; refine ⟨_, rfl, ?_⟩; have n_ := a2 (Kd.V_below aJ.o hb) (a2 (Kd.R_below aK.o hb) (a2 (qA4 aC.o hb) (am (qAp HB.o hb)))); clear aJ aK aC HB; obtain ⟨aJ, aK, aC, HB⟩ := n_; obtain ⟨cS, cX, ce⟩ := Kd.R_slice aK.o; subst ce; have cH : cQ.cell? ⟨aD, 0, none⟩ = some (.int .i64 (wrap64 (rd aA 0))) := (qAa aC.o 0).trans rfl; have cI : cQ.cell? ⟨aD, 1, none⟩ = some (.int .i64 aE) := (qAa aC.o 1).trans rfl; have cJ : cQ.cell? ⟨aD, 2, none⟩ = some (.int .i64 aG) := (qAa aC.o 2).trans rfl; have cK : cQ.cell? ⟨aD, 3, none⟩ = some (.int .u64 aH) := (qAa aC.o 3).trans rfl; have cP := qAb aC.o 3) | ((with_reducible refine qBG (b := .append) (xs := #[.tmp 73, .tmp 75]) rfl ?_); (try (refine qBJ (by rfl) ?_; dsimp only)); at_builtin; refine Kd.R_append k172 (w0 := w) w.heap.size rfl (.tmp 73) (.tmp 75) 96 172 (.agg #[(.int .i64 0), (.int .i64 0), (.int .i64 0), (.int .u64 0)]) 32 rfl Tryz.underlying96 info172 rfl (by decide) (by omega) (.slice cS aU.length cX) aU (⟨(wrap64 (rd aA 0)), aE, (⟨aG, aH⟩ : S83)⟩ : S172) [.int .i64 (wrap64 (rd aA 0)), .int .i64 aE, .int .i64 aG, .int .u64 aH] (fun k_ => (w.heap.size ≤ k_) ∧ k_ ≠ aD) (fun _ => False) rfl rfl ?aP (fun _ hk => hk.elim) ?aF ?aO ?aB ?aS ?aL ?_; (case aP => exact k172_mkM _ _ _ (⟨(wrap64 (rd aA 0)), aE, (⟨aG, aH⟩ : S83)⟩ : S172)); (case aB => exact HB.o); (case aF => exact (fun k_ hk => ⟨(Nat.le_trans (qA5 HB.o) hk), Kd.freshB (g := aD) (o := .cells #[.int .i64 (wrap64 (rd aA 0)), .int .i64 aE, .int .i64 aG, .int .u64 aH] 172 (0, 0)) aC.o k_ hk⟩)); (case aO => exact aK.o); (case aS => exact (qA5 HB.o)); (case aL => have := b5.o; omega); intro dC dI ho hb hg ct; rw [← b6.o] at ho; have n_ := a2 (Kd.V_afterv (ok := (fun k_ => (P0_ k_ ∨ w.heap.size ≤ k_) ∧ k_ ≠ aD)) (by exact Kd.V_mono aJ.o (fun _ hk => ⟨⟨hk.1, hk.2.2⟩, hk.2.1⟩)) hg ct) (a2 (hb) (am (ho))); clear aJ aC HB aK; obtain ⟨aJ, HB, b3⟩ := n_; clear ho hb hg ct; have ch : (aI : Int) ≤ ((aA.length : Int) : Int) := od (by assumption); obtain ⟨i041, bG, _, hsz41, _⟩ := info_parts info5; have hroom41 : aA.length ≤ an := (Kd.V_reads' aJ.o).2.1; have hC41 : Kd.F (Kd.int .u8) _ _ (some aW) aA.length aA := (Kd.V_at (base := w.heap.size) aJ.o).2.2; have cg : (0 : Int) ≤ (aI : Int) := od (by assumption); have hcut41 := cut_from (P := Tryz.prog) 38 5 .i64 Tryz.underlying38 bG 1 hsz41 (some aW) aA.length an aI cg ch; have hr41 := Kd.F_cut (m := (aI : Int).toNat) (c := an) hC41 (by omega) hroom41; obtain ⟨cj, hA41⟩ : ∃ A1, A1 = (if an = (aI : Int).toNat then (some aW) else ((some aW) : Option Addr).map (·.add ((aI : Int).toNat * 1))) := ⟨_, rfl⟩; obtain ⟨cx, hc41⟩ : ∃ c1, c1 = an - (aI : Int).toNat := ⟨_, rfl⟩; have bR : ab.length = aA.length - (aI : Int).toNat := (by rw [bE.o, List.length_drop] <;> omega); rw [show (aA).drop (aI : Int).toNat = ab from bE.o.symm] at hr41; replace hr41 : Kd.F (Kd.int .u8) _ _ cj ab.length ab := (by rw [hA41]; exact hr41); rw [← bR, ← hA41, ← hc41] at hcut41; have b4 := am (show Kd.V (Kd.int .u8) 5 _ w.heap.size _ (.slice cj ab.length cx) ab from Kd.V_mk (by rw [bR, hc41]; exact Nat.sub_le_sub_right hroom41 _) hr41); clear hr41 hC41 hroom41 bG hsz41 hc41; clear bR hA41; replace ch := eq_true ch))
       go_roundg ak
       case measure => have := al.o; have := bD.o; have := b2.o; omega
       case rel => exact ⟨(ab), (bX), H', ⟨by have := al.o; have := bD.o; have := b2.o; omega⟩, ⟨by exact Kd.V_mono b4.o (fun _ hk => ⟨hk.1.1, hk.2⟩)⟩, ⟨by exact Kd.R_mono b3.o (fun _ hk => hk.1)⟩, ⟨by exact HB.o⟩⟩
mutual
def qAj.j1 : Nat → List Int → Int → Int → List Int → Int → Option (List Int × Int × List Int × (List (S172)) × Int × Int)
 | 0, _, _, _, _, _ => none
 | k + 1, a3, a7, a5, aX, a4 => (qAt.f k a3 a7 a5).bind fun bG => ((qAt.f k a3 bG.2.1 bG.2.2).bind fun ad => (qAj.l1 k (wrap64 (ad.1)) 0 a3 ad.2.1 ad.2.2 aX (wrap64 (bG.1)) ([] : List Int)))
def qAj.l1 : Nat → Int → Int → List Int → Int → Int → List Int → Int → List Int → Option (List Int × Int × List Int × (List (S172)) × Int × Int)
 | 0, _, _, _, _, _, _, _, _ => none
 | k + 1, x4, x6, a3, a7, a5, aX, a4, ab => if x6 < x4 then (if a5 = 0 then ((qAt.f k a3 a7 a5).bind fun bH => (if ab.length < 17592186044416 then (qAj.l1 k x4 (wrap64 (x6 + 1)) a3 bH.2.1 bH.2.2 aX a4 (ab ++ [wrap64 (bH.1)])) else (none))) else ((qAF.f k a3 a7 a5 1048576).bind fun bI => ((qAf.f k bI.1).bind fun ap => ((qAl.f a3 bI.2.1 bI.2.2 ap.2).bind fun a8 => (some (aX, a4, ab, ap.1, a8.1, a8.2)))))) else ((qAF.f k a3 a7 a5 1048576).bind fun bJ => ((qAf.f k bJ.1).bind fun aq => ((qAl.f a3 bJ.2.1 bJ.2.2 aq.2).bind fun a9 => (some (aX, a4, ab, aq.1, a9.1, a9.2)))))
def qAj.l0 : Nat → Int → Int → List Int → Int → Int → List Int → Int → Option (List Int × Int × List Int × (List (S172)) × Int × Int)
 | 0, _, _, _, _, _, _, _ => none
 | k + 1, x4, x5, a3, a7, a5, aX, a4 => if x5 < x4 then (if a5 = 0 then ((qAt.f k a3 a7 a5).bind fun bF => (if aX.length < 17592186044416 then (qAj.l0 k x4 (wrap64 (x5 + 1)) a3 bF.2.1 bF.2.2 (aX ++ [wrap64 (bF.1)]) a4) else (none))) else (qAj.j1 k a3 a7 a5 aX a4)) else (qAj.j1 k a3 a7 a5 aX a4)
end
def qAj.f (k : Nat) (s0_0 : List Int) (s0_1 : Int) (s0_2 : Int) : Option (List Int × Int × List Int × (List (S172)) × Int × Int) := (qAt.f k s0_0 s0_1 s0_2).bind fun ac => (qAj.l0 k (wrap64 (ac.1)) 0 s0_0 ac.2.1 ac.2.2 ([] : List Int) 0)
def qAj.T6 : Bool × List (List Nat × List Nat) := (true, [([], []), ([0], [0]), ([1], [1]), ([], []), ([3], [3]), ([4], [4]), ([5], [5]), ([2, 6, 4], [2, 6]), ([0, 1, 2, 3, 4, 5, 6, 7], []), ([8, 0, 1, 2, 3, 4, 5, 6, 7], [8]), ([9, 7, 7, 0, 1, 2, 3, 4, 5, 6, 7], [7, 9])])
def qAj.B6 : List Nat := [0, 1, 3, 0, 8, 24, 56, 127, 255, 511, 1023]
theorem qAj.tab6 : rtab .any (opsOf Tryz.f71 6) = qAj.T6 := by kernel_rfl
theorem qAj.bits6 : qCG qAj.T6.2 qAj.B6 = true := by kernel_rfl
def qAj.T12 : Bool × List (List Nat × List Nat) := (true, [([], []), ([0], [0]), ([], []), ([2], [2]), ([3], [3]), ([4], [4]), ([1, 5, 3], [1, 5]), ([0, 1, 2, 3, 4, 5, 6], []), ([7, 6, 6, 0, 1, 2, 3, 4, 5, 6], [6, 7])])
def qAj.B12 : List Nat := [0, 1, 0, 4, 12, 28, 63, 127, 255]
theorem qAj.tab12 : rtab .any (opsOf Tryz.f71 12) = qAj.T12 := by kernel_rfl
theorem qAj.bits12 : qCG qAj.T12.2 qAj.B12 = true := by kernel_rfl
theorem qAj.calls (k : Nat) (g : Nat) (s0_0 : List Int) (s0_1 : Int) (s0_2 : Int) (r1 : List Int) (r2 : Int) (r3 : List Int) (r4 : List (S172)) (r5 : Int) (r6 : Int) (w0 w : World) (hI : qAv w0 w g s0_0 s0_1 s0_2) (hB : Below w0.heap.size w0 w) (h : qAj.f k s0_0 s0_1 s0_2 = some (r1, r2, r3, r4, r5, r6)) :
  Calls Tryz.prog 71 #[.pointer (some ⟨g, 0, none⟩)] w fun e w' => ∃ v0_ v2_ v3_ : Value, e = .returned (.agg #[v0_, .int .i64 r2, v2_, v3_]) ∧ Kd.R (Kd.int .i64) 3 w' w.heap.size (fun k_ => some k_ ≠ (v2_ : Value).ownBlock) v0_ r1 ∧ Kd.R (Kd.int .i64) 3 w' w.heap.size (fun k_ => some k_ ≠ (v0_ : Value).ownBlock) v2_ r3 ∧ Kd.R k172 172 w' w.heap.size (fun _ => True) v3_ r4 ∧ qAv w0 w' g s0_0 r5 r6 ∧ Below w0.heap.size w0 w' ∧ qAg w w' g none := by
 have aK := am hI
 have HK := am (qAg.refl w g none)
 have HL := am hB.size
 clear hI
 have dc := am hB.size
 have HB := am hB
 clear hB
 have H : ((qAt.f k s0_0 s0_1 s0_2).bind fun ac => (qAj.l0 k (wrap64 (ac.1)) 0 s0_0 ac.2.1 ac.2.2 ([] : List Int) 0)) = some (r1, r2, r3, r4, r5, r6) := h
 clear h
 replace H := bm H
 obtain ⟨⟨ar, cE, cF⟩, d9, H⟩ := H
 replace H : (qAj.l0 k (wrap64 (ar)) 0 s0_0 cE cF ([] : List Int) 0) = some (r1, r2, r3, r4, r5, r6) := H
 have A2 := am d9
 clear d9
 have dW := am H
 clear H
 go_enter Tryz.func71, Tryz.ntmps71
 go_upto_block 0 with (first | ((with_reducible refine qAO (N := 2) rfl ?_); refine bx 2 #[.slice none 0 0, .int .i64 0, .slice none 0 0, .slice none 0 0] 98 ?_; intro aH hg w4 hbox hb; have n_ := a2 (qAv.below aK.o hb) (a2 (qAg.trans HK.o (qAg.of_below hb g none) (.inl rfl)) (a2 (qAp HB.o hb) (a2 (hbox) (a2 (by rw [hg]; exact (qBm HK.o) : w.heap.size ≤ aH) (a2 (Nat.le_trans dc.o (by rw [hg]; exact (qBm HK.o) : w.heap.size ≤ aH) : w0.heap.size ≤ aH) (a2 (by rw [hg]; exact Nat.ne_of_lt (qAv.lt aK.o) : g ≠ aH) (am (by rw [hg]; exact Nat.ne_of_gt (qAv.lt aK.o) : aH ≠ g)))))))); clear aK HK HB; obtain ⟨aK, HK, HB, aC, bs, br, aa, aT⟩ := n_; clear hb hbox hg) | ((with_reducible refine qAO (N := 3) rfl ?_); refine bx 3 #[.slice none 0 0, .int .i64 0, .slice none 0 0, .slice none 0 0] 98 ?_; intro aI hg w5 hbox hb; have n_ := a2 (qAv.below aK.o hb) (a2 (qA4 aC.o hb) (a2 (qAg.trans HK.o (qAg.of_below hb g none) (.inl rfl)) (a2 (qAp HB.o hb) (a2 (hbox) (a2 (by rw [hg]; exact (qBm HK.o) : w.heap.size ≤ aI) (a2 (Nat.le_trans dc.o (by rw [hg]; exact (qBm HK.o) : w.heap.size ≤ aI) : w0.heap.size ≤ aI) (a2 (by rw [hg]; exact Nat.ne_of_lt (qBo aC.o) : aH ≠ aI) (a2 (by rw [hg]; exact Nat.ne_of_lt (qAv.lt aK.o) : g ≠ aI) (am (by rw [hg]; exact Nat.ne_of_gt (qAv.lt aK.o) : aI ≠ g)))))))))); clear aK aC HK HB; obtain ⟨aK, aC, HK, HB, aB, ah, ag, aM, aY, aU⟩ := n_; clear hb hbox hg; have bM : w5.cell? ⟨aI, 0, none⟩ = some (.slice none 0 0) := (qAa aB.o 0).trans rfl; have bN : w5.cell? ⟨aI, 1, none⟩ = some (.int .i64 0) := (qAa aB.o 1).trans rfl; have bO : w5.cell? ⟨aI, 2, none⟩ = some (.slice none 0 0) := (qAa aB.o 2).trans rfl; have bP : w5.cell? ⟨aI, 3, none⟩ = some (.slice none 0 0) := (qAa aB.o 3).trans rfl; have bQ := qAb aB.o 0; have bR := qAb aB.o 1; have bS := qAb aB.o 2; have bT := qAb aB.o 3) | ((with_reducible refine qAk (f := 69) rfl ?_); refine gL 11 Tryz.func69 #[.pointer (some ⟨g, 0, none⟩)] ?_; (with_reducible refine (qAt.calls k g s0_0 s0_1 s0_2 ar cE cF w0 _ ?side1 ?side2 A2.o).mono ?_); (case side1 => repeat (with_reducible first | exact aK.o | refine qAv.far ?_ aY.o _)); (case side2 => repeat (with_reducible first | exact HB.o | refine qAs ?_ ag.o)); rintro e w9 ⟨rfl, hi, hb, hk⟩; refine ⟨_, rfl, ?_⟩; have n_ := a2 (qAg.blk hk (g' := aH) (o := .cells #[.slice none 0 0, .int .i64 0, .slice none 0 0, .slice none 0 0] 98 (0, 0)) (by refine qAz ?_ aM.o _; refine qAz ?_ aM.o _; refine qAz ?_ aM.o _; refine qAz ?_ aM.o _; exact aC.o) aT.o (by simp)) (a2 (qAg.blk hk (g' := aI) (o := .cells #[.slice none 0 0, .int .i64 0, .slice none 0 0, .slice none 0 0] 98 (0, 0)) (by refine qAx (cs := #[.slice none 0 0, .int .i64 0, .slice none 0 0, .slice none 0 0]) ?_ 3 _ rfl; refine qAx (cs := #[.slice none 0 0, .int .i64 0, .slice none 0 0, .slice none 0 0]) ?_ 2 _ rfl; refine qAx (cs := #[.slice none 0 0, .int .i64 0, .slice none 0 0, .slice none 0 0]) ?_ 1 _ rfl; refine qAx (cs := #[.slice none 0 0, .int .i64 0, .slice none 0 0, .slice none 0 0]) ?_ 0 _ rfl; exact aB.o) aU.o (by simp)) (a2 (qAg.trans (by repeat (with_reducible first | exact HK.o | refine qBO ?_ ah.o _)) hk (.inl rfl)) (a2 (hb) (am (hi))))); clear aC aB HK HB aK; obtain ⟨aC, aB, HK, HB, aK⟩ := n_))
 (skip)
 go_cut [] (fun wc => ∃ (kq : Nat) (aV : Int) (aQ : Int) (aE : List Int) (aJ : Value), qAe (qAj.j1 kq s0_0 aV aQ aE 0 = some (r1, r2, r3, r4, r5, r6)) ∧ qAe (kq ≤ k) ∧ qAe (Kd.R (Kd.int .i64) 3 wc w.heap.size (fun _ => True) aJ aE) ∧ qAe (wc.heap[aH]? = some (.cells #[(.slice none 0 0), .int .i64 0, (.slice none 0 0), (.slice none 0 0)] 98 (0, 0))) ∧ qAe (wc.heap[aI]? = some (.cells #[aJ, .int .i64 0, (.slice none 0 0), (.slice none 0 0)] 98 (0, 0))) ∧ qAe (qAv w0 wc g s0_0 aV aQ) ∧ qAe (qAg w wc g none) ∧ qAe (Below w0.heap.size w0 wc))
 case first =>
  have H := dW.o
  clear dW
  have H' := am H
  clear H
  go_wp2
  go_loopg [5] k (fun kq v5 w' => ∃ (ak : Int) (a6 : Int) (aZ : Int) (aN : List Int) (aJ : Value), v5 = .int .i64 ak ∧ qAe (qAj.l0 kq (wrap64 (ar)) ak s0_0 a6 aZ aN 0 = some (r1, r2, r3, r4, r5, r6)) ∧ qAe (kq ≤ k) ∧ qAe (Kd.R (Kd.int .i64) 3 w' w.heap.size (fun _ => True) aJ aN) ∧ qAe (w'.heap[aH]? = some (.cells #[(.slice none 0 0), .int .i64 0, (.slice none 0 0), (.slice none 0 0)] 98 (0, 0))) ∧ qAe (w'.heap[aI]? = some (.cells #[aJ, .int .i64 0, (.slice none 0 0), (.slice none 0 0)] 98 (0, 0))) ∧ qAe (qAv w0 w' g s0_0 a6 aZ) ∧ qAe (qAg w w' g none) ∧ qAe (Below w0.heap.size w0 w'))
  case atStart => exact ⟨(0), (cE), (cF), ([] : List Int), (.slice none 0 0), (by rfl), H', ⟨Nat.le_refl _⟩, ⟨by (exact Kd.R_nil _ _ _ _ _)⟩, ⟨by exact aC.o⟩, ⟨by exact aB.o⟩, ⟨by exact aK.o⟩, ⟨by exact HK.o⟩, ⟨by exact HB.o⟩⟩
  case round =>
   clear H'
   obtain ⟨ak, a6, aZ, aN, aJ, rfl, HA, cm, aA, aC, aB, aK, HK, HB⟩ := hrel
   cases gk with
   | zero => exact absurd HA.o (by simp [qAj.l0])
   | succ k1 =>
    have H := HA.o
    clear HA
    simp only [qAj.l0] at H
    by_cases c10 : ak < (wrap64 (ar))
    rotate_left
    ·rw [if_neg c10] at H
     replace c10 := d0 c10
     (skip)
     have H' := am H
     clear H
     go_wp2
     go_meet
     case rel => exact ⟨_, (a6), (aZ), (aN), (aJ), H', ⟨by have := cm.o; (omega)⟩, ⟨by exact aA.o⟩, ⟨by exact aC.o⟩, ⟨by exact aB.o⟩, ⟨by exact aK.o⟩, ⟨by exact HK.o⟩, ⟨by exact HB.o⟩⟩
    rw [if_pos c10] at H
    replace c10 := d1 c10
    (skip)
    by_cases c1 : aZ = 0
    rotate_left
    ·rw [if_neg c1] at H
     have ca : (aZ == 0) = false := bf c1
     have H' := am H
     clear H
     obtain ⟨ASz20_0, cSz20_0, HGz20, hgz20, HSz20_0⟩ := aK.o
     have cr := qB4 HGz20
     clear HGz20 hgz20
     go_wp2
     go_meet
     case rel => exact ⟨_, (a6), (aZ), (aN), (aJ), H', ⟨by have := cm.o; (omega)⟩, ⟨by exact aA.o⟩, ⟨by exact aC.o⟩, ⟨by exact aB.o⟩, ⟨by exact aK.o⟩, ⟨by exact HK.o⟩, ⟨by exact HB.o⟩⟩
    rw [if_pos c1] at H
    have ca : (aZ == 0) = true := beq_iff_eq.mpr c1
    clear c1
    replace H := bm H
    obtain ⟨⟨bX, ba, bb⟩, cJ, H⟩ := H
    replace H : (if aN.length < 17592186044416 then (qAj.l0 k1 (wrap64 (ar)) (wrap64 (ak + 1)) s0_0 ba bb (aN ++ [wrap64 (bX)]) 0) else (none)) = some (r1, r2, r3, r4, r5, r6) := H
    have dn := am cJ
    clear cJ
    obtain ⟨cn, H⟩ := gd H
    have cW := am cn
    clear cn
    obtain ⟨bq, bV⟩ : ∃ y_ : List Int, y_ = (aN ++ [wrap64 (bX)]) := ⟨_, rfl⟩
    replace H : (qAj.l0 k1 (wrap64 (ar)) (wrap64 (ak + 1)) s0_0 ba bb bq 0) = some (r1, r2, r3, r4, r5, r6) := by (rw [bV]; with_reducible exact H)
    have cY := am bV
    clear bV
    have H' := am H
    clear H
    obtain ⟨ASz14_0, cSz14_0, HGz14, hgz14, HSz14_0⟩ := aK.o
    have cq := qB4 HGz14
    clear HGz14 hgz14
    try go_wp2
    have n_ := a2 (Kd.R_drew aA.o) (a2 (qCb aC.o) (a2 (qCb aB.o) (a2 (qAv.drew aK.o) (a2 (qCu HK.o) (am (qAX HB.o))))))
    clear aA aC aB aK HK HB
    obtain ⟨aA, aC, aB, aK, HK, HB⟩ := n_
    refine qEG (n := 11) (S := fun w' => w'.cell? ⟨aI, 0, none⟩ = some (aJ) ∧ w'.cell? ⟨aI, 1, none⟩ = some (.int .i64 0) ∧ w'.cell? ⟨aI, 2, none⟩ = some (.slice none 0 0) ∧ w'.cell? ⟨aI, 3, none⟩ = some (.slice none 0 0)) (ds := [10]) #[false, false, false, false, false, false, false, false, false, false, false] (by kernel_rfl) rfl rfl ⟨(qAa aB.o 0).trans rfl, (qAa aB.o 1).trans rfl, (qAa aB.o 2).trans rfl, (qAa aB.o 3).trans rfl⟩ (fun hHeld => ?_); refine qCD qAj.tab6 qAj.bits6 (fun HT_ HW_ => ?_)
    generalize wr.drew = eF at aA aC aB aK HK HB hHeld ⊢
    refine pu 0 25 #[true, false, false, false, false, false, false, false, false, false, false] (qBl HT_.o (by kernel_rfl)) ?_
    refine pu 1 26 #[true, true, false, false, false, false, false, false, false, false, false] (qBl HT_.o (by kernel_rfl)) ?_
    refine pu 3 28 #[true, true, false, true, false, false, false, false, false, false, false] (qBl HT_.o (by kernel_rfl)) ?_
    refine take_ (i := 2) (N := some 27) (v := ?_) (a' := ?_) #[true, true, true, true, false, false, false, false, false, false, false] rfl rfl (qCi HT_.o HW_.o (by kernel_rfl)) (fun _ _ _ h => h) (Or.inl ⟨by rfl, ?_⟩) hHeld ?_ ?_
    rotate_left
    ·rintro w' ⟨s0, s1, s2, s3⟩
     go_simp
     with_reducible rfl
    rotate_left
    ·simp only [Act.put, List.setIfInBounds_toArray, List.set_cons_zero, List.set_cons_succ]
     rfl
    refine one_ (i := 4) (N := some 29) #[true, true, true, true, true, false, false, false, false, false, false] rfl rfl (qBM HT_.o (by kernel_rfl)) (by decide) (fun K hK => ?_)
    refine qE1 Tryz.func69 (by kernel_rfl) rfl #[.pointer (some ⟨g, 0, none⟩)] (by rfl) rfl rfl (by (try simp only [List.map_toArray, List.map_cons, List.map_nil]); (rfl)) ?_
    with_reducible refine (qAt.calls k1 g s0_0 a6 aZ bX ba bb w0 _ ?side1 ?side2 dn.o).mono ?_
    (case side1 => exact aK.o)
    (case side2 => exact HB.o)
    rintro e eG ⟨rfl, hi, hb, hk⟩
    refine ⟨_, rfl, ?_⟩
    have n_ := a2 (Kd.R_kp (qAv.apart aK.o aA.o (by decide)) hk) (a2 (qAg.blk hk aC.o aT.o (by simp)) (a2 (qAg.blk hk aB.o aU.o (by simp)) (a2 (qAg.trans HK.o hk (.inl rfl)) (a2 (hb) (am (hi))))))
    clear aA aC aB HK HB aK
    obtain ⟨aA, aC, aB, HK, HB, aK⟩ := n_
    (try clear hb)
    (skip)
    (try clear hk)
    (try clear hi)
    refine hK.o _ _ ⟨(qAa aB.o 0).trans rfl, (qAa aB.o 1).trans rfl, (qAa aB.o 2).trans rfl, (qAa aB.o 3).trans rfl⟩ (fun hHeld => ?_)
    clear hK K
    refine qCR (a' := ?_) ?_ ?_
    rotate_left
    ·show Act.put _ (some 29) _ = _
     simp only [Act.put, List.setIfInBounds_toArray, List.set_cons_zero, List.set_cons_succ]
     rfl
    refine pure_ (i := 5) (N := some 30) (v := ?_) (a' := ?_) #[true, true, true, true, true, true, false, false, false, false, false] rfl rfl (qBl HT_.o (by kernel_rfl)) (fun _ _ _ h => h) (Or.inl ⟨by rfl, ?_⟩) ?_ ?_
    rotate_left
    ·intro w'
     go_simp
     with_reducible rfl
    rotate_left
    ·simp only [Act.put, List.setIfInBounds_toArray, List.set_cons_zero, List.set_cons_succ, i64_w]
     rfl
    refine one_ (i := 6) (N := some 31) #[true, true, true, true, true, true, true, false, false, false, false] rfl rfl (qBM HT_.o (by kernel_rfl)) (by decide) (fun K hK => ?_)
    refine value_ (w1 := ?_) (v := ?_) (by rfl) rfl ?_ ?_
    rotate_left 2
    ·go_simp
     constructor
     ·rfl
     rfl
    refine hK.o _ _ ⟨(qAa (qBp aB.o _) 0).trans rfl, (qAa (qBp aB.o _) 1).trans rfl, (qAa (qBp aB.o _) 2).trans rfl, (qAa (qBp aB.o _) 3).trans rfl⟩ (fun hHeld => ?_)
    clear hK K
    refine qCR (a' := ?_) ?_ ?_
    rotate_left
    ·show Act.put _ (some 31) _ = _
     simp only [Act.put, List.setIfInBounds_toArray, List.set_cons_zero, List.set_cons_succ]
     rfl
    refine one_ (i := 7) (N := some 32) #[true, true, true, true, true, true, true, true, false, false, false] rfl rfl (qBM HT_.o (by kernel_rfl)) (by decide) (fun K hK => ?_)
    refine Kd.R_append_step (Kd.int .i64) w.heap.size (by rfl) (.tmp 27) (.tmp 31) 57 3 (.int .i64 0) 8 rfl Tryz.underlying57 info3 rfl (by decide) (by omega) aJ aN (wrap64 (bX)) [.int .i64 (wrap64 (bX))] (fun _ => True) (fun _ => False) rfl rfl ?aP (fun _ hk => hk.elim) ?aF ?aO (Below.refl _ _) ?aS ?aL ?_
    (case aP => exact rfl)
    (case aF => exact (fun _ _ => trivial))
    (case aO => exact aA.o)
    (case aS => exact (qBm HK.o))
    (case aL => have := cW.o; omega)
    intro dz eH ho hb hg cp
    rw [← cY.o] at ho
    have n_ := a2 (qBr (g := aH) (o := .cells #[.slice none 0 0, .int .i64 0, .slice none 0 0, .slice none 0 0] 98 (0, 0)) aC.o hg (Kd.R_ne aA.o aC.o (by decide))) (a2 (qBr (g := aI) (o := .cells #[aJ, .int .i64 0, .slice none 0 0, .slice none 0 0] 98 (0, 0)) aB.o hg (Kd.R_ne aA.o aB.o (by decide))) (a2 (qAv.grown aK.o hg (qAv.own_ne aK.o aA.o (by decide))) (a2 (qD0 HB.o HL.o hb) (a2 (qAg.trans HK.o (qAg.of_grown hg g) (Kd.R_base2 aA.o)) (am (ho))))))
    clear aC aB aK HB HK aA
    obtain ⟨aC, aB, aK, HB, HK, bu⟩ := n_
    clear ho hb hg cp
    obtain ⟨cT, cf, dX⟩ := Kd.R_slice bu.o
    (subst dX)
    refine hK.o _ _ ⟨(qAa aB.o 0).trans rfl, (qAa aB.o 1).trans rfl, (qAa aB.o 2).trans rfl, (qAa aB.o 3).trans rfl⟩ (fun hHeld => ?_)
    clear hK K
    refine qCR (a' := ?_) ?_ ?_
    rotate_left
    ·show Act.put _ (some 32) _ = _
     simp only [Act.put, List.setIfInBounds_toArray, List.set_cons_zero, List.set_cons_succ]
     rfl
    refine pu 8 33 #[true, true, true, true, true, true, true, true, true, false, false] (qBl HT_.o (by kernel_rfl)) ?_
    refine pu 9 34 #[true, true, true, true, true, true, true, true, true, true, false] (qBl HT_.o (by kernel_rfl)) ?_
    refine last_ (i := 10) (N := none) #[true, true, true, true, true, true, true, true, true, true, true] rfl rfl (qBM HT_.o (by kernel_rfl)) (by decide) (fun K hK => ?_)
    have hfs19 := qAb aB.o 0
    refine skip_ (w1 := ?_) (by rfl) rfl ?_ ?_
    rotate_left
    ·go_simp
     rfl
    refine hK.o _ _ ?_
    clear hK K
    refine done_ (qD5 HT_.o (by kernel_rfl)) ?_
    try go_wp2
    go_roundg k1
    case measure => have := cm.o; omega
    case rel => exact ⟨(wrap64 (ak + 1)), (ba), (bb), (bq), (.slice cT bq.length cf), (by rfl), H', ⟨by have := cm.o; omega⟩, ⟨by exact Kd.R_mono (Kd.R_far (p := ⟨aI, 0, none⟩) (Kd.R_types bu.o aB.o (by decide)) (fun _ hk => hk.2) (.slice cT bq.length cf)) (fun _ hk => trivial)⟩, ⟨by refine qAz ?_ aM.o _; exact aC.o⟩, ⟨by refine qAx (cs := #[aJ, .int .i64 0, .slice none 0 0, .slice none 0 0]) ?_ 0 _ rfl; exact aB.o⟩, ⟨by repeat (with_reducible first | exact aK.o | refine qAv.far ?_ aY.o _)⟩, ⟨by repeat (with_reducible first | exact HK.o | refine qBO ?_ ah.o _)⟩, ⟨by repeat (with_reducible first | exact HB.o | refine qAs ?_ ag.o)⟩⟩
 case rest =>
  clear dW
  obtain ⟨kq, aV, aQ, aE, aJ, HA, da, aA, aC, aB, aK, HK, HB⟩ := hcut
  cases kq with
  | zero => exact absurd HA.o (by simp [qAj.j1])
  | succ cD =>
   have H := HA.o
   clear HA
   simp only [qAj.j1] at H
   replace H := bm H
   obtain ⟨⟨aR, bc, bd⟩, cK, H⟩ := H
   replace H : ((qAt.f cD s0_0 bc bd).bind fun ad => (qAj.l1 cD (wrap64 (ad.1)) 0 s0_0 ad.2.1 ad.2.2 aE (wrap64 (aR)) ([] : List Int))) = some (r1, r2, r3, r4, r5, r6) := H
   have dp := am cK
   clear cK
   replace H := bm H
   obtain ⟨⟨au, cG, cH⟩, cL, H⟩ := H
   replace H : (qAj.l1 cD (wrap64 (au)) 0 s0_0 cG cH aE (wrap64 (aR)) ([] : List Int)) = some (r1, r2, r3, r4, r5, r6) := H
   have dq := am cL
   clear cL
   have H' := am H
   clear H
   go_wp2_with (first | ((with_reducible refine qAk (f := 69) rfl ?_); refine gL 36 Tryz.func69 #[.pointer (some ⟨g, 0, none⟩)] ?_; (with_reducible refine (qAt.calls cD g s0_0 aV aQ aR bc bd w0 _ ?side1 ?side2 dp.o).mono ?_); (case side1 => exact aK.o); (case side2 => exact HB.o); rintro e dV ⟨rfl, hi, hb, hk⟩; refine ⟨_, rfl, ?_⟩; have n_ := a2 (Kd.R_kp (qAv.apart aK.o aA.o (by decide)) hk) (a2 (qAg.blk hk aC.o aT.o (by simp)) (a2 (qAg.blk hk aB.o aU.o (by simp)) (a2 (qAg.trans HK.o hk (.inl rfl)) (a2 (hb) (am (hi)))))); clear aA aC aB HK HB aK; obtain ⟨aA, aC, aB, HK, HB, aK⟩ := n_; have b2 : dV.cell? ⟨aI, 0, none⟩ = some (aJ) := (qAa aB.o 0).trans rfl; have b3 : dV.cell? ⟨aI, 1, none⟩ = some (.int .i64 0) := (qAa aB.o 1).trans rfl; have b4 : dV.cell? ⟨aI, 2, none⟩ = some (.slice none 0 0) := (qAa aB.o 2).trans rfl; have b5 : dV.cell? ⟨aI, 3, none⟩ = some (.slice none 0 0) := (qAa aB.o 3).trans rfl; have b6 := qAb aB.o 0; have b7 := qAb aB.o 1; have b8 := qAb aB.o 2; have b9 := qAb aB.o 3) | ((with_reducible refine qAk (f := 69) rfl ?_); refine gL 41 Tryz.func69 #[.pointer (some ⟨g, 0, none⟩)] ?_; (with_reducible refine (qAt.calls cD g s0_0 bc bd au cG cH w0 _ ?side1 ?side2 dq.o).mono ?_); (case side1 => repeat (with_reducible first | exact aK.o | refine qAv.far ?_ aY.o _)); (case side2 => repeat (with_reducible first | exact HB.o | refine qAs ?_ ag.o)); rintro e eI ⟨rfl, hi, hb, hk⟩; refine ⟨_, rfl, ?_⟩; have n_ := a2 (Kd.R_kp (qAv.apart (show qAv w0 _ g s0_0 bc bd from by repeat (with_reducible first | exact aK.o | refine qAv.far ?_ aY.o _)) (by exact (Kd.R_mono (Kd.R_far (p := ⟨aI, 1, none⟩) (Kd.R_types aA.o aB.o (by decide)) (fun _ hk => hk.2) (.int .i64 (wrap64 (aR)))) (fun _ h_ => h_.1))) (by decide)) hk) (a2 (qAg.blk hk (g' := aH) (o := .cells #[.slice none 0 0, .int .i64 0, .slice none 0 0, .slice none 0 0] 98 (0, 0)) (by refine qAz ?_ aM.o _; exact aC.o) aT.o (by simp)) (a2 (qAg.blk hk (g' := aI) (o := .cells #[aJ, .int .i64 (wrap64 (aR)), .slice none 0 0, .slice none 0 0] 98 (0, 0)) (by refine qAx (cs := #[aJ, .int .i64 0, .slice none 0 0, .slice none 0 0]) ?_ 1 _ rfl; exact aB.o) aU.o (by simp)) (a2 (qAg.trans (by repeat (with_reducible first | exact HK.o | refine qBO ?_ ah.o _)) hk (.inl rfl)) (a2 (hb) (am (hi)))))); clear aA aC aB HK HB aK; obtain ⟨aA, aC, aB, HK, HB, aK⟩ := n_))
   go_loopg [6] cD (fun kq v6 w' => ∃ (al : Int) (aV : Int) (aQ : Int) (aG : List Int) (aW : Value), v6 = .int .i64 al ∧ qAe (qAj.l1 kq (wrap64 (au)) al s0_0 aV aQ aE (wrap64 (aR)) aG = some (r1, r2, r3, r4, r5, r6)) ∧ qAe (kq ≤ cD) ∧ qAe (Kd.R (Kd.int .i64) 3 w' w.heap.size (fun k_ => some k_ ≠ (aW : Value).ownBlock) aJ aE) ∧ qAe (Kd.R (Kd.int .i64) 3 w' w.heap.size (fun k_ => some k_ ≠ (aJ : Value).ownBlock) aW aG) ∧ qAe (w'.heap[aH]? = some (.cells #[(.slice none 0 0), .int .i64 0, (.slice none 0 0), (.slice none 0 0)] 98 (0, 0))) ∧ qAe (w'.heap[aI]? = some (.cells #[aJ, .int .i64 (wrap64 (aR)), aW, (.slice none 0 0)] 98 (0, 0))) ∧ qAe (qAv w0 w' g s0_0 aV aQ) ∧ qAe (qAg w w' g none) ∧ qAe (Below w0.heap.size w0 w'))
   case atStart => exact ⟨(0), (cG), (cH), ([] : List Int), (.slice none 0 0), (by rfl), H', ⟨Nat.le_refl _⟩, ⟨by exact Kd.R_mono aA.o (fun _ hk => (by simp [Value.ownBlock]))⟩, ⟨by (exact Kd.R_nil _ _ _ _ _)⟩, ⟨by exact aC.o⟩, ⟨by exact aB.o⟩, ⟨by exact aK.o⟩, ⟨by exact HK.o⟩, ⟨by exact HB.o⟩⟩
   case round =>
    clear H'
    obtain ⟨al, aV, aQ, aG, aW, rfl, HA, db, aA, aD, aC, aB, aK, HK, HB⟩ := hrel
    cases gk with
    | zero => exact absurd HA.o (by simp [qAj.l1])
    | succ k2 =>
     have H := HA.o
     clear HA
     simp only [qAj.l1] at H
     by_cases cI : al < (wrap64 (au))
     rotate_left
     ·rw [if_neg cI] at H
      replace cI := d0 cI
      replace H := bm H
      obtain ⟨⟨b0, bl, bo⟩, cQ, H⟩ := H
      replace H : ((qAf.f k2 b0).bind fun aq => ((qAl.f s0_0 bl bo aq.2).bind fun a9 => (some (aE, (wrap64 (aR)), aG, aq.1, a9.1, a9.2)))) = some (r1, r2, r3, r4, r5, r6) := H
      have dw := am cQ
      clear cQ
      replace H := bm H
      obtain ⟨⟨af, bp⟩, cR, H⟩ := H
      replace H : ((qAl.f s0_0 bl bo bp).bind fun a9 => (some (aE, (wrap64 (aR)), aG, af, a9.1, a9.2))) = some (r1, r2, r3, r4, r5, r6) := H
      have dx := am cR
      clear cR
      replace H := bm H
      obtain ⟨⟨ck, cl⟩, cS, H⟩ := H
      replace H : (some (aE, (wrap64 (aR)), aG, af, ck, cl)) = some (r1, r2, r3, r4, r5, r6) := H
      have dy := am cS
      clear cS
      simp only [Option.some.injEq, Prod.mk.injEq] at H
      obtain ⟨rfl, rfl, rfl, rfl, rfl, rfl⟩ := H
      go_wp2_with (first | ((with_reducible refine qAk (f := 132) rfl ?_); refine gL 65 Tryz.func132 #[.pointer (some ⟨g, 0, none⟩), .int .i64 1048576] ?_; (with_reducible refine (qAF.calls k2 g s0_0 aV aQ 1048576 b0 bl bo w0 _ ?side1 ?side2 dw.o).mono ?_); (case side1 => exact aK.o); (case side2 => exact HB.o); rintro e eO ⟨eD, rfl, bU, hi, hb, hk⟩; refine ⟨_, rfl, ?_⟩; have n_ := a2 (Kd.R_kp (qAv.apart aK.o aA.o (by decide)) hk) (a2 (Kd.R_kp (qAv.apart aK.o aD.o (by decide)) hk) (a2 (qAg.blk hk aC.o aT.o (by simp)) (a2 (qAg.blk hk aB.o aU.o (by simp)) (a2 (Kd.R_lower bU (qBm HK.o)) (a2 (qAg.trans HK.o hk (.inl rfl)) (a2 (hb) (am (hi)))))))); clear aA aD aC aB HK HB aK; obtain ⟨aA, aD, aC, aB, aj, HK, HB, aK⟩ := n_; obtain ⟨cV, ch, d5⟩ := Kd.R_slice aj.o; subst d5) | ((with_reducible refine qAk (f := 135) rfl ?_); refine gL 66 Tryz.func135 #[.slice cV b0.length ch] ?_; (with_reducible refine (qAf.calls k2 (fun k_ => some k_ = (.slice cV b0.length ch : Value).ownBlock) _ _ b0 af bp _ ?side1 dx.o).mono ?_); (case side1 => exact Kd.R_V (Kd.R_tight rfl (qAv.apart aK.o (Kd.R_types (Kd.R_types (Kd.R_apart' (Kd.R_apart' aj.o (Kd.R_typed aA.o) (by decide)) (Kd.R_typed aD.o) (by decide)) aC.o (by decide)) aB.o (by decide)) (by decide)))); rintro e eP ⟨eE, rfl, bU, hb⟩; refine ⟨_, rfl, ?_⟩; have n_ := a2 (Kd.R_below aA.o hb) (a2 (Kd.R_below aD.o hb) (a2 (Kd.R_below aj.o hb) (a2 (Kd.R_lower (Kd.R_mono (ok' := fun k_ => True) bU (fun _ hk_ => trivial)) (qBm HK.o)) (a2 (qA4 aC.o hb) (a2 (qA4 aB.o hb) (a2 (qAv.below aK.o hb) (a2 (qAg.trans HK.o (qAg.of_below hb g none) (.inl rfl)) (am (qAp HB.o hb))))))))); clear aA aD aj aC aB aK HK HB; obtain ⟨aA, aD, aj, ao, aC, aB, aK, HK, HB⟩ := n_) | ((with_reducible refine qAk (f := 134) rfl ?_); refine gL 71 Tryz.func134 #[.pointer (some ⟨g, 0, none⟩), .int .i64 bp] ?_; (with_reducible refine (qAl.calls g s0_0 bl bo bp ck cl w0 _ ?side1 ?side2 dy.o).mono ?_); (case side1 => exact aK.o); (case side2 => exact HB.o); rintro e cA ⟨rfl, hi, hb, hk⟩; refine ⟨_, rfl, ?_⟩; have n_ := a2 (Kd.R_kp (qAv.apart aK.o aA.o (by decide)) hk) (a2 (Kd.R_kp (qAv.apart aK.o aD.o (by decide)) hk) (a2 (qAg.blk hk aC.o aT.o (by simp)) (a2 (qAg.blk hk aB.o aU.o (by simp)) (a2 (Kd.R_kp (qAv.apart aK.o ao.o (by decide)) hk) (a2 (qAg.trans HK.o hk (.inl rfl)) (a2 (hb) (am (hi)))))))); clear aA aD aC aB aj ao HK HB aK; obtain ⟨aA, aD, aC, aB, ao, HK, HB, aK⟩ := n_; obtain ⟨ax, bB, d6⟩ := Kd.R_slice ao.o; subst d6; have dk := aM.o; have df := aU.o; have dl := aY.o; have dD : cA.cell? ⟨aI, 0, none⟩ = some (aJ) := (qAa aB.o 0).trans rfl; have dE : cA.cell? ⟨aI, 1, none⟩ = some (.int .i64 (wrap64 (aR))) := (qAa aB.o 1).trans rfl; have dF : cA.cell? ⟨aI, 2, none⟩ = some (aW) := (qAa aB.o 2).trans rfl; have dG : cA.cell? ⟨aI, 3, none⟩ = some (.slice none 0 0) := (qAa aB.o 3).trans rfl; have dQ := qAb aB.o 3; obtain ⟨ay, bC, d7⟩ := Kd.R_slice aA.o; subst d7; have dg := aT.o; have dm := aa.o; have dH : cA.cell? ⟨aH, 0, none⟩ = some (.slice none 0 0) := (qAa aC.o 0).trans rfl; have dI : cA.cell? ⟨aH, 1, none⟩ = some (.int .i64 0) := (qAa aC.o 1).trans rfl; have dJ : cA.cell? ⟨aH, 2, none⟩ = some (.slice none 0 0) := (qAa aC.o 2).trans rfl; have dK : cA.cell? ⟨aH, 3, none⟩ = some (.slice none 0 0) := (qAa aC.o 3).trans rfl; have dR := qAb aC.o 0; have dS := qAb aC.o 1; have dT := qAb aC.o 2; have dU := qAb aC.o 3; obtain ⟨bE, bL, d8⟩ := Kd.R_slice aD.o; subst d8))
      refine bodyPost_ret (results_cell_row rfl _ _ aH 98 #[.slice ay aE.length bC, .int .i64 (wrap64 (aR)), .slice bE aG.length bL, .slice ax af.length bB] (0, 0) _ rfl (by refine qAx (cs := #[.slice ay aE.length bC, .int .i64 (wrap64 (aR)), .slice bE aG.length bL, .slice none 0 0]) ?_ 3 _ rfl; refine qAx (cs := #[.slice ay aE.length bC, .int .i64 (wrap64 (aR)), .slice none 0 0, .slice none 0 0]) ?_ 2 _ rfl; refine qAx (cs := #[.slice ay aE.length bC, .int .i64 0, .slice none 0 0, .slice none 0 0]) ?_ 1 _ rfl; refine qAx (cs := #[.slice none 0 0, .int .i64 0, .slice none 0 0, .slice none 0 0]) ?_ 0 _ rfl; refine qAz ?_ aM.o _; exact aC.o) Tryz.underlying98 rfl (by kernel_rfl)) rfl ?_
      exact ⟨_, _, _, by rfl, by exact Kd.R_mono (Kd.R_far (p := ⟨aH, 3, none⟩) (Kd.R_far (p := ⟨aH, 2, none⟩) (Kd.R_far (p := ⟨aH, 1, none⟩) (Kd.R_far (p := ⟨aH, 0, none⟩) (Kd.R_far (p := ⟨aI, 3, none⟩) (Kd.R_types (Kd.R_types aA.o aB.o (by decide)) aC.o (by decide)) (fun _ hk => hk.1.2) (.slice ax af.length bB)) (fun _ hk => hk.2) (.slice ay aE.length bC)) (fun _ hk => hk.2) (.int .i64 (wrap64 (aR)))) (fun _ hk => hk.2) (.slice bE aG.length bL)) (fun _ hk => hk.2) (.slice ax af.length bB)) (fun _ hk => hk.1.1), by exact Kd.R_mono (Kd.R_far (p := ⟨aH, 3, none⟩) (Kd.R_far (p := ⟨aH, 2, none⟩) (Kd.R_far (p := ⟨aH, 1, none⟩) (Kd.R_far (p := ⟨aH, 0, none⟩) (Kd.R_far (p := ⟨aI, 3, none⟩) (Kd.R_types (Kd.R_types aD.o aB.o (by decide)) aC.o (by decide)) (fun _ hk => hk.1.2) (.slice ax af.length bB)) (fun _ hk => hk.2) (.slice ay aE.length bC)) (fun _ hk => hk.2) (.int .i64 (wrap64 (aR)))) (fun _ hk => hk.2) (.slice bE aG.length bL)) (fun _ hk => hk.2) (.slice ax af.length bB)) (fun _ hk => hk.1.1), by exact Kd.R_mono (Kd.R_far (p := ⟨aH, 3, none⟩) (Kd.R_far (p := ⟨aH, 2, none⟩) (Kd.R_far (p := ⟨aH, 1, none⟩) (Kd.R_far (p := ⟨aH, 0, none⟩) (Kd.R_far (p := ⟨aI, 3, none⟩) (Kd.R_types (Kd.R_types ao.o aB.o (by decide)) aC.o (by decide)) (fun _ hk => hk.1.2) (.slice ax af.length bB)) (fun _ hk => hk.2) (.slice ay aE.length bC)) (fun _ hk => hk.2) (.int .i64 (wrap64 (aR)))) (fun _ hk => hk.2) (.slice bE aG.length bL)) (fun _ hk => hk.2) (.slice ax af.length bB)) (fun _ hk => trivial), by repeat (with_reducible first | exact aK.o | refine qAv.far ?_ aa.o _ | refine qAv.far ?_ aY.o _), by repeat (with_reducible first | exact HB.o | refine qAs ?_ br.o | refine qAs ?_ ag.o), by repeat (with_reducible first | exact HK.o | refine qBO ?_ bs.o _ | refine qBO ?_ ah.o _)⟩
     rw [if_pos cI] at H
     replace cI := d1 cI
     by_cases cd : aQ = 0
     rotate_left
     ·rw [if_neg cd] at H
      have ce : (aQ == 0) = false := bf cd
      replace H := bm H
      obtain ⟨⟨bZ, bi, bj⟩, cN, H⟩ := H
      replace H : ((qAf.f k2 bZ).bind fun ap => ((qAl.f s0_0 bi bj ap.2).bind fun a8 => (some (aE, (wrap64 (aR)), aG, ap.1, a8.1, a8.2)))) = some (r1, r2, r3, r4, r5, r6) := H
      have dt := am cN
      clear cN
      replace H := bm H
      obtain ⟨⟨ae, bk⟩, cO, H⟩ := H
      replace H : ((qAl.f s0_0 bi bj bk).bind fun a8 => (some (aE, (wrap64 (aR)), aG, ae, a8.1, a8.2))) = some (r1, r2, r3, r4, r5, r6) := H
      have du := am cO
      clear cO
      replace H := bm H
      obtain ⟨⟨ci, cj⟩, cP, H⟩ := H
      replace H : (some (aE, (wrap64 (aR)), aG, ae, ci, cj)) = some (r1, r2, r3, r4, r5, r6) := H
      have dv := am cP
      clear cP
      simp only [Option.some.injEq, Prod.mk.injEq] at H
      obtain ⟨rfl, rfl, rfl, rfl, rfl, rfl⟩ := H
      obtain ⟨ASz41_0, cSz41_0, HGz41, hgz41, HSz41_0⟩ := aK.o
      have cu := qB4 HGz41
      clear HGz41 hgz41
      go_wp2_with (first | ((with_reducible refine qAk (f := 132) rfl ?_); refine gL 65 Tryz.func132 #[.pointer (some ⟨g, 0, none⟩), .int .i64 1048576] ?_; (with_reducible refine (qAF.calls k2 g s0_0 aV aQ 1048576 bZ bi bj w0 _ ?side1 ?side2 dt.o).mono ?_); (case side1 => exact aK.o); (case side2 => exact HB.o); rintro e eM ⟨eB, rfl, bU, hi, hb, hk⟩; refine ⟨_, rfl, ?_⟩; have n_ := a2 (Kd.R_kp (qAv.apart aK.o aA.o (by decide)) hk) (a2 (Kd.R_kp (qAv.apart aK.o aD.o (by decide)) hk) (a2 (qAg.blk hk aC.o aT.o (by simp)) (a2 (qAg.blk hk aB.o aU.o (by simp)) (a2 (Kd.R_lower bU (qBm HK.o)) (a2 (qAg.trans HK.o hk (.inl rfl)) (a2 (hb) (am (hi)))))))); clear aA aD aC aB HK HB aK; obtain ⟨aA, aD, aC, aB, ai, HK, HB, aK⟩ := n_; obtain ⟨cU, cg, dZ⟩ := Kd.R_slice ai.o; subst dZ) | ((with_reducible refine qAk (f := 135) rfl ?_); refine gL 66 Tryz.func135 #[.slice cU bZ.length cg] ?_; (with_reducible refine (qAf.calls k2 (fun k_ => some k_ = (.slice cU bZ.length cg : Value).ownBlock) _ _ bZ ae bk _ ?side1 du.o).mono ?_); (case side1 => exact Kd.R_V (Kd.R_tight rfl (qAv.apart aK.o (Kd.R_types (Kd.R_types (Kd.R_apart' (Kd.R_apart' ai.o (Kd.R_typed aA.o) (by decide)) (Kd.R_typed aD.o) (by decide)) aC.o (by decide)) aB.o (by decide)) (by decide)))); rintro e eN ⟨eC, rfl, bU, hb⟩; refine ⟨_, rfl, ?_⟩; have n_ := a2 (Kd.R_below aA.o hb) (a2 (Kd.R_below aD.o hb) (a2 (Kd.R_below ai.o hb) (a2 (Kd.R_lower (Kd.R_mono (ok' := fun k_ => True) bU (fun _ hk_ => trivial)) (qBm HK.o)) (a2 (qA4 aC.o hb) (a2 (qA4 aB.o hb) (a2 (qAv.below aK.o hb) (a2 (qAg.trans HK.o (qAg.of_below hb g none) (.inl rfl)) (am (qAp HB.o hb))))))))); clear aA aD ai aC aB aK HK HB; obtain ⟨aA, aD, ai, an, aC, aB, aK, HK, HB⟩ := n_) | ((with_reducible refine qAk (f := 134) rfl ?_); refine gL 71 Tryz.func134 #[.pointer (some ⟨g, 0, none⟩), .int .i64 bk] ?_; (with_reducible refine (qAl.calls g s0_0 bi bj bk ci cj w0 _ ?side1 ?side2 dv.o).mono ?_); (case side1 => exact aK.o); (case side2 => exact HB.o); rintro e bz ⟨rfl, hi, hb, hk⟩; refine ⟨_, rfl, ?_⟩; have n_ := a2 (Kd.R_kp (qAv.apart aK.o aA.o (by decide)) hk) (a2 (Kd.R_kp (qAv.apart aK.o aD.o (by decide)) hk) (a2 (qAg.blk hk aC.o aT.o (by simp)) (a2 (qAg.blk hk aB.o aU.o (by simp)) (a2 (Kd.R_kp (qAv.apart aK.o an.o (by decide)) hk) (a2 (qAg.trans HK.o hk (.inl rfl)) (a2 (hb) (am (hi)))))))); clear aA aD aC aB ai an HK HB aK; obtain ⟨aA, aD, aC, aB, an, HK, HB, aK⟩ := n_; obtain ⟨av, az, d2⟩ := Kd.R_slice an.o; subst d2; have dh := aM.o; have dd := aU.o; have di := aY.o; have cv : bz.cell? ⟨aI, 0, none⟩ = some (aJ) := (qAa aB.o 0).trans rfl; have cw : bz.cell? ⟨aI, 1, none⟩ = some (.int .i64 (wrap64 (aR))) := (qAa aB.o 1).trans rfl; have cx : bz.cell? ⟨aI, 2, none⟩ = some (aW) := (qAa aB.o 2).trans rfl; have cy : bz.cell? ⟨aI, 3, none⟩ = some (.slice none 0 0) := (qAa aB.o 3).trans rfl; have dL := qAb aB.o 3; obtain ⟨aw, bA, d3⟩ := Kd.R_slice aA.o; subst d3; have de := aT.o; have dj := aa.o; have cz : bz.cell? ⟨aH, 0, none⟩ = some (.slice none 0 0) := (qAa aC.o 0).trans rfl; have dA : bz.cell? ⟨aH, 1, none⟩ = some (.int .i64 0) := (qAa aC.o 1).trans rfl; have dB : bz.cell? ⟨aH, 2, none⟩ = some (.slice none 0 0) := (qAa aC.o 2).trans rfl; have dC : bz.cell? ⟨aH, 3, none⟩ = some (.slice none 0 0) := (qAa aC.o 3).trans rfl; have dM := qAb aC.o 0; have dN := qAb aC.o 1; have dO := qAb aC.o 2; have dP := qAb aC.o 3; obtain ⟨bD, bK, d4⟩ := Kd.R_slice aD.o; subst d4))
      refine bodyPost_ret (results_cell_row rfl _ _ aH 98 #[.slice aw aE.length bA, .int .i64 (wrap64 (aR)), .slice bD aG.length bK, .slice av ae.length az] (0, 0) _ rfl (by refine qAx (cs := #[.slice aw aE.length bA, .int .i64 (wrap64 (aR)), .slice bD aG.length bK, .slice none 0 0]) ?_ 3 _ rfl; refine qAx (cs := #[.slice aw aE.length bA, .int .i64 (wrap64 (aR)), .slice none 0 0, .slice none 0 0]) ?_ 2 _ rfl; refine qAx (cs := #[.slice aw aE.length bA, .int .i64 0, .slice none 0 0, .slice none 0 0]) ?_ 1 _ rfl; refine qAx (cs := #[.slice none 0 0, .int .i64 0, .slice none 0 0, .slice none 0 0]) ?_ 0 _ rfl; refine qAz ?_ aM.o _; exact aC.o) Tryz.underlying98 rfl (by kernel_rfl)) rfl ?_
      exact ⟨_, _, _, by rfl, by exact Kd.R_mono (Kd.R_far (p := ⟨aH, 3, none⟩) (Kd.R_far (p := ⟨aH, 2, none⟩) (Kd.R_far (p := ⟨aH, 1, none⟩) (Kd.R_far (p := ⟨aH, 0, none⟩) (Kd.R_far (p := ⟨aI, 3, none⟩) (Kd.R_types (Kd.R_types aA.o aB.o (by decide)) aC.o (by decide)) (fun _ hk => hk.1.2) (.slice av ae.length az)) (fun _ hk => hk.2) (.slice aw aE.length bA)) (fun _ hk => hk.2) (.int .i64 (wrap64 (aR)))) (fun _ hk => hk.2) (.slice bD aG.length bK)) (fun _ hk => hk.2) (.slice av ae.length az)) (fun _ hk => hk.1.1), by exact Kd.R_mono (Kd.R_far (p := ⟨aH, 3, none⟩) (Kd.R_far (p := ⟨aH, 2, none⟩) (Kd.R_far (p := ⟨aH, 1, none⟩) (Kd.R_far (p := ⟨aH, 0, none⟩) (Kd.R_far (p := ⟨aI, 3, none⟩) (Kd.R_types (Kd.R_types aD.o aB.o (by decide)) aC.o (by decide)) (fun _ hk => hk.1.2) (.slice av ae.length az)) (fun _ hk => hk.2) (.slice aw aE.length bA)) (fun _ hk => hk.2) (.int .i64 (wrap64 (aR)))) (fun _ hk => hk.2) (.slice bD aG.length bK)) (fun _ hk => hk.2) (.slice av ae.length az)) (fun _ hk => hk.1.1), by exact Kd.R_mono (Kd.R_far (p := ⟨aH, 3, none⟩) (Kd.R_far (p := ⟨aH, 2, none⟩) (Kd.R_far (p := ⟨aH, 1, none⟩) (Kd.R_far (p := ⟨aH, 0, none⟩) (Kd.R_far (p := ⟨aI, 3, none⟩) (Kd.R_types (Kd.R_types an.o aB.o (by decide)) aC.o (by decide)) (fun _ hk => hk.1.2) (.slice av ae.length az)) (fun _ hk => hk.2) (.slice aw aE.length bA)) (fun _ hk => hk.2) (.int .i64 (wrap64 (aR)))) (fun _ hk => hk.2) (.slice bD aG.length bK)) (fun _ hk => hk.2) (.slice av ae.length az)) (fun _ hk => trivial), by repeat (with_reducible first | exact aK.o | refine qAv.far ?_ aa.o _ | refine qAv.far ?_ aY.o _), by repeat (with_reducible first | exact HB.o | refine qAs ?_ br.o | refine qAs ?_ ag.o), by repeat (with_reducible first | exact HK.o | refine qBO ?_ bs.o _ | refine qBO ?_ ah.o _)⟩
     rw [if_pos cd] at H
     have ce : (aQ == 0) = true := beq_iff_eq.mpr cd
     clear cd
     replace H := bm H
     obtain ⟨⟨bY, bg, bh⟩, cM, H⟩ := H
     replace H : (if aG.length < 17592186044416 then (qAj.l1 k2 (wrap64 (au)) (wrap64 (al + 1)) s0_0 bg bh aE (wrap64 (aR)) (aG ++ [wrap64 (bY)])) else (none)) = some (r1, r2, r3, r4, r5, r6) := H
     have dr := am cM
     clear cM
     obtain ⟨co, H⟩ := gd H
     have cX := am co
     clear co
     obtain ⟨b1, bW⟩ : ∃ y_ : List Int, y_ = (aG ++ [wrap64 (bY)]) := ⟨_, rfl⟩
     replace H : (qAj.l1 k2 (wrap64 (au)) (wrap64 (al + 1)) s0_0 bg bh aE (wrap64 (aR)) b1) = some (r1, r2, r3, r4, r5, r6) := by (rw [bW]; with_reducible exact H)
     have cZ := am bW
     clear bW
     have H' := am H
     clear H
     obtain ⟨ASz32_0, cSz32_0, HGz32, hgz32, HSz32_0⟩ := aK.o
     have ct := qB4 HGz32
     clear HGz32 hgz32
     try go_wp2
     have n_ := a2 (Kd.R_drew aA.o) (a2 (Kd.R_drew aD.o) (a2 (qCb aC.o) (a2 (qCb aB.o) (a2 (qAv.drew aK.o) (a2 (qCu HK.o) (am (qAX HB.o)))))))
     clear aA aD aC aB aK HK HB
     obtain ⟨aA, aD, aC, aB, aK, HK, HB⟩ := n_
     refine qEG (n := 9) (S := fun w' => w'.cell? ⟨aI, 0, none⟩ = some (aJ) ∧ w'.cell? ⟨aI, 1, none⟩ = some (.int .i64 (wrap64 (aR))) ∧ w'.cell? ⟨aI, 2, none⟩ = some (aW) ∧ w'.cell? ⟨aI, 3, none⟩ = some (.slice none 0 0)) (ds := [8]) #[false, false, false, false, false, false, false, false, false] (by kernel_rfl) rfl rfl ⟨(qAa aB.o 0).trans rfl, (qAa aB.o 1).trans rfl, (qAa aB.o 2).trans rfl, (qAa aB.o 3).trans rfl⟩ (fun hHeld => ?_); refine qCD qAj.tab12 qAj.bits12 (fun HT_ HW_ => ?_)
     generalize wr.drew = eJ at aA aD aC aB aK HK HB hHeld ⊢
     refine pu 0 55 #[true, false, false, false, false, false, false, false, false] (qBl HT_.o (by kernel_rfl)) ?_
     refine pu 2 57 #[true, false, true, false, false, false, false, false, false] (qBl HT_.o (by kernel_rfl)) ?_
     refine take_ (i := 1) (N := some 56) (v := ?_) (a' := ?_) #[true, true, true, false, false, false, false, false, false] rfl rfl (qCi HT_.o HW_.o (by kernel_rfl)) (fun _ _ _ h => h) (Or.inl ⟨by rfl, ?_⟩) hHeld ?_ ?_
     rotate_left
     ·rintro w' ⟨s0, s1, s2, s3⟩
      go_simp
      with_reducible rfl
     rotate_left
     ·simp only [Act.put, List.setIfInBounds_toArray, List.set_cons_zero, List.set_cons_succ]
      rfl
     refine one_ (i := 3) (N := some 58) #[true, true, true, true, false, false, false, false, false] rfl rfl (qBM HT_.o (by kernel_rfl)) (by decide) (fun K hK => ?_)
     refine qE1 Tryz.func69 (by kernel_rfl) rfl #[.pointer (some ⟨g, 0, none⟩)] (by rfl) rfl rfl (by (try simp only [List.map_toArray, List.map_cons, List.map_nil]); (rfl)) ?_
     with_reducible refine (qAt.calls k2 g s0_0 aV aQ bY bg bh w0 _ ?side1 ?side2 dr.o).mono ?_
     (case side1 => exact aK.o)
     (case side2 => exact HB.o)
     rintro e eK ⟨rfl, hi, hb, hk⟩
     refine ⟨_, rfl, ?_⟩
     have n_ := a2 (Kd.R_kp (qAv.apart aK.o aA.o (by decide)) hk) (a2 (Kd.R_kp (qAv.apart aK.o aD.o (by decide)) hk) (a2 (qAg.blk hk aC.o aT.o (by simp)) (a2 (qAg.blk hk aB.o aU.o (by simp)) (a2 (qAg.trans HK.o hk (.inl rfl)) (a2 (hb) (am (hi)))))))
     clear aA aD aC aB HK HB aK
     obtain ⟨aA, aD, aC, aB, HK, HB, aK⟩ := n_
     (try clear hb)
     (skip)
     (try clear hk)
     (try clear hi)
     refine hK.o _ _ ⟨(qAa aB.o 0).trans rfl, (qAa aB.o 1).trans rfl, (qAa aB.o 2).trans rfl, (qAa aB.o 3).trans rfl⟩ (fun hHeld => ?_)
     clear hK K
     refine qCR (a' := ?_) ?_ ?_
     rotate_left
     ·show Act.put _ (some 58) _ = _
      simp only [Act.put, List.setIfInBounds_toArray, List.set_cons_zero, List.set_cons_succ]
      rfl
     refine pure_ (i := 4) (N := some 59) (v := ?_) (a' := ?_) #[true, true, true, true, true, false, false, false, false] rfl rfl (qBl HT_.o (by kernel_rfl)) (fun _ _ _ h => h) (Or.inl ⟨by rfl, ?_⟩) ?_ ?_
     rotate_left
     ·intro w'
      go_simp
      with_reducible rfl
     rotate_left
     ·simp only [Act.put, List.setIfInBounds_toArray, List.set_cons_zero, List.set_cons_succ, i64_w]
      rfl
     refine one_ (i := 5) (N := some 60) #[true, true, true, true, true, true, false, false, false] rfl rfl (qBM HT_.o (by kernel_rfl)) (by decide) (fun K hK => ?_)
     refine value_ (w1 := ?_) (v := ?_) (by rfl) rfl ?_ ?_
     rotate_left 2
     ·go_simp
      constructor
      ·rfl
      rfl
     refine hK.o _ _ ⟨(qAa (qBp aB.o _) 0).trans rfl, (qAa (qBp aB.o _) 1).trans rfl, (qAa (qBp aB.o _) 2).trans rfl, (qAa (qBp aB.o _) 3).trans rfl⟩ (fun hHeld => ?_)
     clear hK K
     refine qCR (a' := ?_) ?_ ?_
     rotate_left
     ·show Act.put _ (some 60) _ = _
      simp only [Act.put, List.setIfInBounds_toArray, List.set_cons_zero, List.set_cons_succ]
      rfl
     refine one_ (i := 6) (N := some 61) #[true, true, true, true, true, true, true, false, false] rfl rfl (qBM HT_.o (by kernel_rfl)) (by decide) (fun K hK => ?_)
     refine Kd.R_append_step (Kd.int .i64) w.heap.size (by rfl) (.tmp 56) (.tmp 60) 57 3 (.int .i64 0) 8 rfl Tryz.underlying57 info3 rfl (by decide) (by omega) aW aG (wrap64 (bY)) [.int .i64 (wrap64 (bY))] (fun k_ => some k_ ≠ (aJ : Value).ownBlock) (fun _ => False) rfl rfl ?aP (fun _ hk => hk.elim) ?aF ?aO (Below.refl _ _) ?aS ?aL ?_
     (case aP => exact rfl)
     (case aF => exact (fun k_ hk => Kd.fresh' (Kd.R_lt aA.o) k_ hk))
     (case aO => exact aD.o)
     (case aS => exact (qBm HK.o))
     (case aL => have := cX.o; omega)
     intro eA eL ho hb hg cp
     rw [← cZ.o] at ho
     have n_ := a2 (Kd.R_after (ok := (fun _ => True)) (by exact Kd.R_mono aA.o (fun _ hk => ⟨trivial, hk⟩)) hg cp) (a2 (qBr (g := aH) (o := .cells #[.slice none 0 0, .int .i64 0, .slice none 0 0, .slice none 0 0] 98 (0, 0)) aC.o hg (Kd.R_ne aD.o aC.o (by decide))) (a2 (qBr (g := aI) (o := .cells #[aJ, .int .i64 (wrap64 (aR)), aW, .slice none 0 0] 98 (0, 0)) aB.o hg (Kd.R_ne aD.o aB.o (by decide))) (a2 (qAv.grown aK.o hg (qAv.own_ne aK.o aD.o (by decide))) (a2 (qD0 HB.o HL.o hb) (a2 (qAg.trans HK.o (qAg.of_grown hg g) (Kd.R_base2 aD.o)) (am (ho)))))))
     clear aA aC aB aK HB HK aD
     obtain ⟨aA, aC, aB, aK, HB, HK, bw⟩ := n_
     clear ho hb hg cp
     obtain ⟨cB, cC, dY⟩ := Kd.R_slice bw.o
     (subst dY)
     refine hK.o _ _ ⟨(qAa aB.o 0).trans rfl, (qAa aB.o 1).trans rfl, (qAa aB.o 2).trans rfl, (qAa aB.o 3).trans rfl⟩ (fun hHeld => ?_)
     clear hK K
     refine qCR (a' := ?_) ?_ ?_
     rotate_left
     ·show Act.put _ (some 61) _ = _
      simp only [Act.put, List.setIfInBounds_toArray, List.set_cons_zero, List.set_cons_succ]
      rfl
     refine pu 7 62 #[true, true, true, true, true, true, true, true, false] (qBl HT_.o (by kernel_rfl)) ?_
     refine last_ (i := 8) (N := none) #[true, true, true, true, true, true, true, true, true] rfl rfl (qBM HT_.o (by kernel_rfl)) (by decide) (fun K hK => ?_)
     have hfs37 := qAb aB.o 2
     refine skip_ (w1 := ?_) (by rfl) rfl ?_ ?_
     rotate_left
     ·go_simp
      rfl
     refine hK.o _ _ ?_
     clear hK K
     refine done_ (qD5 HT_.o (by kernel_rfl)) ?_
     try go_wp2
     go_roundg k2
     case measure => have := da.o; have := db.o; omega
     case rel => exact ⟨(wrap64 (al + 1)), (bg), (bh), (b1), (.slice cB b1.length cC), (by rfl), H', ⟨by have := da.o; have := db.o; omega⟩, ⟨by exact Kd.R_mono (Kd.R_far (p := ⟨aI, 2, none⟩) (Kd.R_types aA.o aB.o (by decide)) (fun _ hk => hk.2) (.slice cB b1.length cC)) (fun _ hk => hk.1.2)⟩, ⟨by exact Kd.R_mono (Kd.R_far (p := ⟨aI, 2, none⟩) (Kd.R_types bw.o aB.o (by decide)) (fun _ hk => hk.2) (.slice cB b1.length cC)) (fun _ hk => hk.1)⟩, ⟨by refine qAz ?_ aM.o _; exact aC.o⟩, ⟨by refine qAx (cs := #[aJ, .int .i64 (wrap64 (aR)), aW, .slice none 0 0]) ?_ 2 _ rfl; exact aB.o⟩, ⟨by repeat (with_reducible first | exact aK.o | refine qAv.far ?_ aY.o _)⟩, ⟨by repeat (with_reducible first | exact HK.o | refine qBO ?_ ah.o _)⟩, ⟨by repeat (with_reducible first | exact HB.o | refine qAs ?_ ag.o)⟩⟩
def qAK.f (k : Nat) (s0_0 : List Int) (s0_1 : Int) (s0_2 : Int) : Option (Int × Int × Int) := (qAr.f k s0_0 s0_1 s0_2 2).bind fun aA => (some (wrap64 (aA.1), aA.2.1, aA.2.2))
theorem qAK.calls (k : Nat) (g : Nat) (s0_0 : List Int) (s0_1 : Int) (s0_2 : Int) (r1 : Int) (r2 : Int) (r3 : Int) (w0 w : World) (hI : qAv w0 w g s0_0 s0_1 s0_2) (hB : Below w0.heap.size w0 w) (h : qAK.f k s0_0 s0_1 s0_2 = some (r1, r2, r3)) :
  Calls Tryz.prog 72 #[.pointer (some ⟨g, 0, none⟩)] w fun e w' => e = .returned (.int .i64 r1) ∧ qAv w0 w' g s0_0 r2 r3 ∧ Below w0.heap.size w0 w' ∧ qAg w w' g none := by
 have aE := am hI
 have HK := am (qAg.refl w g none)
 clear hI
 have HB := am hB
 clear hB
 have H : ((qAr.f k s0_0 s0_1 s0_2 2).bind fun aA => (some (wrap64 (aA.1), aA.2.1, aA.2.2))) = some (r1, r2, r3) := h
 clear h
 replace H := bm H
 obtain ⟨⟨aB, aC, aD⟩, aF, H⟩ := H
 replace H : (some (wrap64 (aB), aC, aD)) = some (r1, r2, r3) := H
 have A2 := am aF
 clear aF
 simp only [Option.some.injEq, Prod.mk.injEq] at H
 obtain ⟨rfl, rfl, rfl⟩ := H
 go_enter Tryz.func72, Tryz.ntmps72
 go_wp2_with ((with_reducible refine qAk (f := 133) rfl ?_); refine gL 4 Tryz.func133 #[.pointer (some ⟨g, 0, none⟩), .int .i64 2] ?_; (with_reducible refine (qAr.calls k g s0_0 s0_1 s0_2 2 aB aC aD w0 _ ?side1 ?side2 A2.o).mono ?_); (case side1 => exact aE.o); (case side2 => exact HB.o); rintro e w3 ⟨rfl, hi, hb, hk⟩; refine ⟨_, rfl, ?_⟩; have n_ := a2 (qAg.trans HK.o hk (.inl rfl)) (a2 (hb) (am (hi))); clear HK HB aE; obtain ⟨HK, HB, aE⟩ := n_)
 go_ret
 exact ⟨by rfl, by exact aE.o, by exact HB.o, by exact HK.o⟩
def qAY.f (s0_0 : List Int) (s0_1 : Int) (s0_2 : Int) : Option (Int × Int × Int) := if s0_2 = 0 then (if s0_1 < (s0_0.length : Int) then (some (41, s0_1, s0_2)) else (some (s0_2, s0_1, s0_2))) else (some (s0_2, s0_1, s0_2))
theorem qAY.calls (g : Nat) (s0_0 : List Int) (s0_1 : Int) (s0_2 : Int) (r1 : Int) (r2 : Int) (r3 : Int) (w0 w : World) (hI : qAv w0 w g s0_0 s0_1 s0_2) (hB : Below w0.heap.size w0 w) (h : qAY.f s0_0 s0_1 s0_2 = some (r1, r2, r3)) :
  Calls Tryz.prog 73 #[.pointer (some ⟨g, 0, none⟩)] w fun e w' => e = .returned (.int .i64 r1) ∧ qAv w0 w' g s0_0 r2 r3 ∧ Below w0.heap.size w0 w' ∧ qAg w w' g none := by
 have aA := am hI
 have HK := am (qAg.refl w g none)
 clear hI
 have HB := am hB
 clear hB
 have H : (if s0_2 = 0 then (if s0_1 < (s0_0.length : Int) then (some (41, s0_1, s0_2)) else (some (s0_2, s0_1, s0_2))) else (some (s0_2, s0_1, s0_2))) = some (r1, r2, r3) := h
 clear h
 by_cases c2 : s0_2 = 0
 ·rw [if_pos c2] at H
  have aB : (s0_2 == 0) = true := beq_iff_eq.mpr c2
  have aK : (s0_2 != 0) = false := bn c2
  clear c2
  by_cases c3 : s0_1 < (s0_0.length : Int)
  ·rw [if_pos c3] at H
   replace c3 := d1 c3
   simp only [Option.some.injEq, Prod.mk.injEq] at H
   obtain ⟨rfl, rfl, rfl⟩ := H
   obtain ⟨ASz4_0, cSz4_0, HGz4, hgz4, HSz4_0⟩ := aA.o
   have aD := qCn HGz4
   have aE := qCe HGz4
   have aF := qB4 HGz4
   clear HGz4 hgz4
   go_enter Tryz.func73, Tryz.ntmps73
   go_wp2
   repeat (go_quiet (fail); try go_wp2)
   go_ret
   exact ⟨by rfl, by repeat (with_reducible first | exact aA.o | apply qAv.drewN), by repeat (with_reducible first | exact HB.o | apply qAw), by repeat (with_reducible first | exact HK.o | apply qBK)⟩
  ·rw [if_neg c3] at H
   replace c3 := d0 c3
   simp only [Option.some.injEq, Prod.mk.injEq] at H
   obtain ⟨rfl, rfl, rfl⟩ := H
   obtain ⟨ASz5_0, cSz5_0, HGz5, hgz5, HSz5_0⟩ := aA.o
   have aG := qCn HGz5
   have aH := qCe HGz5
   have aI := qB4 HGz5
   clear HGz5 hgz5
   go_enter Tryz.func73, Tryz.ntmps73
   go_wp2
   repeat (go_quiet (fail); try go_wp2)
   go_ret
   exact ⟨by rfl, by repeat (with_reducible first | exact aA.o | apply qAv.drewN), by repeat (with_reducible first | exact HB.o | apply qAw), by repeat (with_reducible first | exact HK.o | apply qBK)⟩
 ·rw [if_neg c2] at H
  have aB : (s0_2 == 0) = false := bf c2
  simp only [Option.some.injEq, Prod.mk.injEq] at H
  obtain ⟨rfl, rfl, rfl⟩ := H
  obtain ⟨ASz6_0, cSz6_0, HGz6, hgz6, HSz6_0⟩ := aA.o
  have aJ := qB4 HGz6
  clear HGz6 hgz6
  go_enter Tryz.func73, Tryz.ntmps73
  go_wp2
  repeat (go_quiet (fail); try go_wp2)
  go_ret
  exact ⟨by rfl, by repeat (with_reducible first | exact aA.o | apply qAv.drewN), by repeat (with_reducible first | exact HB.o | apply qAw), by repeat (with_reducible first | exact HK.o | apply qBK)⟩
end Q
end
end Go.Proofs.YtfjpnjbinbhcfaaGreat
