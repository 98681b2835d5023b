/- What the document's object.Unpack and the program's tell of any bytes is the same: Rows.ObjectReadsSaid. Part 3 of 11. -/
import Derived.Test.YtfjpnjbinbhcfaaGreatM2
import Derived.StillTailTactics
import Derived.Deep.RegionHeld3
set_option maxHeartbeats 8000000
set_option maxRecDepth 100000
set_option linter.unusedVariables false
set_option linter.unusedSimpArgs false
namespace Go.Proofs.YtfjpnjbinbhcfaaGreat
section
namespace Q
open Go.RowKit PA PC PB
attribute [local go_sem high] eqA83
theorem qDx {B : Nat} {a w : World} (h : Below B a w) (q : Nat) : Below B a (w.drewN q) := ⟨h.os, h.tape, h.output, h.size, h.block⟩
def qE7 (x : S85) (y : S95) : Bool := x.f0.toList == y.f0.toList && (x.f1.f0 == y.f1.f0 && x.f1.f1 == y.f1.f1)
def qEN (x : S92) (y : S100) : Bool := x.f0.toList == y.f0.toList && likeF x.f1 y.f1
def qCq (x : S104) (y : S103) : Bool := x.f0 == y.f0 && (x.f1 == y.f1 && (x.f2 == y.f2 && (x.f3.toList == y.f3.toList && x.f4.toList == y.f4.toList)))
def likeO (a0 : ByteArray) (a1 : List S85) (a2 : List S92) (a3 : List S104) (b0 : ByteArray) (b1 : List S95) (b2 : List S100) (b3 : List S103) : Bool :=
 a0.toList == b0.toList && (all2 qE7 a1 b1 && (all2 qEN a2 b2 && all2 qCq a3 b3))
def okLens (x : S92) : Bool := decide (x.f1.f0.f0.length ≤ 4611686018427387904 ∧ x.f1.f1.length ≤ 4611686018427387904 ∧ x.f1.f2.length ≤ 4611686018427387904)
def qBc.f (a0_0 : ByteArray) (l0_1 : List (S85)) (l0_2 : List (S92)) (l0_3 : List (S104)) (a1_0 : ByteArray) (l1_1 : List (S95)) (l1_2 : List (S100)) (l1_3 : List (S103)) : Option (Bool) :=
 if l0_1.length ≤ 4611686018427387904 ∧ l0_2.length ≤ 4611686018427387904 ∧ l0_3.length ≤ 4611686018427387904 ∧ l0_2.all okLens = true then some (likeO a0_0 l0_1 l0_2 l0_3 a1_0 l1_1 l1_2 l1_3) else none
theorem qBc.calls (a0_0 : ByteArray) (A0_1 : Option Addr) (c0_1 : Nat) (l0_1 : List (S85)) (A0_2 : Option Addr) (c0_2 : Nat) (l0_2 : List (S92)) (A0_3 : Option Addr) (c0_3 : Nat) (l0_3 : List (S104)) (a1_0 : ByteArray) (A1_1 : Option Addr) (c1_1 : Nat) (l1_1 : List (S95)) (A1_2 : Option Addr) (c1_2 : Nat) (l1_2 : List (S100)) (A1_3 : Option Addr) (c1_3 : Nat) (l1_3 : List (S103)) (r : Bool) (w : World) (hr0_1 : Kd.C k85 w A0_1 l0_1.length l0_1) (hc0_1 : l0_1.length ≤ c0_1) (hr0_2 : Kd.C k92 w A0_2 l0_2.length l0_2) (hc0_2 : l0_2.length ≤ c0_2) (hr0_3 : Kd.C k104 w A0_3 l0_3.length l0_3) (hc0_3 : l0_3.length ≤ c0_3) (hr1_1 : Kd.C k95 w A1_1 l1_1.length l1_1) (hc1_1 : l1_1.length ≤ c1_1) (hr1_2 : Kd.C k100 w A1_2 l1_2.length l1_2) (hc1_2 : l1_2.length ≤ c1_2) (hr1_3 : Kd.C k103 w A1_3 l1_3.length l1_3) (hc1_3 : l1_3.length ≤ c1_3) (h : qBc.f a0_0 l0_1 l0_2 l0_3 a1_0 l1_1 l1_2 l1_3 = some r) :
  Calls Tryz.prog 15 #[.agg #[.string a0_0, .slice A0_1 l0_1.length c0_1, .slice A0_2 l0_2.length c0_2, .slice A0_3 l0_3.length c0_3], .agg #[.string a1_0, .slice A1_1 l1_1.length c1_1, .slice A1_2 l1_2.length c1_2, .slice A1_3 l1_3.length c1_3]] w fun e w' => e = .returned (.bool r) ∧ Below w.heap.size w w' := by
 unfold qBc.f at h
 split at h
 case isFalse => cases h
 rename_i hs
 obtain ⟨hL1, hL2, hL3, hLF⟩ := hs
 replace h := Option.some.inj h
 have HF : qAe (∀ (A0 : Option Addr) (c0 : Nat) (A2 : Option Addr) (c2 : Nat) (A3 : Option Addr) (c3 : Nat) (x : S90) (B0 : Option Addr) (d0 : Nat) (B2 : Option Addr) (d2 : Nat) (B3 : Option Addr) (d3 : Nat) (y : S98) (W : World), x.f0.f0.length ≤ 4611686018427387904 ∧ x.f1.length ≤ 4611686018427387904 ∧ x.f2.length ≤ 4611686018427387904 →
     Kd.C (Kd.int .i64) W A0 x.f0.f0.length x.f0.f0 ∧ x.f0.f0.length ≤ c0 ∧ Kd.C (Kd.int .i64) W A2 x.f1.length x.f1 ∧ x.f1.length ≤ c2 ∧ Kd.C k144 W A3 x.f2.length x.f2 ∧ x.f2.length ≤ c3 →
     Kd.C (Kd.int .i64) W B0 y.f0.f0.length y.f0.f0 ∧ y.f0.f0.length ≤ d0 ∧ Kd.C (Kd.int .i64) W B2 y.f1.length y.f1 ∧ y.f1.length ≤ d2 ∧ Kd.C k172 W B3 y.f2.length y.f2 ∧ y.f2.length ≤ d3 →
     Calls Tryz.prog 54 #[.agg #[.slice A0 x.f0.f0.length c0, .int .i64 x.f0.f1, .slice A2 x.f1.length c2, .slice A3 x.f2.length c3], .agg #[.slice B0 y.f0.f0.length d0, .int .i64 y.f0.f1, .slice B2 y.f1.length d2, .slice B3 y.f2.length d3]] W fun e w' => e = .returned (.bool (likeF x y)) ∧ Below W.heap.size W w') := ⟨by
   intro A0 c0 A2 c2 A3 c3 x B0 d0 B2 d2 B3 d3 y W hl ⟨g0, e0, g2, e2, g3, e3⟩ ⟨u0, v0, u2, v2, u3, v3⟩
   obtain ⟨k, hk⟩ := (likeFn_ev x.f0.f0 x.f0.f1 x.f1 x.f2 y.f0.f0 y.f0.f1 y.f1 y.f2 hl.1 hl.2.1 hl.2.2).rounds
   exact qAn.calls k A0 c0 _ _ A2 c2 _ A3 c3 _ B0 d0 _ _ B2 d2 _ B3 d3 _ _ W g0 e0 g2 e2 g3 e3 u0 v0 u2 v2 u3 v3 hk⟩
 obtain ⟨n1, hn1⟩ : ∃ n, n = l0_1.length := ⟨_, rfl⟩
 obtain ⟨n2, hn2⟩ : ∃ n, n = l0_2.length := ⟨_, rfl⟩
 obtain ⟨n3, hn3⟩ : ∃ n, n = l0_3.length := ⟨_, rfl⟩
 obtain ⟨m1, hm1⟩ : ∃ n, n = l1_1.length := ⟨_, rfl⟩
 obtain ⟨m2, hm2⟩ : ∃ n, n = l1_2.length := ⟨_, rfl⟩
 obtain ⟨m3, hm3⟩ : ∃ n, n = l1_3.length := ⟨_, rfl⟩
 rw [← hn1] at hr0_1 hL1 ⊢
 rw [← hn2] at hr0_2 hL2 ⊢
 rw [← hn3] at hr0_3 hL3 ⊢
 rw [← hm1] at hr1_1 ⊢
 rw [← hm2] at hr1_2 ⊢
 rw [← hm3] at hr1_3 ⊢
 obtain ⟨WA, hWA⟩ : ∃ WA, WA = (w.alloc (.cells #[.string a0_0, .slice A0_1 n1 c0_1, .slice A0_2 n2 c0_2, .slice A0_3 n3 c0_3] 33)).alloc (.cells #[.string a1_0, .slice A1_1 m1 c1_1, .slice A1_2 m2 c1_2, .slice A1_3 m3 c1_3] 26) := ⟨_, rfl⟩
 have hBA : Below w.heap.size w WA := hWA ▸ ((Below.refl _ _).alloc (Nat.le_refl _) _).alloc (by simp) _
 have hgA : w.heap.size + 1 < WA.heap.size := by rw [hWA]; simp
 have hb0 : WA.heap[w.heap.size]? = some (.cells #[.string a0_0, .slice A0_1 n1 c0_1, .slice A0_2 n2 c0_2, .slice A0_3 n3 c0_3] 33 (0, 0)) := by rw [hWA]; exact qBp (heap_alloc_new w _) _
 have hb1 : WA.heap[w.heap.size + 1]? = some (.cells #[.string a1_0, .slice A1_1 m1 c1_1, .slice A1_2 m2 c1_2, .slice A1_3 m3 c1_3] 26 (0, 0)) := by rw [hWA]; simpa using heap_alloc_new (w.alloc (.cells #[.string a0_0, .slice A0_1 n1 c0_1, .slice A0_2 n2 c0_2, .slice A0_3 n3 c0_3] 33)) (.cells #[.string a1_0, .slice A1_1 m1 c1_1, .slice A1_2 m2 c1_2, .slice A1_3 m3 c1_3] 26)
 have HX : qAe (∀ W, Below WA.heap.size WA W → W.cell? ⟨w.heap.size, 0, none⟩ = some (.string a0_0) ∧ W.cell? ⟨w.heap.size, 1, none⟩ = some (.slice A0_1 n1 c0_1) ∧ W.cell? ⟨w.heap.size, 2, none⟩ = some (.slice A0_2 n2 c0_2) ∧ W.cell? ⟨w.heap.size, 3, none⟩ = some (.slice A0_3 n3 c0_3) ∧
     W.cell? ⟨w.heap.size + 1, 0, none⟩ = some (.string a1_0) ∧ W.cell? ⟨w.heap.size + 1, 1, none⟩ = some (.slice A1_1 m1 c1_1) ∧ W.cell? ⟨w.heap.size + 1, 2, none⟩ = some (.slice A1_2 m2 c1_2) ∧ W.cell? ⟨w.heap.size + 1, 3, none⟩ = some (.slice A1_3 m3 c1_3)) := ⟨fun W hW => by
   have g0 : ∀ i, W.cell? ⟨w.heap.size, i, none⟩ = _ := fun i => (hW.cell (p := ⟨w.heap.size, i, none⟩) (Nat.lt_of_succ_lt hgA)).trans (qAa hb0 i)
   have g1 : ∀ i, W.cell? ⟨w.heap.size + 1, i, none⟩ = _ := fun i => (hW.cell (p := ⟨w.heap.size + 1, i, none⟩) hgA).trans (qAa hb1 i)
   exact ⟨g0 0, g0 1, g0 2, g0 3, g1 0, g1 1, g1 2, g1 3⟩⟩
 have HWA := am hWA
 have HBA := am hBA
 have HR1 := am (Kd.C_below hr0_1 hBA)
 have HR2 := am (Kd.C_below hr0_2 hBA)
 have HR3 := am (Kd.C_below hr0_3 hBA)
 have HS1 := am (Kd.C_below hr1_1 hBA)
 have HS2 := am (Kd.C_below hr1_2 hBA)
 have HS3 := am (Kd.C_below hr1_3 hBA)
 have HN1 := am hn1
 have HN2 := am hn2
 have HN3 := am hn3
 have HM1 := am hm1
 have HM2 := am hm2
 have HM3 := am hm3
 have HLF := am hLF
 have HH := am h
 clear hr0_1 hr0_2 hr0_3 hr1_1 hr1_2 hr1_3 hc0_1 hc0_2 hc0_3 hc1_1 hc1_2 hc1_3 hb0 hb1 hBA hWA hn1 hn2 hn3 hm1 hm2 hm3 hLF h
 unfold likeO at HH
 by_cases cM : a0_0.toList = a1_0.toList
 case neg =>
  have cM2 : (a0_0.toList == a1_0.toList) = false := beq_eq_false_iff_ne.mpr cM
  have HC := am cM2
  clear cM
  go_enter Tryz.func15, Tryz.ntmps15
  go_wp2_with fail
  go_ret
  exact ⟨by rw [← HH.out, HC.out]; rfl, HWA.out ▸ HBA.out⟩
 have cM2 : (a0_0.toList == a1_0.toList) = true := beq_iff_eq.mpr cM
 have HCM := am cM2
 clear cM
 by_cases c1 : n1 = m1
 case neg =>
  have c1' : ((n1 : Int) != (m1 : Int)) = true := bne_iff_ne.mpr (by omega)
  have HC := am (qEZ qE7 l0_1 l1_1 (by rw [← HN1.out, ← HM1.out]; exact c1))
  clear c1
  go_enter Tryz.func15, Tryz.ntmps15
  go_wp2_with fail
  go_ret
  exact ⟨by rw [← HH.out, HC.out]; simp, HWA.out ▸ HBA.out⟩
 have c1' : ((n1 : Int) != (m1 : Int)) = false := bne_eq_false_iff_eq.mpr (by omega)
 have HCN1 := am c1
 clear c1
 by_cases c2 : n2 = m2
 case neg =>
  have c2' : ((n2 : Int) != (m2 : Int)) = true := bne_iff_ne.mpr (by omega)
  have HC := am (qEZ qEN l0_2 l1_2 (by rw [← HN2.out, ← HM2.out]; exact c2))
  clear c2
  go_enter Tryz.func15, Tryz.ntmps15
  go_wp2_with fail
  go_ret
  exact ⟨by rw [← HH.out, HC.out]; simp, HWA.out ▸ HBA.out⟩
 have c2' : ((n2 : Int) != (m2 : Int)) = false := bne_eq_false_iff_eq.mpr (by omega)
 have HCN2 := am c2
 clear c2
 by_cases c3 : n3 = m3
 case neg =>
  have c3' : ((n3 : Int) != (m3 : Int)) = true := bne_iff_ne.mpr (by omega)
  have HC := am (qEZ qCq l0_3 l1_3 (by rw [← HN3.out, ← HM3.out]; exact c3))
  clear c3
  go_enter Tryz.func15, Tryz.ntmps15
  go_wp2_with fail
  go_ret
  exact ⟨by rw [← HH.out, HC.out]; simp, HWA.out ▸ HBA.out⟩
 have c3' : ((n3 : Int) != (m3 : Int)) = false := bne_eq_false_iff_eq.mpr (by omega)
 have HCN3 := am c3
 clear c3
 go_enter Tryz.func15, Tryz.ntmps15
 go_wp2_with fail
 rw [← HWA.out]
 go_loopg [5] n1 (fun gg s5 wr => ∃ kk : Nat, kk ≤ n1 ∧ n1 - kk ≤ gg ∧ s5 = .int .i64 kk ∧ qAe (∀ (j : Nat) x y, j < kk → l0_1[j]? = some x → l1_1[j]? = some y → qE7 x y = true) ∧ qAe (Below WA.heap.size WA wr))
 case atStart => exact ⟨0, Nat.zero_le _, by omega, rfl, ⟨fun j x y hj => absurd hj (Nat.not_lt_zero _)⟩, ⟨Below.refl _ _⟩⟩
 case round =>
  obtain ⟨kk, hkk, hg, rfl, HA, HB⟩ := hrel
  obtain ⟨q0, q1, q2, q3, p0, p1, p2, p3⟩ := HX.out wr HB.out
  by_cases hlt : kk < n1
  ·have hltz : (kk : Int) < (n1 : Int) := by omega
   have hltm : (kk : Int) < (m1 : Int) := by have := HCN1.out; omega
   have h0' : (0 : Int) ≤ (kk : Int) := by omega
   obtain ⟨hxd, ehx, hx0, hx1, hx2⟩ := at_T85 HR1.out (kk : Int) h0' hltz
   subst ehx
   rw [Int.toNat_natCast] at hx0 hx1 hx2
   replace hx0 := (HB.out.cell (World.block_lt_of_cell? WA _ hx0)).trans hx0
   replace hx1 := (HB.out.cell (World.block_lt_of_cell? WA _ hx1)).trans hx1
   replace hx2 := (HB.out.cell (World.block_lt_of_cell? WA _ hx2)).trans hx2
   have hblhx : (hxd.add (kk * 3)).block < wr.heap.size := World.block_lt_of_cell? wr _ hx0
   obtain ⟨hyd, ehy, hy0, hy1, hy2⟩ := at_T95 HS1.out (kk : Int) h0' hltm
   subst ehy
   rw [Int.toNat_natCast] at hy0 hy1 hy2
   replace hy0 := (HB.out.cell (World.block_lt_of_cell? WA _ hy0)).trans hy0
   replace hy1 := (HB.out.cell (World.block_lt_of_cell? WA _ hy1)).trans hy1
   replace hy2 := (HB.out.cell (World.block_lt_of_cell? WA _ hy2)).trans hy2
   have hblhy : (hyd.add (kk * 3)).block < wr.heap.size := World.block_lt_of_cell? wr _ hy0
   obtain ⟨x1, hdef_x1⟩ : ∃ z, z = qBd l0_1 (kk : Int) := ⟨_, rfl⟩
   rw [← hdef_x1] at hx0 hx1 hx2
   have HX1 : qAe (l0_1[kk]? = some x1) := ⟨by rw [hdef_x1]; exact qCz l0_1 z85 kk (by have := HN1.out; omega)⟩
   clear hdef_x1
   obtain ⟨y1, hdef_y1⟩ : ∃ z, z = qCo l1_1 (kk : Int) := ⟨_, rfl⟩
   rw [← hdef_y1] at hy0 hy1 hy2
   have HY1 : qAe (l1_1[kk]? = some y1) := ⟨by rw [hdef_y1]; exact qCz l1_1 z95 kk (by have := HM1.out; omega)⟩
   clear hdef_y1
   by_cases cn : x1.f0.toList = y1.f0.toList
   rotate_left
   ·have cna : (x1.f0.toList == y1.f0.toList) = false := beq_eq_false_iff_ne.mpr cn
    have Hcn := am cna
    clear cn
    go_wp2
    repeat (go_quiet (fail); try go_wp2)
    go_ret
    refine ⟨?_, qA0 HBA.out HBA.out.size (qA0 HB.out HB.out.size (qDx (Below.refl _ _) _))⟩
    rw [← HH.out, qBA qE7 l0_1 l1_1 kk _ _ HX1.out HY1.out (by unfold qE7; rw [Hcn.out]; rfl)]; simp
   have cna : (x1.f0.toList == y1.f0.toList) = true := beq_iff_eq.mpr cn
   have Hcn := am cna
   clear cn
   by_cases ct : x1.f1.f0 = y1.f1.f0
   rotate_left
   ·have cta : (x1.f1.f0 == y1.f1.f0) = false := beq_eq_false_iff_ne.mpr ct
    have Hct := am cta
    clear ct
    go_wp2
    repeat (go_quiet (fail); try go_wp2)
    go_ret
    refine ⟨?_, qA0 HBA.out HBA.out.size (qA0 HB.out HB.out.size (qDx (Below.refl _ _) _))⟩
    rw [← HH.out, qBA qE7 l0_1 l1_1 kk _ _ HX1.out HY1.out (by unfold qE7; rw [Hcn.out, Hct.out]; rfl)]; simp
   have cta : (x1.f1.f0 == y1.f1.f0) = true := beq_iff_eq.mpr ct
   have Hct := am cta
   clear ct
   by_cases cb : x1.f1.f1 = y1.f1.f1
   rotate_left
   ·have cba : (x1.f1.f1 == y1.f1.f1) = false := beq_eq_false_iff_ne.mpr cb
    have Hcb := am cba
    clear cb
    go_wp2
    repeat (go_quiet (fail); try go_wp2)
    go_ret
    refine ⟨?_, qA0 HBA.out HBA.out.size (qA0 HB.out HB.out.size (qDx (Below.refl _ _) _))⟩
    rw [← HH.out, qBA qE7 l0_1 l1_1 kk _ _ HX1.out HY1.out (by unfold qE7; rw [Hcn.out, Hct.out, Hcb.out]; rfl)]; simp
   have cba : (x1.f1.f1 == y1.f1.f1) = true := beq_iff_eq.mpr cb
   have Hcb := am cba
   clear cb
   go_wp2
   repeat (go_quiet (fail); try go_wp2)
   go_roundg (n1 - (kk + 1))
   case measure => omega
   case rel =>
    refine ⟨kk + 1, by omega, by omega, by go_num, ⟨fun j u v hj hu hv => ?_⟩, ⟨qA0 HB.out HB.out.size (qDx (Below.refl _ _) _)⟩⟩
    by_cases e : j = kk
    rotate_left
    ·exact HA.out j u v (by omega) hu hv
    subst e; rw [HX1.out] at hu; rw [HY1.out] at hv; injection hu with hu; injection hv with hv; subst hu; subst hv; exact (by unfold qE7; rw [Hcn.out, Hct.out, Hcb.out]; rfl)
  have hltz : ¬ (kk : Int) < (n1 : Int) := by omega
  have hkn : kk = n1 := by omega
  have HV1 : qAe (all2 qE7 l0_1 l1_1 = true) := ⟨qDZ _ _ _ (by rw [← HN1.out, ← HM1.out]; exact HCN1.out) fun j x y hx hy => HA.out j x y (by rw [hkn, HN1.out]; exact (List.getElem?_eq_some_iff.1 hx).1) hx hy⟩
  replace HH : qAe ((a0_0.toList == a1_0.toList && (all2 qEN l0_2 l1_2 && all2 qCq l0_3 l1_3)) = r) := ⟨by rw [← HH.out, HV1.out]; rfl⟩
  go_wp2_with fail
  clear hkn
  go_loopg [6] n2 (fun gg s6 wr => ∃ kk : Nat, kk ≤ n2 ∧ n2 - kk ≤ gg ∧ s6 = .int .i64 kk ∧ qAe (∀ (j : Nat) x y, j < kk → l0_2[j]? = some x → l1_2[j]? = some y → qEN x y = true) ∧ qAe (Below WA.heap.size WA wr))
  case atStart => exact ⟨0, Nat.zero_le _, by omega, rfl, ⟨fun j x y hj => absurd hj (Nat.not_lt_zero _)⟩, HB⟩
  case round =>
   clear HA HB q0 q1 q2 q3 p0 p1 p2 p3 hlt hkk hg
   obtain ⟨kk, hkk, hg, rfl, HA, HB⟩ := hrel
   obtain ⟨q0, q1, q2, q3, p0, p1, p2, p3⟩ := HX.out wr HB.out
   by_cases hlt : kk < n2
   ·have hltz : (kk : Int) < (n2 : Int) := by omega
    have hltm : (kk : Int) < (m2 : Int) := by have := HCN2.out; omega
    have h0' : (0 : Int) ≤ (kk : Int) := by omega
    obtain ⟨hxd, F1, d1, F3, d3, F4, d4, ehx, hx0, hx1, hx2, hx3, hx4, hl1, hC1, hl3, hC3, hl4, hC4⟩ := qFu HR2.out (kk : Int) h0' hltz
    subst ehx
    rw [Int.toNat_natCast] at hx0 hx1 hx2 hx3 hx4
    replace hx0 := (HB.out.cell (World.block_lt_of_cell? WA _ hx0)).trans hx0
    replace hx1 := (HB.out.cell (World.block_lt_of_cell? WA _ hx1)).trans hx1
    replace hx2 := (HB.out.cell (World.block_lt_of_cell? WA _ hx2)).trans hx2
    replace hx3 := (HB.out.cell (World.block_lt_of_cell? WA _ hx3)).trans hx3
    replace hx4 := (HB.out.cell (World.block_lt_of_cell? WA _ hx4)).trans hx4
    have hblhx : (hxd.add (kk * 5)).block < wr.heap.size := World.block_lt_of_cell? wr _ hx0
    obtain ⟨hyd, G1, e1, G3, e3, G4, e4, ehy, hy0, hy1, hy2, hy3, hy4, kl1, kC1, kl3, kC3, kl4, kC4⟩ := qEz HS2.out (kk : Int) h0' hltm
    subst ehy
    rw [Int.toNat_natCast] at hy0 hy1 hy2 hy3 hy4
    replace hy0 := (HB.out.cell (World.block_lt_of_cell? WA _ hy0)).trans hy0
    replace hy1 := (HB.out.cell (World.block_lt_of_cell? WA _ hy1)).trans hy1
    replace hy2 := (HB.out.cell (World.block_lt_of_cell? WA _ hy2)).trans hy2
    replace hy3 := (HB.out.cell (World.block_lt_of_cell? WA _ hy3)).trans hy3
    replace hy4 := (HB.out.cell (World.block_lt_of_cell? WA _ hy4)).trans hy4
    have hblhy : (hyd.add (kk * 5)).block < wr.heap.size := World.block_lt_of_cell? wr _ hy0
    obtain ⟨x1, hdef_x1⟩ : ∃ z, z = qAy l0_2 (kk : Int) := ⟨_, rfl⟩
    rw [← hdef_x1] at hx0 hx1 hx2 hx3 hx4 hl1 hC1 hl3 hC3 hl4 hC4
    have HX1 : qAe (l0_2[kk]? = some x1) := ⟨by rw [hdef_x1]; exact qCz l0_2 z92 kk (by have := HN2.out; omega)⟩
    clear hdef_x1
    obtain ⟨y1, hdef_y1⟩ : ∃ z, z = qAM l1_2 (kk : Int) := ⟨_, rfl⟩
    rw [← hdef_y1] at hy0 hy1 hy2 hy3 hy4 kl1 kC1 kl3 kC3 kl4 kC4
    have HY1 : qAe (l1_2[kk]? = some y1) := ⟨by rw [hdef_y1]; exact qCz l1_2 z100 kk (by have := HM2.out; omega)⟩
    clear hdef_y1
    have HFX : qAe (∀ W, Below WA.heap.size WA W → Calls Tryz.prog 54 #[.agg #[.slice F1 x1.f1.f0.f0.length d1, .int .i64 x1.f1.f0.f1, .slice F3 x1.f1.f1.length d3, .slice F4 x1.f1.f2.length d4], .agg #[.slice G1 y1.f1.f0.f0.length e1, .int .i64 y1.f1.f0.f1, .slice G3 y1.f1.f1.length e3, .slice G4 y1.f1.f2.length e4]] W fun e w' => e = .returned (.bool (likeF x1.f1 y1.f1)) ∧ Below W.heap.size W w') := ⟨fun W hW => HF.out F1 d1 F3 d3 F4 d4 x1.f1 G1 e1 G3 e3 G4 e4 y1.f1 W (by have := List.all_eq_true.1 HLF.out x1 (List.mem_of_getElem? HX1.out); unfold okLens at this; simpa using this) ⟨Kd.C_below hC1 hW, hl1, Kd.C_below hC3 hW, hl3, Kd.C_below hC4 hW, hl4⟩ ⟨Kd.C_below kC1 hW, kl1, Kd.C_below kC3 hW, kl3, Kd.C_below kC4 hW, kl4⟩⟩
    clear hl1 hC1 hl3 hC3 hl4 hC4 kl1 kC1 kl3 kC3 kl4 kC4
    by_cases cn : x1.f0.toList = y1.f0.toList
    rotate_left
    ·have cna : (x1.f0.toList == y1.f0.toList) = false := beq_eq_false_iff_ne.mpr cn
     have Hcn := am cna
     clear cn
     go_wp2
     repeat (go_quiet (fail); try go_wp2)
     go_ret
     refine ⟨?_, qA0 HBA.out HBA.out.size (qA0 HB.out HB.out.size (qDx (Below.refl _ _) _))⟩
     rw [← HH.out, qBA qEN l0_2 l1_2 kk _ _ HX1.out HY1.out (by unfold qEN; rw [Hcn.out]; rfl)]; simp
    have cna : (x1.f0.toList == y1.f0.toList) = true := beq_iff_eq.mpr cn
    have Hcn := am cna
    clear cn
    obtain ⟨b, hb⟩ : ∃ b, b = likeF x1.f1 y1.f1 := ⟨_, rfl⟩
    rw [← hb] at HFX
    have HQ := am hb
    clear hb
    go_wp2
    go_region_held3 (fun W => W.cell? ⟨w.heap.size, 2, none⟩ = some (.slice (some hxd) n2 c0_2) ∧ W.cell? ⟨w.heap.size + 1, 2, none⟩ = some (.slice (some hyd) m2 c1_2) ∧ W.cell? (hxd.add (kk * 5)) = some (.string x1.f0) ∧ W.cell? ⟨(hxd.add (kk * 5)).block, (hxd.add (kk * 5)).off + 1, none⟩ = some (.slice F1 x1.f1.f0.f0.length d1) ∧ W.cell? ⟨(hxd.add (kk * 5)).block, (hxd.add (kk * 5)).off + 2, none⟩ = some (.int .i64 x1.f1.f0.f1) ∧ W.cell? ⟨(hxd.add (kk * 5)).block, (hxd.add (kk * 5)).off + 3, none⟩ = some (.slice F3 x1.f1.f1.length d3) ∧ W.cell? ⟨(hxd.add (kk * 5)).block, (hxd.add (kk * 5)).off + 4, none⟩ = some (.slice F4 x1.f1.f2.length d4) ∧ W.cell? (hyd.add (kk * 5)) = some (.string y1.f0) ∧ W.cell? ⟨(hyd.add (kk * 5)).block, (hyd.add (kk * 5)).off + 1, none⟩ = some (.slice G1 y1.f1.f0.f0.length e1) ∧ W.cell? ⟨(hyd.add (kk * 5)).block, (hyd.add (kk * 5)).off + 2, none⟩ = some (.int .i64 y1.f1.f0.f1) ∧ W.cell? ⟨(hyd.add (kk * 5)).block, (hyd.add (kk * 5)).off + 3, none⟩ = some (.slice G3 y1.f1.f1.length e3) ∧ W.cell? ⟨(hyd.add (kk * 5)).block, (hyd.add (kk * 5)).off + 4, none⟩ = some (.slice G4 y1.f1.f2.length e4))
     (first | go_keep | exact ⟨(hb9.cell (World.block_lt_of_cell? _ _ q2)).trans q2, (hb9.cell (World.block_lt_of_cell? _ _ p2)).trans p2, (hb9.cell (World.block_lt_of_cell? _ _ hx0)).trans hx0, (hb9.cell (World.block_lt_of_cell? _ _ hx1)).trans hx1, (hb9.cell (World.block_lt_of_cell? _ _ hx2)).trans hx2, (hb9.cell (World.block_lt_of_cell? _ _ hx3)).trans hx3, (hb9.cell (World.block_lt_of_cell? _ _ hx4)).trans hx4, (hb9.cell (World.block_lt_of_cell? _ _ hy0)).trans hy0, (hb9.cell (World.block_lt_of_cell? _ _ hy1)).trans hy1, (hb9.cell (World.block_lt_of_cell? _ _ hy2)).trans hy2, (hb9.cell (World.block_lt_of_cell? _ _ hy3)).trans hy3, (hb9.cell (World.block_lt_of_cell? _ _ hy4)).trans hy4⟩)
     ((go_at_call 54; refine (HFX.out _ (qAX HB.out)).mono ?_; rintro e w9 ⟨rfl, hb9⟩))
    have HB9 := am (qA0 HB.out HB.out.size (qA0 (qAX (Below.refl _ _)) (Nat.le_refl _) hb9))
    clear hb9
    cases b with
    | false =>
     go_wp2
     go_ret
     refine ⟨?_, qA0 HBA.out HBA.out.size HB9.out⟩
     rw [← HH.out, qBA qEN l0_2 l1_2 kk _ _ HX1.out HY1.out (by unfold qEN; rw [← HQ.out]; simp)]; simp
    | true =>
     go_wp2
     go_roundg (n2 - (kk + 1))
     case measure => omega
     case rel =>
      refine ⟨kk + 1, by omega, by omega, by go_num, ⟨fun j u v hj hu hv => ?_⟩, ⟨HB9.out⟩⟩
      by_cases e : j = kk
      rotate_left
      ·exact HA.out j u v (by omega) hu hv
      subst e; rw [HX1.out] at hu; rw [HY1.out] at hv; injection hu with hu; injection hv with hv; subst hu; subst hv; exact (by unfold qEN; rw [Hcn.out, ← HQ.out]; rfl)
   have hltz : ¬ (kk : Int) < (n2 : Int) := by omega
   have hkn : kk = n2 := by omega
   have HV2 : qAe (all2 qEN l0_2 l1_2 = true) := ⟨qDZ _ _ _ (by rw [← HN2.out, ← HM2.out]; exact HCN2.out) fun j x y hx hy => HA.out j x y (by rw [hkn, HN2.out]; exact (List.getElem?_eq_some_iff.1 hx).1) hx hy⟩
   replace HH : qAe ((a0_0.toList == a1_0.toList && all2 qCq l0_3 l1_3) = r) := ⟨by rw [← HH.out, HV2.out]; rfl⟩
   go_wp2_with fail
   clear hkn
   go_loopg [7, 8, 9] n3 (fun gg s7 _ _ wr => ∃ kk : Nat, kk ≤ n3 ∧ n3 - kk ≤ gg ∧ s7 = .int .i64 kk ∧ qAe (∀ (j : Nat) x y, j < kk → l0_3[j]? = some x → l1_3[j]? = some y → qCq x y = true) ∧ qAe (Below WA.heap.size WA wr))
   case atStart => exact ⟨0, Nat.zero_le _, by omega, rfl, ⟨fun j x y hj => absurd hj (Nat.not_lt_zero _)⟩, HB⟩
   case round =>
    clear HA HB q0 q1 q2 q3 p0 p1 p2 p3 hlt hkk hg
    obtain ⟨kk, hkk, hg, rfl, HA, HB⟩ := hrel
    obtain ⟨q0, q1, q2, q3, p0, p1, p2, p3⟩ := HX.out wr HB.out
    by_cases hlt : kk < n3
    rotate_left
    ·have hltz : ¬ (kk : Int) < (n3 : Int) := by omega
     have hkn : kk = n3 := by omega
     have HV3 : qAe (all2 qCq l0_3 l1_3 = true) := ⟨qDZ _ _ _ (by rw [← HN3.out, ← HM3.out]; exact HCN3.out) fun j x y hx hy => HA.out j x y (by rw [hkn, HN3.out]; exact (List.getElem?_eq_some_iff.1 hx).1) hx hy⟩
     go_wp2
     go_ret
     exact ⟨by rw [← HH.out, HV3.out, HCM.out]; rfl, qA0 HBA.out HBA.out.size HB.out⟩
    have hltz : (kk : Int) < (n3 : Int) := by omega
    have hltm : (kk : Int) < (m3 : Int) := by have := HCN3.out; omega
    have h0' : (0 : Int) ≤ (kk : Int) := by omega
    obtain ⟨hxd, ehx, hx0, hx1, hx2, hx3, hx4⟩ := qDK HR3.out (kk : Int) h0' hltz
    subst ehx
    rw [Int.toNat_natCast] at hx0 hx1 hx2 hx3 hx4
    replace hx0 := (HB.out.cell (World.block_lt_of_cell? WA _ hx0)).trans hx0
    replace hx1 := (HB.out.cell (World.block_lt_of_cell? WA _ hx1)).trans hx1
    replace hx2 := (HB.out.cell (World.block_lt_of_cell? WA _ hx2)).trans hx2
    replace hx3 := (HB.out.cell (World.block_lt_of_cell? WA _ hx3)).trans hx3
    replace hx4 := (HB.out.cell (World.block_lt_of_cell? WA _ hx4)).trans hx4
    have hblhx : (hxd.add (kk * 5)).block < wr.heap.size := World.block_lt_of_cell? wr _ hx0
    obtain ⟨hyd, ehy, hy0, hy1, hy2, hy3, hy4⟩ := qCJ HS3.out (kk : Int) h0' hltm
    subst ehy
    rw [Int.toNat_natCast] at hy0 hy1 hy2 hy3 hy4
    replace hy0 := (HB.out.cell (World.block_lt_of_cell? WA _ hy0)).trans hy0
    replace hy1 := (HB.out.cell (World.block_lt_of_cell? WA _ hy1)).trans hy1
    replace hy2 := (HB.out.cell (World.block_lt_of_cell? WA _ hy2)).trans hy2
    replace hy3 := (HB.out.cell (World.block_lt_of_cell? WA _ hy3)).trans hy3
    replace hy4 := (HB.out.cell (World.block_lt_of_cell? WA _ hy4)).trans hy4
    have hblhy : (hyd.add (kk * 5)).block < wr.heap.size := World.block_lt_of_cell? wr _ hy0
    obtain ⟨x1, hdef_x1⟩ : ∃ z, z = qCE l0_3 (kk : Int) := ⟨_, rfl⟩
    rw [← hdef_x1] at hx0 hx1 hx2 hx3 hx4
    have HX1 : qAe (l0_3[kk]? = some x1) := ⟨by rw [hdef_x1]; exact qCz l0_3 z104 kk (by have := HN3.out; omega)⟩
    clear hdef_x1
    obtain ⟨y1, hdef_y1⟩ : ∃ z, z = qAE l1_3 (kk : Int) := ⟨_, rfl⟩
    rw [← hdef_y1] at hy0 hy1 hy2 hy3 hy4
    have HY1 : qAe (l1_3[kk]? = some y1) := ⟨by rw [hdef_y1]; exact qCz l1_3 z103 kk (by have := HM3.out; omega)⟩
    clear hdef_y1
    go_wp2
    go_region_held3 (fun W => W.cell? ⟨w.heap.size, 3, none⟩ = some (.slice (some hxd) n3 c0_3) ∧ W.cell? ⟨w.heap.size + 1, 3, none⟩ = some (.slice (some hyd) m3 c1_3) ∧ W.cell? (hxd.add (kk * 5)) = some (.int .i64 x1.f0) ∧ W.cell? ⟨(hxd.add (kk * 5)).block, (hxd.add (kk * 5)).off + 1, none⟩ = some (.int .i64 x1.f1) ∧ W.cell? ⟨(hxd.add (kk * 5)).block, (hxd.add (kk * 5)).off + 2, none⟩ = some (.int .i64 x1.f2) ∧ W.cell? ⟨(hxd.add (kk * 5)).block, (hxd.add (kk * 5)).off + 3, none⟩ = some (.string x1.f3) ∧ W.cell? ⟨(hxd.add (kk * 5)).block, (hxd.add (kk * 5)).off + 4, none⟩ = some (.string x1.f4) ∧ W.cell? (hyd.add (kk * 5)) = some (.int .i64 y1.f0) ∧ W.cell? ⟨(hyd.add (kk * 5)).block, (hyd.add (kk * 5)).off + 1, none⟩ = some (.int .i64 y1.f1) ∧ W.cell? ⟨(hyd.add (kk * 5)).block, (hyd.add (kk * 5)).off + 2, none⟩ = some (.int .i64 y1.f2) ∧ W.cell? ⟨(hyd.add (kk * 5)).block, (hyd.add (kk * 5)).off + 3, none⟩ = some (.string y1.f3) ∧ W.cell? ⟨(hyd.add (kk * 5)).block, (hyd.add (kk * 5)).off + 4, none⟩ = some (.string y1.f4))
     ((go_keep))
     (fail)
    all_goals clear q0 q1 q2 q3 p0 p1 p2 p3 hx0 hx1 hx2 hx3 hx4 hy0 hy1 hy2 hy3 hy4
    ·
     by_cases c0 : x1.f0 = y1.f0
     ·have c0a : (x1.f0 == y1.f0) = true := beq_iff_eq.mpr c0
      have c0b : (x1.f0 != y1.f0) = false := bne_eq_false_iff_eq.mpr c0
      have Hc0 := am c0a
      clear c0
      by_cases ce : x1.f1 = y1.f1
      ·have cea : (x1.f1 == y1.f1) = true := beq_iff_eq.mpr ce
       have ceb : (x1.f1 != y1.f1) = false := bne_eq_false_iff_eq.mpr ce
       have Hce := am cea
       clear ce
       by_cases cf : x1.f2 = y1.f2
       ·have cfa : (x1.f2 == y1.f2) = true := beq_iff_eq.mpr cf
        have cfb : (x1.f2 != y1.f2) = false := bne_eq_false_iff_eq.mpr cf
        have Hcf := am cfa
        clear cf
        by_cases cg : x1.f3.toList = y1.f3.toList
        ·have cga : (x1.f3.toList == y1.f3.toList) = true := beq_iff_eq.mpr cg
         have Hcg := am cga
         clear cg
         by_cases ch : x1.f4.toList = y1.f4.toList
         ·have cha : (x1.f4.toList == y1.f4.toList) = true := beq_iff_eq.mpr ch
          have Hch := am cha
          clear ch
          go_wp2
          go_roundg (n3 - (kk + 1))
          case measure => omega
          case rel =>
           refine ⟨kk + 1, by omega, by omega, by go_num, ⟨fun j u v hj hu hv => ?_⟩, ⟨qA0 HB.out HB.out.size (qAX (((Below.refl _ _).alloc (Nat.le_refl _) _).alloc (by simp) _))⟩⟩
           by_cases e : j = kk
           rotate_left
           ·exact HA.out j u v (by omega) hu hv
           subst e; rw [HX1.out] at hu; rw [HY1.out] at hv; injection hu with hu; injection hv with hv; subst hu; subst hv; exact (by unfold qCq; rw [Hc0.out, Hce.out, Hcf.out, Hcg.out, Hch.out]; rfl)
         ·have cha : (x1.f4.toList == y1.f4.toList) = false := beq_eq_false_iff_ne.mpr ch
          have Hch := am cha
          clear ch
          go_wp2
          go_ret
          refine ⟨?_, qA0 HBA.out HBA.out.size (qA0 HB.out HB.out.size (qAX (((Below.refl _ _).alloc (Nat.le_refl _) _).alloc (by simp) _)))⟩
          rw [← HH.out, qBA qCq l0_3 l1_3 kk _ _ HX1.out HY1.out (by unfold qCq; rw [Hc0.out, Hce.out, Hcf.out, Hcg.out, Hch.out]; simp)]; simp
        ·have cga : (x1.f3.toList == y1.f3.toList) = false := beq_eq_false_iff_ne.mpr cg
         have Hcg := am cga
         clear cg
         go_wp2
         go_ret
         refine ⟨?_, qA0 HBA.out HBA.out.size (qA0 HB.out HB.out.size (qAX (((Below.refl _ _).alloc (Nat.le_refl _) _).alloc (by simp) _)))⟩
         rw [← HH.out, qBA qCq l0_3 l1_3 kk _ _ HX1.out HY1.out (by unfold qCq; rw [Hc0.out, Hce.out, Hcf.out, Hcg.out]; simp)]; simp
       ·have cfa : (x1.f2 == y1.f2) = false := beq_eq_false_iff_ne.mpr cf
        have cfb : (x1.f2 != y1.f2) = true := bne_iff_ne.mpr cf
        have Hcf := am cfa
        clear cf
        go_wp2
        go_ret
        refine ⟨?_, qA0 HBA.out HBA.out.size (qA0 HB.out HB.out.size (qAX (((Below.refl _ _).alloc (Nat.le_refl _) _).alloc (by simp) _)))⟩
        rw [← HH.out, qBA qCq l0_3 l1_3 kk _ _ HX1.out HY1.out (by unfold qCq; rw [Hc0.out, Hce.out, Hcf.out]; simp)]; simp
      ·have cea : (x1.f1 == y1.f1) = false := beq_eq_false_iff_ne.mpr ce
       have ceb : (x1.f1 != y1.f1) = true := bne_iff_ne.mpr ce
       have Hce := am cea
       clear ce
       go_wp2
       go_ret
       refine ⟨?_, qA0 HBA.out HBA.out.size (qA0 HB.out HB.out.size (qAX (((Below.refl _ _).alloc (Nat.le_refl _) _).alloc (by simp) _)))⟩
       rw [← HH.out, qBA qCq l0_3 l1_3 kk _ _ HX1.out HY1.out (by unfold qCq; rw [Hc0.out, Hce.out]; simp)]; simp
     ·have c0a : (x1.f0 == y1.f0) = false := beq_eq_false_iff_ne.mpr c0
      have c0b : (x1.f0 != y1.f0) = true := bne_iff_ne.mpr c0
      have Hc0 := am c0a
      clear c0
      go_wp2
      go_ret
      refine ⟨?_, qA0 HBA.out HBA.out.size (qA0 HB.out HB.out.size (qAX (((Below.refl _ _).alloc (Nat.le_refl _) _).alloc (by simp) _)))⟩
      rw [← HH.out, qBA qCq l0_3 l1_3 kk _ _ HX1.out HY1.out (by unfold qCq; rw [Hc0.out]; simp)]; simp
    ·
     by_cases c0 : x1.f0 = y1.f0
     ·have c0a : (x1.f0 == y1.f0) = true := beq_iff_eq.mpr c0
      have c0b : (x1.f0 != y1.f0) = false := bne_eq_false_iff_eq.mpr c0
      have Hc0 := am c0a
      clear c0
      by_cases ce : x1.f1 = y1.f1
      ·have cea : (x1.f1 == y1.f1) = true := beq_iff_eq.mpr ce
       have ceb : (x1.f1 != y1.f1) = false := bne_eq_false_iff_eq.mpr ce
       have Hce := am cea
       clear ce
       by_cases cf : x1.f2 = y1.f2
       ·have cfa : (x1.f2 == y1.f2) = true := beq_iff_eq.mpr cf
        have cfb : (x1.f2 != y1.f2) = false := bne_eq_false_iff_eq.mpr cf
        have Hcf := am cfa
        clear cf
        by_cases cg : x1.f3.toList = y1.f3.toList
        ·have cga : (x1.f3.toList == y1.f3.toList) = true := beq_iff_eq.mpr cg
         have Hcg := am cga
         clear cg
         by_cases ch : x1.f4.toList = y1.f4.toList
         ·have cha : (x1.f4.toList == y1.f4.toList) = true := beq_iff_eq.mpr ch
          have Hch := am cha
          clear ch
          go_wp2
          go_roundg (n3 - (kk + 1))
          case measure => omega
          case rel =>
           refine ⟨kk + 1, by omega, by omega, by go_num, ⟨fun j u v hj hu hv => ?_⟩, ⟨qA0 HB.out HB.out.size (qAX (((Below.refl _ _).alloc (Nat.le_refl _) _).alloc (by simp) _))⟩⟩
           by_cases e : j = kk
           rotate_left
           ·exact HA.out j u v (by omega) hu hv
           subst e; rw [HX1.out] at hu; rw [HY1.out] at hv; injection hu with hu; injection hv with hv; subst hu; subst hv; exact (by unfold qCq; rw [Hc0.out, Hce.out, Hcf.out, Hcg.out, Hch.out]; rfl)
         ·have cha : (x1.f4.toList == y1.f4.toList) = false := beq_eq_false_iff_ne.mpr ch
          have Hch := am cha
          clear ch
          go_wp2
          go_ret
          refine ⟨?_, qA0 HBA.out HBA.out.size (qA0 HB.out HB.out.size (qAX (((Below.refl _ _).alloc (Nat.le_refl _) _).alloc (by simp) _)))⟩
          rw [← HH.out, qBA qCq l0_3 l1_3 kk _ _ HX1.out HY1.out (by unfold qCq; rw [Hc0.out, Hce.out, Hcf.out, Hcg.out, Hch.out]; simp)]; simp
        ·have cga : (x1.f3.toList == y1.f3.toList) = false := beq_eq_false_iff_ne.mpr cg
         have Hcg := am cga
         clear cg
         go_wp2
         go_ret
         refine ⟨?_, qA0 HBA.out HBA.out.size (qA0 HB.out HB.out.size (qAX (((Below.refl _ _).alloc (Nat.le_refl _) _).alloc (by simp) _)))⟩
         rw [← HH.out, qBA qCq l0_3 l1_3 kk _ _ HX1.out HY1.out (by unfold qCq; rw [Hc0.out, Hce.out, Hcf.out, Hcg.out]; simp)]; simp
       ·have cfa : (x1.f2 == y1.f2) = false := beq_eq_false_iff_ne.mpr cf
        have cfb : (x1.f2 != y1.f2) = true := bne_iff_ne.mpr cf
        have Hcf := am cfa
        clear cf
        go_wp2
        go_ret
        refine ⟨?_, qA0 HBA.out HBA.out.size (qA0 HB.out HB.out.size (qAX (((Below.refl _ _).alloc (Nat.le_refl _) _).alloc (by simp) _)))⟩
        rw [← HH.out, qBA qCq l0_3 l1_3 kk _ _ HX1.out HY1.out (by unfold qCq; rw [Hc0.out, Hce.out, Hcf.out]; simp)]; simp
      ·have cea : (x1.f1 == y1.f1) = false := beq_eq_false_iff_ne.mpr ce
       have ceb : (x1.f1 != y1.f1) = true := bne_iff_ne.mpr ce
       have Hce := am cea
       clear ce
       go_wp2
       go_ret
       refine ⟨?_, qA0 HBA.out HBA.out.size (qA0 HB.out HB.out.size (qAX (((Below.refl _ _).alloc (Nat.le_refl _) _).alloc (by simp) _)))⟩
       rw [← HH.out, qBA qCq l0_3 l1_3 kk _ _ HX1.out HY1.out (by unfold qCq; rw [Hc0.out, Hce.out]; simp)]; simp
     ·have c0a : (x1.f0 == y1.f0) = false := beq_eq_false_iff_ne.mpr c0
      have c0b : (x1.f0 != y1.f0) = true := bne_iff_ne.mpr c0
      have Hc0 := am c0a
      clear c0
      go_wp2
      go_ret
      refine ⟨?_, qA0 HBA.out HBA.out.size (qA0 HB.out HB.out.size (qAX (((Below.refl _ _).alloc (Nat.le_refl _) _).alloc (by simp) _)))⟩
      rw [← HH.out, qBA qCq l0_3 l1_3 kk _ _ HX1.out HY1.out (by unfold qCq; rw [Hc0.out]; simp)]; simp
end Q
end
section
namespace Q
open Go.RowKit PA PC PB
open Val Ins
def qFw (r p : S104) : Bool := r.f0 == p.f0 && (r.f1 == p.f1 && r.f2 == p.f2)
theorem bare_any (a0 a1 a2 b0 b1 b2 : Int) (a3 a4 b3 b4 : ByteArray) (w : World) : Calls Tryz.prog 102 #[.agg #[.int .i64 a0, .int .i64 a1, .int .i64 a2, .string a3, .string a4], .agg #[.int .i64 b0, .int .i64 b1, .int .i64 b2, .string b3, .string b4]] w fun e w' => e = .returned (.bool (a0 == b0 && (a1 == b1 && a2 == b2))) ∧ Below w.heap.size w w' := by
 cases h0 : a0 == b0 with
 | false =>
  go_enter Tryz.func102, Tryz.ntmps102
  go_wp2
  go_ret
  exact ⟨rfl, ((Below.refl _ _).alloc (Nat.le_refl _) _).alloc (by simp) _⟩
 | true =>
  cases h1 : a1 == b1 with
  | false =>
   go_enter Tryz.func102, Tryz.ntmps102
   go_wp2
   go_ret
   exact ⟨rfl, ((Below.refl _ _).alloc (Nat.le_refl _) _).alloc (by simp) _⟩
  | true =>
   obtain ⟨b, hb⟩ : ∃ b, b = (a2 == b2) := ⟨_, rfl⟩
   rw [← hb]
   have hb' := hb.symm
   clear hb
   go_enter Tryz.func102, Tryz.ntmps102
   go_wp2
   go_ret
   exact ⟨rfl, ((Below.refl _ _).alloc (Nat.le_refl _) _).alloc (by simp) _⟩
def qBU : List S104 → List S104 → Bool
 | [], [] => true
 | x :: xs, y :: ys => qFw x y && qBU xs ys
 | _, _ => false
theorem qEs : ∀ (a b : List S104), qBU a b = true → a.length = b.length
 | [], [], _ => rfl
 | [], _ :: _, h => by cases h
 | _ :: _, [], h => by cases h
 | x :: xs, y :: ys, h => by simp only [qBU, Bool.and_eq_true] at h; simp [qEs xs ys h.2]
theorem qF6 : ∀ (a b : List S104), a.length = b.length → (∀ (j : Nat) x y, a[j]? = some x → b[j]? = some y → qFw x y = true) → qBU a b = true
 | [], [], _, _ => rfl
 | [], _ :: _, h, _ => by simp at h
 | _ :: _, [], h, _ => by simp at h
 | x :: xs, y :: ys, hl, h => by
  simp only [qBU, Bool.and_eq_true]
  exact ⟨h 0 x y rfl rfl, qF6 xs ys (by simpa using hl) fun j u v hu hv => h (j + 1) u v (by simpa using hu) (by simpa using hv)⟩
theorem qEH : ∀ (a b : List S104) (j : Nat) x y, a[j]? = some x → b[j]? = some y → qFw x y = false → qBU a b = false
 | [], _, j, x, y, h, _, _ => by simp at h
 | _ :: _, [], j, x, y, _, h, _ => by simp at h
 | x :: xs, y :: ys, 0, u, v, hu, hv, h => by
  simp only [List.getElem?_cons_zero, Option.some.injEq] at hu hv
  subst hu; subst hv
  simp [qBU, h]
 | x :: xs, y :: ys, j + 1, u, v, hu, hv, h => by
  simp only [List.getElem?_cons_succ] at hu hv
  simp [qBU, qEH xs ys j u v hu hv h]
theorem eqf_any (A1 A2 : Option Addr) (c1 c2 : Nat) (l1 l2 : List S104) (w : World) (hr1 : Kd.C k104 w A1 l1.length l1) (hr2 : Kd.C k104 w A2 l2.length l2) (hl : l1.length ≤ 4611686018427387904) :
  Calls Tryz.prog 103 #[.slice A1 l1.length c1, .slice A2 l2.length c2, .func (.func 102) #[] #[]] w fun e w' => e = .returned (.bool (qBU l1 l2)) ∧ Below w.heap.size w w' := by
 obtain ⟨n1, hn1⟩ : ∃ n, n = l1.length := ⟨_, rfl⟩
 obtain ⟨n2, hn2⟩ : ∃ n, n = l2.length := ⟨_, rfl⟩
 rw [← hn1] at hr1 hl ⊢
 rw [← hn2] at hr2 ⊢
 have HR1 := am hr1
 have HR2 := am hr2
 have HN1 := am hn1
 have HN2 := am hn2
 clear hr1 hr2 hn1 hn2
 by_cases hne : n1 = n2
 case neg =>
  have hq : ((n1 : Int) != (n2 : Int)) = true := bne_iff_ne.mpr (by omega)
  have HF : qAe (qBU l1 l2 = false) := ⟨by
    cases h : qBU l1 l2 with
    | false => rfl
    | true => exact absurd (by rw [HN1.out, HN2.out]; exact qEs _ _ h) hne⟩
  go_enter Tryz.func103, Tryz.ntmps103
  go_wp2
  go_ret
  exact ⟨by rw [HF.out]; rfl, Below.refl _ _⟩
 subst hne
 have hq : ((n1 : Int) != (n1 : Int)) = false := bne_eq_false_iff_eq.mpr rfl
 go_enter Tryz.func103, Tryz.ntmps103
 go_wp2
 go_loopg [7, 8, 9, 17] n1 (fun gg _ _ _ s17 wr => ∃ kk : Nat, kk ≤ n1 ∧ n1 - kk ≤ gg ∧ s17 = .int .i64 kk ∧ qAe (∀ (j : Nat) x y, j < kk → l1[j]? = some x → l2[j]? = some y → qFw x y = true) ∧ qAe (Below w.heap.size w wr))
 case atStart => exact ⟨0, Nat.zero_le _, by omega, rfl, ⟨fun j x y hj => absurd hj (Nat.not_lt_zero _)⟩, ⟨Below.refl _ _⟩⟩
 case round =>
  obtain ⟨kk, hkk, hg, rfl, HA, HB⟩ := hrel
  by_cases hlt : kk < n1
  rotate_left
  ·have hltz : ¬ (kk : Int) < (n1 : Int) := by omega
   have : kk = n1 := by omega
   subst this
   go_wp2
   go_ret
   refine ⟨?_, HB.out⟩
   rw [qF6 l1 l2 (by rw [← HN1.out, ← HN2.out]) fun j x y hx hy => HA.out j x y (by rw [HN1.out]; exact (List.getElem?_eq_some_iff.1 hx).1) hx hy]
   rfl
  have hltz : (kk : Int) < (n1 : Int) := by omega
  have h0 : (0 : Int) ≤ (kk : Int) := by omega
  obtain ⟨ad, ea, hx0, hx1, hx2, hx3, hx4⟩ := qDK HR1.out (kk : Int) h0 hltz
  subst ea
  obtain ⟨bd, eb, hy0, hy1, hy2, hy3, hy4⟩ := qDK HR2.out (kk : Int) h0 hltz
  subst eb
  rw [Int.toNat_natCast] at hx0 hx1 hx2 hx3 hx4 hy0 hy1 hy2 hy3 hy4
  replace hx0 := cb HB hx0
  replace hx1 := cb HB hx1
  replace hx2 := cb HB hx2
  replace hx3 := cb HB hx3
  replace hx4 := cb HB hx4
  replace hy0 := cb HB hy0
  replace hy1 := cb HB hy1
  replace hy2 := cb HB hy2
  replace hy3 := cb HB hy3
  replace hy4 := cb HB hy4
  obtain ⟨x, hx⟩ : ∃ x, x = qCE l1 (kk : Int) := ⟨_, rfl⟩
  obtain ⟨y, hy⟩ : ∃ x, x = qCE l2 (kk : Int) := ⟨_, rfl⟩
  rw [← hx] at hx0 hx1 hx2 hx3 hx4
  rw [← hy] at hy0 hy1 hy2 hy3 hy4
  have HX : qAe (l1[kk]? = some x) := ⟨by rw [hx]; exact qCz l1 z104 kk (by have := HN1.out; omega)⟩
  have HY : qAe (l2[kk]? = some y) := ⟨by rw [hy]; exact qCz l2 z104 kk (by have := HN2.out; omega)⟩
  clear hx hy
  obtain ⟨x0, x1, x2, x3, x4⟩ := x
  obtain ⟨y0, y1, y2, y3, y4⟩ := y
  dsimp only at hx0 hx1 hx2 hx3 hx4 hy0 hy1 hy2 hy3 hy4
  have HC := am (fun W => bare_any x0 x1 x2 y0 y1 y2 x3 x4 y3 y4 W)
  have hbl : (bd.add (kk * 5)).block < wr.heap.size := World.block_lt_of_cell? wr _ hy0
  obtain ⟨b, hb⟩ : ∃ b, b = (x0 == y0 && (x1 == y1 && x2 == y2)) := ⟨_, rfl⟩
  rw [← hb] at HC
  have HQ := am hb
  clear hb
  cases b with
  | false =>
   go_wp2_with (go_at_call 102; refine (HC.out _).mono ?_; rintro e w1 ⟨rfl, hw⟩; have HB2 := am (qA0 HB.out HB.out.size ((((Below.refl wr.heap.size wr).alloc (Nat.le_refl _) _).alloc (by simp) _).trans (hw.mono (by simp; omega)))); clear hw)
   go_ret
   refine ⟨?_, HB2.out⟩
   rw [qEH l1 l2 kk _ _ HX.out HY.out HQ.out.symm]; rfl
  | true =>
   go_wp2_with (go_at_call 102; refine (HC.out _).mono ?_; rintro e w1 ⟨rfl, hw⟩; have HB2 := am (qA0 HB.out HB.out.size ((((Below.refl wr.heap.size wr).alloc (Nat.le_refl _) _).alloc (by simp) _).trans (hw.mono (by simp; omega)))); clear hw)
   go_roundg (n1 - (kk + 1))
   case measure => omega
   case rel =>
    refine ⟨kk + 1, by omega, by omega, by go_num, ⟨fun j u v hj hu hv => ?_⟩, HB2⟩
    by_cases e : j = kk
    rotate_left
    ·exact HA.out j u v (by omega) hu hv
    subst e
    rw [HX.out] at hu; rw [HY.out] at hv
    injection hu with hu; injection hv with hv; subst hu; subst hv
    exact HQ.out.symm
theorem qCZ {B : Nat} {a w : World} (h : Below B a w) (q : Nat) : Below B a (w.drewN q) := ⟨h.os, h.tape, h.output, h.size, h.block⟩
def qCA (fns : List S92) (p : S104) : Int := (qAH (qAy fns p.f0).f1.f2 p.f1).f1
def placeIn (fns : List S92) (p : S104) : Prop := 0 ≤ p.f0 ∧ p.f0 < fns.length ∧ 0 ≤ p.f1 ∧ p.f1 < (qAy fns p.f0).f1.f2.length
theorem placeN_any (g : Nat) (a0 a1 a2 : Int) (a3 a4 : ByteArray) (fns : List S92) (AF : Option Addr) (cF : Nat) (w : World) (hg : w.cell? ⟨g, 2, none⟩ = some (.slice AF fns.length cF)) (hr : Kd.C k92 w AF fns.length fns)
  (hin : placeIn fns ⟨a0, a1, a2, a3, a4⟩) :
  Calls Tryz.prog 105 #[.agg #[.int .i64 a0, .int .i64 a1, .int .i64 a2, .string a3, .string a4], .pointer (some ⟨g, 0, none⟩)] w fun e w' => e = .returned (.bool (qCA fns ⟨a0, a1, a2, a3, a4⟩ != 0)) ∧ Below w.heap.size w w' := by
 obtain ⟨h0, h0', h1, h1'⟩ := hin
 dsimp only at h0 h0' h1 h1'
 obtain ⟨ad, A1, c1, A3, c3, A4, c4, ea, hx0, hx1, hx2, hx3, hx4, hl1, hC1, hl3, hC3, hl4, hC4⟩ := qFu hr a0 h0 h0'
 subst ea
 obtain ⟨bd, eb, hy0, hy1, hy2, hy3⟩ := qCF hC4 a1 h1 h1'
 subst eb
 have hbA : (ad.add (a0.toNat * 5)).block < w.heap.size := World.block_lt_of_cell? w _ hx0
 have hbB : (bd.add (a1.toNat * 4)).block < w.heap.size := World.block_lt_of_cell? w _ hy0
 have hbg : g < w.heap.size := World.block_lt_of_cell? w _ hg
 show Calls _ _ _ _ fun e w' => e = .returned (.bool ((qAH (qAy fns a0).f1.f2 a1).f1 != 0)) ∧ Below w.heap.size w w'
 obtain ⟨q, hq⟩ : ∃ q, q = (qAH (qAy fns a0).f1.f2 a1).f1 := ⟨_, rfl⟩
 rw [← hq] at hy1 ⊢
 obtain ⟨nf, hnf⟩ : ∃ q, q = fns.length := ⟨_, rfl⟩
 rw [← hnf] at h0' hg
 obtain ⟨nc, hnc⟩ : ∃ q, q = (qAy fns a0).f1.f2.length := ⟨_, rfl⟩
 rw [← hnc] at h1' hx4
 clear hq hnf hnc hC1 hC3 hC4 hl1 hl3 hl4 hr hx0 hx1 hx2 hx3 hy0 hy2 hy3
 go_enter Tryz.func105, Tryz.ntmps105
 go_wp2
 go_quiet (fail)
 go_wp2
 go_ret
 exact ⟨rfl, qCZ ((Below.refl _ _).alloc (Nat.le_refl _) _) _⟩
theorem idx_places (g : Nat) (fns : List S92) (AF : Option Addr) (cF : Nat) (A : Option Addr) (c : Nat) (l : List S104) (w : World) (hg : w.cell? ⟨g, 2, none⟩ = some (.slice AF fns.length cF)) (hrF : Kd.C k92 w AF fns.length fns) (hr : Kd.C k104 w A l.length l) (hl : l.length ≤ 4611686018427387904) (hu : ∀ x ∈ l, placeIn fns x) :
  Calls Tryz.prog 150 #[.slice A l.length c, .func (.func 105) #[] #[.pointer (some ⟨g, 0, none⟩)]] w (IdxPost (l.any fun x => qCA fns x != 0) w) := by
 obtain ⟨n, hn⟩ : ∃ n, n = l.length := ⟨_, rfl⟩
 rw [← hn]
 have HR := am hr
 have HN := am hn
 have HU := am hu
 have hgl : g < w.heap.size := World.block_lt_of_cell? w _ hg
 have HF : qAe (∀ W x, Below w.heap.size w W → x ∈ l → Calls Tryz.prog 105 #[.agg #[.int .i64 x.f0, .int .i64 x.f1, .int .i64 x.f2, .string x.f3, .string x.f4], .pointer (some ⟨g, 0, none⟩)] W fun e w' => e = .returned (.bool (qCA fns x != 0)) ∧ Below W.heap.size W w') := ⟨fun W x hW hx => placeN_any g x.f0 x.f1 x.f2 x.f3 x.f4 fns AF cF W ((hW.cell (p := ⟨g, 2, none⟩) hgl).trans hg) (Kd.C_below hrF hW) (hu x hx)⟩
 rw [← hn] at hl
 clear hr hn hu hg hrF
 go_enter Tryz.func150, Tryz.ntmps150
 go_wp2
 go_loopg [5, 8] n (fun gg _ s8 wr => ∃ kk : Nat, kk ≤ n ∧ n - kk ≤ gg ∧ s8 = .int .i64 kk ∧ qAe (∀ (j : Nat) x, j < kk → l[j]? = some x → (qCA fns x != 0) = false) ∧ qAe (Below w.heap.size w wr))
 case atStart => exact ⟨0, Nat.zero_le _, by omega, rfl, ⟨fun j x hj => absurd hj (Nat.not_lt_zero _)⟩, ⟨Below.refl _ _⟩⟩
 case round =>
  obtain ⟨kk, hkk, hg, rfl, HA, HB⟩ := hrel
  by_cases hlt : kk < n
  rotate_left
  ·have hltz : ¬ (kk : Int) < (n : Int) := by omega
   have : kk = n := by omega
   subst this
   go_wp2
   go_ret
   refine ⟨-1, rfl, ?_, HB.out⟩
   rw [qEU _ l fun j x hj => HA.out j x (by rw [HN.out]; exact (List.getElem?_eq_some_iff.1 hj).1) hj]
   simp
  have hltz : (kk : Int) < (n : Int) := by omega
  have h0 : (0 : Int) ≤ (kk : Int) := by omega
  obtain ⟨ad, ea, hx0, hx1, hx2, hx3, hx4⟩ := qDK HR.out (kk : Int) h0 (by have := HN.out; omega)
  subst ea
  rw [Int.toNat_natCast] at hx0 hx1 hx2 hx3 hx4
  replace hx0 := cb HB hx0
  replace hx1 := cb HB hx1
  replace hx2 := cb HB hx2
  replace hx3 := cb HB hx3
  replace hx4 := cb HB hx4
  obtain ⟨x, hx⟩ : ∃ x, x = qCE l (kk : Int) := ⟨_, rfl⟩
  rw [← hx] at hx0 hx1 hx2 hx3 hx4
  have HX : qAe (l[kk]? = some x) := ⟨by rw [hx]; exact qCz l z104 kk (by have := HN.out; omega)⟩
  clear hx
  have HC := am (HF.out wr x HB.out (List.mem_of_getElem? HX.out))
  obtain ⟨b, hb⟩ : ∃ b, b = (qCA fns x != 0) := ⟨_, rfl⟩
  rw [← hb] at HC
  have HQ := am hb
  clear hb
  cases b with
  | true =>
   go_wp2_with (go_at_call 105; refine (HC.out).mono ?_; rintro e w1 ⟨rfl, hw⟩; have HB1 := am (qA0 HB.out HB.out.size hw); clear hw)
   go_ret
   exact ⟨kk, rfl, ⟨fun _ => qE3 _ l kk _ HX.out HQ.out.symm, fun _ => h0⟩, HB1.out⟩
  | false =>
   go_wp2_with (go_at_call 105; refine (HC.out).mono ?_; rintro e w1 ⟨rfl, hw⟩; have HB1 := am (qA0 HB.out HB.out.size hw); clear hw)
   go_roundg (n - (kk + 1))
   case measure => omega
   case rel =>
    refine ⟨kk + 1, by omega, by omega, by go_num, ⟨fun j y hj hy => ?_⟩, HB1⟩
    by_cases e : j = kk
    rotate_left
    ·exact HA.out j y (by omega) hy
    subst e
    rw [HX.out] at hy; injection hy with hy; subst hy; exact HQ.out.symm
theorem has_places (g : Nat) (fns : List S92) (AF : Option Addr) (cF : Nat) (A : Option Addr) (c : Nat) (l : List S104) (w : World) (hg : w.cell? ⟨g, 2, none⟩ = some (.slice AF fns.length cF)) (hrF : Kd.C k92 w AF fns.length fns) (hr : Kd.C k104 w A l.length l) (hl : l.length ≤ 4611686018427387904) (hu : ∀ x ∈ l, placeIn fns x) :
  Calls Tryz.prog 104 #[.slice A l.length c, .func (.func 105) #[] #[.pointer (some ⟨g, 0, none⟩)]] w fun e w' => e = .returned (.bool (l.any fun x => qCA fns x != 0)) ∧ Below w.heap.size w w' := by
 have HI := am (idx_places g fns AF cF A c l w hg hrF hr hl hu)
 obtain ⟨b, hb⟩ : ∃ b, b = l.any fun x => qCA fns x != 0 := ⟨_, rfl⟩
 rw [← hb] at HI ⊢
 clear hb hr hl hu hg hrF
 go_enter Tryz.func104, Tryz.ntmps104
 go_wp2_with (go_at_call 150; refine (HI.out).mono ?_; rintro e w1 ⟨i, rfl, hi, hw⟩; have HB := am hw; have HQ := am hi; clear hi hw)
 go_ret
 refine ⟨?_, HB.out⟩
 have := HQ.out
 congr 2
 cases b <;> simp_all
end Q
end
section
namespace Names
open Go.RowKit Base
def qAR (c : Int) : Bool := decide ((97 ≤ c ∧ c ≤ 122) ∨ (65 ≤ c ∧ c ≤ 90) ∨ c = 95)
def qCl (c : Int) : Bool := decide (48 ≤ c ∧ c ≤ 57)
def words : List (List UInt8) := [[98, 111, 111, 108], [99, 97, 116, 99, 104], [99, 111, 110, 115, 116], [101, 108, 115, 101], [101, 120, 112, 111, 114, 116], [102, 97, 105, 108], [102, 97, 108, 115, 101], [102, 108, 111, 97, 116], [102, 110], [105, 102], [105, 109, 112, 111, 114, 116], [105, 110, 102], [105, 110, 112, 117, 116], [105, 110, 116], [108, 101, 116], [109, 111, 100, 117, 108, 101], [110, 97, 110], [114, 101, 116, 117, 114, 110], [115, 104, 111, 119], [116, 114, 117, 101], [116, 114, 121], [118, 97, 114], [119, 104, 105, 108, 101]]
def qCw (s : ByteArray) : Bool := words.any fun x => s.toList == x
def qCx (s : ByteArray) (k : Nat) : Int := if h : k < s.size then (s[k].toNat : Int) else 0
theorem qEb (s : ByteArray) (k : Nat) (h : k < s.size) : qCx s k = (s[k].toNat : Int) := by unfold qCx; rw [dif_pos h]
def good (s : ByteArray) (k : Nat) : Bool := qAR (qCx s k) || qCl (qCx s k)
def nameE (s : ByteArray) : Int :=
 if s.size = 0 then 12
 else if qAR (qCx s 0) = false then 12
 else if ¬ ∀ k, k < s.size → good s k = true then 12
 else if 32 < s.size then 3
 else if qCw s = true then 12
 else 0
theorem qFz {s : ByteArray} (h : s.size = 0) : nameE s = 12 := by unfold nameE; rw [if_pos h]
theorem qF8 {s : ByteArray} (h : s.size ≠ 0) (h1 : qAR (qCx s 0) = false) : nameE s = 12 := by unfold nameE; rw [if_neg h, if_pos h1]
theorem nameE_bad {s : ByteArray} (h : s.size ≠ 0) (h1 : qAR (qCx s 0) = true) (k : Nat) (hk : k < s.size) (hb : good s k = false) : nameE s = 12 := by
 unfold nameE; rw [if_neg h, if_neg (by simp [h1]), if_pos (fun hh => by have := hh k hk; rw [hb] at this; cases this)]
theorem nameE_big {s : ByteArray} (h : s.size ≠ 0) (h1 : qAR (qCx s 0) = true) (hg : ∀ k, k < s.size → good s k = true) (hb : 32 < s.size) : nameE s = 3 := by
 unfold nameE; rw [if_neg h, if_neg (by simp [h1]), if_neg (by simpa using hg), if_pos hb]
theorem nameE_res {s : ByteArray} (h : s.size ≠ 0) (h1 : qAR (qCx s 0) = true) (hg : ∀ k, k < s.size → good s k = true) (hb : ¬ 32 < s.size) (hr : qCw s = true) : nameE s = 12 := by
 unfold nameE; rw [if_neg h, if_neg (by simp [h1]), if_neg (by simpa using hg), if_neg hb, if_pos hr]
theorem nameE_ok {s : ByteArray} (h : s.size ≠ 0) (h1 : qAR (qCx s 0) = true) (hg : ∀ k, k < s.size → good s k = true) (hb : ¬ 32 < s.size) (hr : qCw s = false) : nameE s = 0 := by
 unfold nameE; rw [if_neg h, if_neg (by simp [h1]), if_neg (by simpa using hg), if_neg hb, if_neg (by simp [hr])]
theorem size_le_of_ok {s : ByteArray} (h : nameE s = 0) : s.size ≤ 32 := by
 unfold nameE at h
 (repeat' split at h) <;> omega
theorem letter_any (c : Int) (w : World) : Calls Tryz.prog 90 #[.int .u8 c] w fun e w' => e = .returned (.bool (qAR c)) ∧ w = w' := by
 have hr : (c < 65) ∨ (65 ≤ c ∧ c ≤ 90) ∨ (91 ≤ c ∧ c ≤ 94) ∨ (c = 95) ∨ (c = 96) ∨ (97 ≤ c ∧ c ≤ 122) ∨ (123 ≤ c) := by omega
 rcases hr with h | h | h | h | h | h | h
 ·have e : qAR c = false := by unfold qAR; simp; omega
  rw [e]
  have b1 : decide (97 ≤ c) = false := decide_eq_false (by omega)
  have b3 : decide (65 ≤ c) = false := decide_eq_false (by omega)
  have b5 : (c == 95) = false := beq_eq_false_iff_ne.mpr (by omega)
  clear e h
  go_enter Tryz.func90, Tryz.ntmps90
  go_wp2
  go_ret
  exact ⟨rfl, rfl⟩
 ·have e : qAR c = true := by unfold qAR; simp; omega
  rw [e]
  have b1 : decide (97 ≤ c) = false := decide_eq_false (by omega)
  have b3 : decide (65 ≤ c) = true := decide_eq_true (by omega)
  have b4 : decide (c ≤ 90) = true := decide_eq_true (by omega)
  clear e h
  go_enter Tryz.func90, Tryz.ntmps90
  go_wp2
  go_ret
  exact ⟨rfl, rfl⟩
 ·have e : qAR c = false := by unfold qAR; simp; omega
  rw [e]
  have b1 : decide (97 ≤ c) = false := decide_eq_false (by omega)
  have b3 : decide (65 ≤ c) = true := decide_eq_true (by omega)
  have b4 : decide (c ≤ 90) = false := decide_eq_false (by omega)
  have b5 : (c == 95) = false := beq_eq_false_iff_ne.mpr (by omega)
  clear e h
  go_enter Tryz.func90, Tryz.ntmps90
  go_wp2
  go_ret
  exact ⟨rfl, rfl⟩
 ·have e : qAR c = true := by unfold qAR; simp; omega
  rw [e]
  have b1 : decide (97 ≤ c) = false := decide_eq_false (by omega)
  have b3 : decide (65 ≤ c) = true := decide_eq_true (by omega)
  have b4 : decide (c ≤ 90) = false := decide_eq_false (by omega)
  have b5 : (c == 95) = true := beq_iff_eq.mpr h
  clear e h
  go_enter Tryz.func90, Tryz.ntmps90
  go_wp2
  go_ret
  exact ⟨rfl, rfl⟩
 ·have e : qAR c = false := by unfold qAR; simp; omega
  rw [e]
  have b1 : decide (97 ≤ c) = false := decide_eq_false (by omega)
  have b3 : decide (65 ≤ c) = true := decide_eq_true (by omega)
  have b4 : decide (c ≤ 90) = false := decide_eq_false (by omega)
  have b5 : (c == 95) = false := beq_eq_false_iff_ne.mpr (by omega)
  clear e h
  go_enter Tryz.func90, Tryz.ntmps90
  go_wp2
  go_ret
  exact ⟨rfl, rfl⟩
 ·have e : qAR c = true := by unfold qAR; simp; omega
  rw [e]
  have b1 : decide (97 ≤ c) = true := decide_eq_true (by omega)
  have b2 : decide (c ≤ 122) = true := decide_eq_true (by omega)
  clear e h
  go_enter Tryz.func90, Tryz.ntmps90
  go_wp2
  go_ret
  exact ⟨rfl, rfl⟩
 have e : qAR c = false := by unfold qAR; simp; omega
 rw [e]
 have b1 : decide (97 ≤ c) = true := decide_eq_true (by omega)
 have b2 : decide (c ≤ 122) = false := decide_eq_false (by omega)
 have b3 : decide (65 ≤ c) = true := decide_eq_true (by omega)
 have b4 : decide (c ≤ 90) = false := decide_eq_false (by omega)
 have b5 : (c == 95) = false := beq_eq_false_iff_ne.mpr (by omega)
 clear e h
 go_enter Tryz.func90, Tryz.ntmps90
 go_wp2
 go_ret
 exact ⟨rfl, rfl⟩
theorem rletter_any (c : Int) (w : World) : Calls Tryz.prog 106 #[.int .u8 c] w fun e w' => e = .returned (.bool (qAR c)) ∧ w = w' := by
 have hr : (c < 65) ∨ (65 ≤ c ∧ c ≤ 90) ∨ (91 ≤ c ∧ c ≤ 94) ∨ (c = 95) ∨ (c = 96) ∨ (97 ≤ c ∧ c ≤ 122) ∨ (123 ≤ c) := by omega
 rcases hr with h | h | h | h | h | h | h
 ·have e : qAR c = false := by unfold qAR; simp; omega
  rw [e]
  have b1 : decide (97 ≤ c) = false := decide_eq_false (by omega)
  have b3 : decide (65 ≤ c) = false := decide_eq_false (by omega)
  have b5 : (c == 95) = false := beq_eq_false_iff_ne.mpr (by omega)
  clear e h
  go_enter Tryz.func106, Tryz.ntmps106
  go_wp2
  go_ret
  exact ⟨rfl, rfl⟩
 ·have e : qAR c = true := by unfold qAR; simp; omega
  rw [e]
  have b1 : decide (97 ≤ c) = false := decide_eq_false (by omega)
  have b3 : decide (65 ≤ c) = true := decide_eq_true (by omega)
  have b4 : decide (c ≤ 90) = true := decide_eq_true (by omega)
  clear e h
  go_enter Tryz.func106, Tryz.ntmps106
  go_wp2
  go_ret
  exact ⟨rfl, rfl⟩
 ·have e : qAR c = false := by unfold qAR; simp; omega
  rw [e]
  have b1 : decide (97 ≤ c) = false := decide_eq_false (by omega)
  have b3 : decide (65 ≤ c) = true := decide_eq_true (by omega)
  have b4 : decide (c ≤ 90) = false := decide_eq_false (by omega)
  have b5 : (c == 95) = false := beq_eq_false_iff_ne.mpr (by omega)
  clear e h
  go_enter Tryz.func106, Tryz.ntmps106
  go_wp2
  go_ret
  exact ⟨rfl, rfl⟩
 ·have e : qAR c = true := by unfold qAR; simp; omega
  rw [e]
  have b1 : decide (97 ≤ c) = false := decide_eq_false (by omega)
  have b3 : decide (65 ≤ c) = true := decide_eq_true (by omega)
  have b4 : decide (c ≤ 90) = false := decide_eq_false (by omega)
  have b5 : (c == 95) = true := beq_iff_eq.mpr h
  clear e h
  go_enter Tryz.func106, Tryz.ntmps106
  go_wp2
  go_ret
  exact ⟨rfl, rfl⟩
 ·have e : qAR c = false := by unfold qAR; simp; omega
  rw [e]
  have b1 : decide (97 ≤ c) = false := decide_eq_false (by omega)
  have b3 : decide (65 ≤ c) = true := decide_eq_true (by omega)
  have b4 : decide (c ≤ 90) = false := decide_eq_false (by omega)
  have b5 : (c == 95) = false := beq_eq_false_iff_ne.mpr (by omega)
  clear e h
  go_enter Tryz.func106, Tryz.ntmps106
  go_wp2
  go_ret
  exact ⟨rfl, rfl⟩
 ·have e : qAR c = true := by unfold qAR; simp; omega
  rw [e]
  have b1 : decide (97 ≤ c) = true := decide_eq_true (by omega)
  have b2 : decide (c ≤ 122) = true := decide_eq_true (by omega)
  clear e h
  go_enter Tryz.func106, Tryz.ntmps106
  go_wp2
  go_ret
  exact ⟨rfl, rfl⟩
 have e : qAR c = false := by unfold qAR; simp; omega
 rw [e]
 have b1 : decide (97 ≤ c) = true := decide_eq_true (by omega)
 have b2 : decide (c ≤ 122) = false := decide_eq_false (by omega)
 have b3 : decide (65 ≤ c) = true := decide_eq_true (by omega)
 have b4 : decide (c ≤ 90) = false := decide_eq_false (by omega)
 have b5 : (c == 95) = false := beq_eq_false_iff_ne.mpr (by omega)
 clear e h
 go_enter Tryz.func106, Tryz.ntmps106
 go_wp2
 go_ret
 exact ⟨rfl, rfl⟩
theorem rdigit_any (c : Int) (w : World) : Calls Tryz.prog 107 #[.int .u8 c] w fun e w' => e = .returned (.bool (qCl c)) ∧ w = w' := by
 have hr : c < 48 ∨ (48 ≤ c ∧ c ≤ 57) ∨ 57 < c := by omega
 rcases hr with h | h | h
 ·have e : qCl c = false := by unfold qCl; simp; omega
  rw [e]
  have b1 : decide (48 ≤ c) = false := decide_eq_false (by omega)
  clear e h
  go_enter Tryz.func107, Tryz.ntmps107
  go_wp2
  go_ret
  exact ⟨rfl, rfl⟩
 ·have e : qCl c = true := by unfold qCl; simp; omega
  rw [e]
  have b1 : decide (48 ≤ c) = true := decide_eq_true (by omega)
  have b2 : decide (c ≤ 57) = true := decide_eq_true (by omega)
  clear e h
  go_enter Tryz.func107, Tryz.ntmps107
  go_wp2
  go_ret
  exact ⟨rfl, rfl⟩
 have e : qCl c = false := by unfold qCl; simp; omega
 rw [e]
 have b1 : decide (48 ≤ c) = true := decide_eq_true (by omega)
 have b2 : decide (c ≤ 57) = false := decide_eq_false (by omega)
 clear e h
 go_enter Tryz.func107, Tryz.ntmps107
 go_wp2
 go_ret
 exact ⟨rfl, rfl⟩
theorem reserved_any (s : ByteArray) (w : World) : Calls Tryz.prog 91 #[.string s] w fun e w' => e = .returned (.bool (qCw s)) ∧ w = w' := by
 have hr : Hid (qCw s = (words.any fun x => s.toList == x)) := hid rfl
 go_enter Tryz.func91, Tryz.ntmps91
 go_wp2
 all_goals go_ret
 all_goals exact ⟨by rw [hr.out]; first | (simp [words, *]; done) | (simp_all [words]; done), rfl⟩
def StrsAt (W : World) (b o : Nat) (xs : List ByteArray) : Prop := ∀ j x, xs[j]? = some x → W.cell? ⟨b, o + j, none⟩ = some (.string x)
def hasS (xs : List ByteArray) (s : ByteArray) : Bool := xs.any fun x => x.toList == s.toList
def FindPost (xs : List ByteArray) (s : ByteArray) (w : World) (e : Ending) (w' : World) : Prop := ∃ i : Int, e = .returned (.tuple #[.int .i64 i, .bool (hasS xs s)]) ∧ w = w'
theorem hasS_true {xs : List ByteArray} {s : ByteArray} {k : Nat} {x : ByteArray} (hx : xs[k]? = some x) (h : (x.toList == s.toList) = true) : hasS xs s = true :=
 List.any_eq_true.2 ⟨x, List.mem_of_getElem? hx, h⟩
theorem hasS_false {xs : List ByteArray} {s : ByteArray} (h : ∀ (k : Nat) (x : ByteArray), xs[k]? = some x → (x.toList == s.toList) = false) : hasS xs s = false := by
 unfold hasS
 rw [List.any_eq_false]
 intro x hx
 obtain ⟨k, hk⟩ := List.getElem?_of_mem hx
 simpa using h k x hk
theorem rfind_any (b o c : Nat) (xs : List ByteArray) (s : ByteArray) (w : World) (hx : StrsAt w b o xs) (hl : xs.length ≤ 9223372036854775807) :
  Calls Tryz.prog 112 #[.slice (some ⟨b, o, none⟩) xs.length c, .string s] w (FindPost xs s w) := by
 have HX := hid hx
 clear hx
 go_enter Tryz.func112, Tryz.ntmps112
 go_wp2
 go_loop [6] (fun i => ∃ k : Nat, k ≤ xs.length ∧ i = .int .i64 k ∧ Hid (∀ j x, j < k → xs[j]? = some x → (x.toList == s.toList) = false)) (fun i => xs.length - (intOf i).toNat)
 case atStart => exact ⟨0, Nat.zero_le _, rfl, hid fun j _ hj => absurd hj (by omega)⟩
 case round =>
  obtain ⟨k, hk, rfl, hall⟩ := hrel
  by_cases hlt : k < xs.length
  rotate_left
  ·go_wp2
   go_ret2
   exact ⟨0, by rw [hasS_false fun j y hy => hall.out j y (by have := (List.getElem?_eq_some_iff.1 hy).1; omega) hy]; rfl, rfl⟩
  obtain ⟨x, hx⟩ : ∃ x, xs[k]? = some x := ⟨_, List.getElem?_eq_getElem hlt⟩
  have hcell := HX.out k x hx
  have HK := hid hx
  clear hx
  by_cases hq : (x.toList == s.toList) = true
  ·go_wp2
   go_ret2
   exact ⟨(k : Int), by rw [hasS_true HK.out hq]; rfl, rfl⟩
  have hq' : (x.toList == s.toList) = false := by simpa using hq
  clear hq
  go_wp2
  go_round
  case rel => exact ⟨k + 1, by omega, by go_num, hid fun j y hj hy => by
    by_cases e : j = k
    · subst e; have := HK.out.symm.trans hy; cases this; exact hq'
    · exact hall.out j y (by omega) hy⟩
  case measure => simp [intOf]; omega
def wordsB : List ByteArray := words.map fun l => ⟨l.toArray⟩
theorem qCN (c : Int) (v : Bool) (h : qAR c = v) (w : World) : Calls Tryz.prog 90 #[.int .u8 c] w fun e w' => e = .returned (.bool v) ∧ w = w' := h ▸ letter_any c w
theorem qCS (c : Int) (v : Bool) (h : qAR c = v) (w : World) : Calls Tryz.prog 106 #[.int .u8 c] w fun e w' => e = .returned (.bool v) ∧ w = w' := h ▸ rletter_any c w
theorem rdigit_val (c : Int) (v : Bool) (h : qCl c = v) (w : World) : Calls Tryz.prog 107 #[.int .u8 c] w fun e w' => e = .returned (.bool v) ∧ w = w' := h ▸ rdigit_any c w
theorem qEF (s : ByteArray) (v : Bool) (h : qCw s = v) (w : World) : Calls Tryz.prog 91 #[.string s] w fun e w' => e = .returned (.bool v) ∧ w = w' := h ▸ reserved_any s w
theorem right_any (s : ByteArray) (w : World) (hs : s.size ≤ 140737488351232) : Calls Tryz.prog 30 #[.string s] w fun e w' => e = .returned (.int .i64 (nameE s)) ∧ w = w' := by
 by_cases h0 : s.size = 0
 ·rw [qFz h0]
  obtain rfl : s = ⟨#[]⟩ := ByteArray.ext (Array.eq_empty_of_size_eq_zero h0)
  go_enter Tryz.func30, Tryz.ntmps30
  go_wp2
  go_ret
  exact ⟨rfl, rfl⟩
 have hp : 0 < s.size := by omega
 have he : s.toList.isEmpty = false := toList_ne h0
 have hb0 := qEb s 0 hp
 cases hl : qAR (qCx s 0) with
 | false =>
  rw [qF8 h0 hl]
  rw [hb0] at hl
  have HL : Hid (qAR ((s[0]'hp).toNat : Int) = false) := hid hl
  clear hl hb0
  go_enter Tryz.func30, Tryz.ntmps30
  go_wp2_with (go_at_call 90; refine (qCN _ _ HL.out _).mono ?_; rintro e w' ⟨rfl, rfl⟩)
  go_ret
  exact ⟨rfl, rfl⟩
 | true =>
  have HN : Hid (qAR (qCx s 0) = true) := hid hl
  rw [hb0] at hl
  have HL : Hid (qAR ((s[0]'hp).toNat : Int) = true) := hid hl
  clear hl hb0
  go_enter Tryz.func30, Tryz.ntmps30
  go_wp2_with (go_at_call 90; refine (qCN _ _ HL.out _).mono ?_; rintro e w' ⟨rfl, rfl⟩)
  go_loop [14] (fun i => ∃ k : Nat, k ≤ s.size ∧ i = .int .i64 k ∧ Hid (∀ j, j < k → good s j = true)) (fun i => s.size - (intOf i).toNat)
  case atStart => exact ⟨0, Nat.zero_le _, rfl, hid fun j hj => absurd hj (by omega)⟩
  case round =>
   obtain ⟨k, hk, rfl, hall⟩ := hrel
   by_cases hlt : k < s.size
   rotate_left
   ·have hkk : k = s.size := by omega
    subst hkk
    have HA : Hid (∀ j, j < s.size → good s j = true) := hall
    clear hall
    by_cases h32 : 32 < s.size
    ·have HE : Hid (nameE s = 3) := hid (nameE_big h0 HN.out HA.out h32)
     have b1 : decide ((32 : Int) < (s.size : Int)) = true := decide_eq_true (by omega)
     go_wp2_with fail
     go_ret
     exact ⟨by rw [HE.out]; rfl, rfl⟩
    have b1 : decide ((32 : Int) < (s.size : Int)) = false := decide_eq_false (by omega)
    cases hres : qCw s with
    | true =>
     have HE : Hid (nameE s = 12) := hid (nameE_res h0 HN.out HA.out h32 hres)
     have HR := hid hres
     clear hres
     go_wp2_with (go_at_call 91; refine (qEF _ _ HR.out _).mono ?_; rintro e w' ⟨rfl, rfl⟩)
     go_ret
     exact ⟨by rw [HE.out]; rfl, rfl⟩
    | false =>
     have HE : Hid (nameE s = 0) := hid (nameE_ok h0 HN.out HA.out h32 hres)
     have HR := hid hres
     clear hres
     go_wp2_with (go_at_call 91; refine (qEF _ _ HR.out _).mono ?_; rintro e w' ⟨rfl, rfl⟩)
     go_ret
     exact ⟨by rw [HE.out]; rfl, rfl⟩
   have hbk := qEb s k hlt
   cases hlet : qAR (qCx s k) with
   | true =>
    have HG : Hid (good s k = true) := hid (by unfold good; rw [hlet]; rfl)
    have HK : Hid (qAR ((s[k]'hlt).toNat : Int) = true) := hid (by rw [← hbk]; exact hlet)
    clear hlet hbk
    go_wp2_with (go_at_call 90; refine (qCN _ _ HK.out _).mono ?_; rintro e w' ⟨rfl, rfl⟩)
    go_round
    case rel => exact ⟨k + 1, by omega, by go_num, hid fun j hj => by
      by_cases e : j = k
      · rw [e]; exact HG.out
      · exact hall.out j (by omega)⟩
    case measure => simp [intOf]; omega
   | false =>
    have HK : Hid (qAR ((s[k]'hlt).toNat : Int) = false) := hid (by rw [← hbk]; exact hlet)
    cases hdig : qCl (qCx s k) with
    | true =>
     have HG : Hid (good s k = true) := hid (by unfold good; rw [hdig]; simp)
     have hq := hdig
     rw [hbk] at hq
     have hq2 : 48 ≤ ((s[k]'hlt).toNat : Int) ∧ ((s[k]'hlt).toNat : Int) ≤ 57 := by simpa [qCl] using hq
     have b1 : decide (((s[k]'hlt).toNat : Int) < 48) = false := decide_eq_false (by omega)
     have b2 : decide (57 < ((s[k]'hlt).toNat : Int)) = false := decide_eq_false (by omega)
     clear hq hq2
     clear hlet hbk hdig
     go_wp2_with (go_at_call 90; refine (qCN _ _ HK.out _).mono ?_; rintro e w' ⟨rfl, rfl⟩)
     go_round
     case rel => exact ⟨k + 1, by omega, by go_num, hid fun j hj => by
       by_cases e : j = k
       · rw [e]; exact HG.out
       · exact hall.out j (by omega)⟩
     case measure => simp [intOf]; omega
    | false =>
     have HE : Hid (nameE s = 12) := hid (nameE_bad h0 HN.out k hlt (by unfold good; rw [hlet, hdig]; rfl))
     have hq := hdig
     rw [hbk] at hq
     have hq2 : ¬ (48 ≤ ((s[k]'hlt).toNat : Int) ∧ ((s[k]'hlt).toNat : Int) ≤ 57) := by simpa [qCl] using hq
     clear hlet hbk hdig hq
     by_cases hq3 : ((s[k]'hlt).toNat : Int) < 48
     ·have b1 : decide (((s[k]'hlt).toNat : Int) < 48) = true := decide_eq_true hq3
      clear hq2 hq3
      go_wp2_with (go_at_call 90; refine (qCN _ _ HK.out _).mono ?_; rintro e w' ⟨rfl, rfl⟩)
      go_ret
      exact ⟨by rw [HE.out]; rfl, rfl⟩
     have b1 : decide (((s[k]'hlt).toNat : Int) < 48) = false := decide_eq_false hq3
     have b2 : decide (57 < ((s[k]'hlt).toNat : Int)) = true := decide_eq_true (by omega)
     clear hq2 hq3
     go_wp2_with (go_at_call 90; refine (qCN _ _ HK.out _).mono ?_; rintro e w' ⟨rfl, rfl⟩)
     go_ret
     exact ⟨by rw [HE.out]; rfl, rfl⟩
theorem has_words (s : ByteArray) : hasS wordsB s = qCw s := by
 have h : ∀ (l : List (List UInt8)), (l.map fun x => (⟨x.toArray⟩ : ByteArray)).any (fun x => x.toList == s.toList) = l.any fun x => s.toList == x := by
  intro l
  induction l with
  | nil => rfl
  | cons x r ih =>
   rw [List.map_cons, List.any_cons, List.any_cons, ih]
   congr 1
   rw [Lib.toList_data]
   show (x == s.toList) = (s.toList == x)
   rw [Bool.eq_iff_iff]
   simp only [beq_iff_eq]
   exact eq_comm
 exact h words
def wordsV : Array Value := (wordsB.map Value.string).toArray
theorem rwords_any (w : World) : Calls Tryz.prog 151 #[] w fun e w' => e = .returned (.slice (some ⟨w.heap.size, 0, none⟩) 23 23) ∧ w.alloc (.cells wordsV 9) = w' := by
 have hv : Hid (wordsV = #[.string ⟨#[98, 111, 111, 108]⟩, .string ⟨#[99, 97, 116, 99, 104]⟩, .string ⟨#[99, 111, 110, 115, 116]⟩, .string ⟨#[101, 108, 115, 101]⟩, .string ⟨#[101, 120, 112, 111, 114, 116]⟩, .string ⟨#[102, 97, 105, 108]⟩, .string ⟨#[102, 97, 108, 115, 101]⟩, .string ⟨#[102, 108, 111, 97, 116]⟩, .string ⟨#[102, 110]⟩, .string ⟨#[105, 102]⟩, .string ⟨#[105, 109, 112, 111, 114, 116]⟩, .string ⟨#[105, 110, 102]⟩, .string ⟨#[105, 110, 112, 117, 116]⟩, .string ⟨#[105, 110, 116]⟩, .string ⟨#[108, 101, 116]⟩, .string ⟨#[109, 111, 100, 117, 108, 101]⟩, .string ⟨#[110, 97, 110]⟩, .string ⟨#[114, 101, 116, 117, 114, 110]⟩, .string ⟨#[115, 104, 111, 119]⟩, .string ⟨#[116, 114, 117, 101]⟩, .string ⟨#[116, 114, 121]⟩, .string ⟨#[118, 97, 114]⟩, .string ⟨#[119, 104, 105, 108, 101]⟩]) := hid rfl
 go_enter Tryz.func151, Tryz.ntmps151
 go_wp2
 go_ret
 exact ⟨rfl, by rw [hv.out]⟩
theorem rreserved_any (s : ByteArray) (w : World) : Calls Tryz.prog 108 #[.string s] w fun e w' => e = .returned (.bool (qCw s)) ∧ Below w.heap.size w w' := by
 have hx : StrsAt (w.alloc (.cells wordsV 9)) w.heap.size 0 wordsB := fun j x hj => by
  rw [World.cell?_alloc_at _ _ _ _ rfl]
  show wordsV[0 + j]? = _
  unfold wordsV
  simp [hj]
 have hc := rfind_any w.heap.size 0 23 wordsB s (w.alloc (.cells wordsV 9)) hx (by decide)
 rw [show wordsB.length = 23 from rfl] at hc
 have HC := hid hc
 clear hx hc
 go_enter Tryz.func108, Tryz.ntmps108
 go_wp2_with (go_at_call 151; refine (rwords_any _).mono ?_; rintro e w' ⟨rfl, rfl⟩)
 refine HC.out.mono ?_
 rintro e w' ⟨i, rfl, rfl⟩
 go_wp2
 go_ret
 exact ⟨by rw [has_words]; rfl, (Below.refl _ _).alloc (Nat.le_refl _) _⟩
theorem qEj (s : ByteArray) (v : Bool) (h : qCw s = v) (w : World) : Calls Tryz.prog 108 #[.string s] w fun e w' => e = .returned (.bool v) ∧ Below w.heap.size w w' := h ▸ rreserved_any s w
theorem rright_any (s : ByteArray) (w : World) (hs : s.size ≤ 140737488351232) : Calls Tryz.prog 36 #[.string s] w fun e w' => e = .returned (.int .i64 (nameE s)) ∧ Below w.heap.size w w' := by
 by_cases h0 : s.size = 0
 ·rw [qFz h0]
  obtain rfl : s = ⟨#[]⟩ := ByteArray.ext (Array.eq_empty_of_size_eq_zero h0)
  go_enter Tryz.func36, Tryz.ntmps36
  go_wp2
  go_ret
  exact ⟨rfl, Below.refl _ _⟩
 have hp : 0 < s.size := by omega
 have he : ((s.size : Int) == 0) = false := beq_eq_false_iff_ne.mpr (by omega)
 have hb0 := qEb s 0 hp
 cases hl : qAR (qCx s 0) with
 | false =>
  rw [qF8 h0 hl]
  rw [hb0] at hl
  have HL : Hid (qAR ((s[0]'hp).toNat : Int) = false) := hid hl
  clear hl hb0
  go_enter Tryz.func36, Tryz.ntmps36
  go_wp2_with (go_at_call 106; refine (qCS _ _ HL.out _).mono ?_; rintro e w' ⟨rfl, rfl⟩)
  go_ret
  exact ⟨rfl, Below.refl _ _⟩
 | true =>
  have HN : Hid (qAR (qCx s 0) = true) := hid hl
  rw [hb0] at hl
  have HL : Hid (qAR ((s[0]'hp).toNat : Int) = true) := hid hl
  clear hl hb0
  go_enter Tryz.func36, Tryz.ntmps36
  go_wp2_with (go_at_call 106; refine (qCS _ _ HL.out _).mono ?_; rintro e w' ⟨rfl, rfl⟩)
  go_loop [3] (fun i => ∃ k : Nat, k ≤ s.size ∧ i = .int .i64 k ∧ Hid (∀ j, j < k → good s j = true)) (fun i => s.size - (intOf i).toNat)
  case atStart => exact ⟨0, Nat.zero_le _, rfl, hid fun j hj => absurd hj (by omega)⟩
  case round =>
   obtain ⟨k, hk, rfl, hall⟩ := hrel
   by_cases hlt : k < s.size
   rotate_left
   ·have hkk : k = s.size := by omega
    subst hkk
    have HA : Hid (∀ j, j < s.size → good s j = true) := hall
    clear hall
    by_cases h32 : 32 < s.size
    ·have HE : Hid (nameE s = 3) := hid (nameE_big h0 HN.out HA.out h32)
     have b1 : decide ((32 : Int) < (s.size : Int)) = true := decide_eq_true (by omega)
     go_wp2_with fail
     go_ret
     exact ⟨by rw [HE.out]; rfl, Below.refl _ _⟩
    have b1 : decide ((32 : Int) < (s.size : Int)) = false := decide_eq_false (by omega)
    cases hres : qCw s with
    | true =>
     have HE : Hid (nameE s = 12) := hid (nameE_res h0 HN.out HA.out h32 hres)
     have HR := hid hres
     clear hres
     go_wp2_with (go_at_call 108; refine (qEj _ _ HR.out _).mono ?_; rintro e w' ⟨rfl, hbr⟩)
     go_ret
     exact ⟨by rw [HE.out]; rfl, hbr⟩
    | false =>
     have HE : Hid (nameE s = 0) := hid (nameE_ok h0 HN.out HA.out h32 hres)
     have HR := hid hres
     clear hres
     go_wp2_with (go_at_call 108; refine (qEj _ _ HR.out _).mono ?_; rintro e w' ⟨rfl, hbr⟩)
     go_ret
     exact ⟨by rw [HE.out]; rfl, hbr⟩
   have hbk := qEb s k hlt
   cases hlet : qAR (qCx s k) with
   | true =>
    have HG : Hid (good s k = true) := hid (by unfold good; rw [hlet]; rfl)
    have HK : Hid (qAR ((s[k]'hlt).toNat : Int) = true) := hid (by rw [← hbk]; exact hlet)
    clear hlet hbk
    go_wp2_with (go_at_call 106; refine (qCS _ _ HK.out _).mono ?_; rintro e w' ⟨rfl, rfl⟩)
    go_round
    case rel => exact ⟨k + 1, by omega, by go_num, hid fun j hj => by
      by_cases e : j = k
      · rw [e]; exact HG.out
      · exact hall.out j (by omega)⟩
    case measure => simp [intOf]; omega
   | false =>
    have HK : Hid (qAR ((s[k]'hlt).toNat : Int) = false) := hid (by rw [← hbk]; exact hlet)
    cases hdig : qCl (qCx s k) with
    | true =>
     have HG : Hid (good s k = true) := hid (by unfold good; rw [hdig]; simp)
     have HD : Hid (qCl ((s[k]'hlt).toNat : Int) = true) := hid (by rw [← hbk]; exact hdig)
     clear hlet hbk hdig
     go_wp2_with (first | (go_at_call 106; refine (qCS _ _ HK.out _).mono ?_; rintro e w' ⟨rfl, rfl⟩) | (go_at_call 107; refine (rdigit_val _ _ HD.out _).mono ?_; rintro e w' ⟨rfl, rfl⟩))
     go_round
     case rel => exact ⟨k + 1, by omega, by go_num, hid fun j hj => by
       by_cases e : j = k
       · rw [e]; exact HG.out
       · exact hall.out j (by omega)⟩
     case measure => simp [intOf]; omega
    | false =>
     have HE : Hid (nameE s = 12) := hid (nameE_bad h0 HN.out k hlt (by unfold good; rw [hlet, hdig]; rfl))
     have HD : Hid (qCl ((s[k]'hlt).toNat : Int) = false) := hid (by rw [← hbk]; exact hdig)
     clear hlet hbk hdig
     go_wp2_with (first | (go_at_call 106; refine (qCS _ _ HK.out _).mono ?_; rintro e w' ⟨rfl, rfl⟩) | (go_at_call 107; refine (rdigit_val _ _ HD.out _).mono ?_; rintro e w' ⟨rfl, rfl⟩))
     go_ret
     exact ⟨by rw [HE.out]; rfl, Below.refl _ _⟩
end Names
end
section
namespace Q
open Go.RowKit PA PC PB
def qB2.f (a0 : ByteArray) : Option (Int) := if a0.size ≤ 140737488351232 then some (Names.nameE a0) else none
theorem qB2.calls (a0 : ByteArray) (r : Int) (w : World) (h : qB2.f a0 = some r) :
  Calls Tryz.prog 30 #[.string a0] w fun e w' => e = .returned (.int .i64 r) ∧ qAZ w w' := by
 unfold qB2.f at h
 split at h
 case isFalse => cases h
 rename_i hs
 obtain rfl := Option.some.inj h
 exact (Names.right_any a0 w hs).mono fun e w' ⟨he, hw⟩ => ⟨he, hw ▸ qAZ.refl _⟩
def qAD.f (a0 : ByteArray) : Option (Int) := if a0.size ≤ 140737488351232 then some (Names.nameE a0) else none
theorem qAD.calls (a0 : ByteArray) (r : Int) (w : World) (h : qAD.f a0 = some r) :
  Calls Tryz.prog 36 #[.string a0] w fun e w' => e = .returned (.int .i64 r) ∧ Below w.heap.size w w' := by
 unfold qAD.f at h
 split at h
 case isFalse => cases h
 rename_i hs
 obtain rfl := Option.some.inj h
 exact Names.rright_any a0 w hs
end Q
end
section
namespace Q
open Go.RowKit PA PC PB
attribute [local go_sem] qBe min2_int qBq min_two max_three min_three max_four min_four
mutual
def qA3.l0 : Nat → List (S104) → List (S92) → Int → Int → Option (List (S104))
 | 0, _, _, _, _ => none
 | k + 1, x3, x9, az, aj => if aj < az then (if 0 ≤ aj then (if aj < (x9.length : Int) then (qA3.l1 k x3 aj x9 az aj ((qAy x9 aj).f1.f2) (((qAy x9 aj).f1.f2).length : Int) 0) else (none)) else (none)) else (some x3)
def qA3.l1 : Nat → List (S104) → Int → List (S92) → Int → Int → List (S144) → Int → Int → Option (List (S104))
 | 0, _, _, _, _, _, _, _, _ => none
 | k + 1, x3, x4, x9, az, aj, ao, bg, ai => if ai < bg then (if 0 ≤ ai then (if ai < (ao.length : Int) then (if ((qAH ao ai).f0) = 4 then (qA3.j2 k x3 x4 ai x9 az aj ao bg ai ((qAH ao ai).f0) (((qAH ao ai).f0) == 4)) else (qA3.j2 k x3 x4 ai x9 az aj ao bg ai ((qAH ao ai).f0) (((qAH ao ai).f0) == 5))) else (none)) else (none)) else (qA3.l0 k x3 x9 az (wrap64 (aj + 1)))
def qA3.j2 : Nat → List (S104) → Int → Int → List (S92) → Int → Int → List (S144) → Int → Int → Int → Bool → Option (List (S104))
 | 0, _, _, _, _, _, _, _, _, _, _, _ => none
 | k + 1, x3, x4, x6, x9, az, aj, ao, bg, ai, cV, cW => if cW = true then (if x3.length < 2513169434916 then (qA3.l1 k (x3 ++ [(⟨x4, x6, 1, (⟨#[]⟩ : ByteArray), (⟨#[]⟩ : ByteArray)⟩ : S104)]) x4 x9 az aj ao bg (wrap64 (ai + 1))) else (none)) else (if cV = 10 then (if x3.length < 2513169434916 then (qA3.l1 k (x3 ++ [(⟨x4, x6, 2, (⟨#[]⟩ : ByteArray), (⟨#[]⟩ : ByteArray)⟩ : S104)]) x4 x9 az aj ao bg (wrap64 (ai + 1))) else (none)) else (qA3.l1 k x3 x4 x9 az aj ao bg (wrap64 (ai + 1))))
end
def qA3.f (k : Nat) (a0_0 : ByteArray) (l0_1 : List (S85)) (l0_2 : List (S92)) (l0_3 : List (S104)) : Option (List (S104)) := qA3.l0 k ([] : List (S104)) l0_2 (l0_2.length : Int) 0
theorem qA3.calls (k : Nat) (a0_0 : ByteArray) (ab : Option Addr) (ad : Nat) (l0_1 : List (S85)) (ap : Option Addr) (ae : Nat) (l0_2 : List (S92)) (ac : Option Addr) (af : Nat) (l0_3 : List (S104)) (r : List (S104)) (w : World) (hr0_1 : Kd.C k85 w ab l0_1.length l0_1) (hc0_1 : l0_1.length ≤ ad) (hr0_2 : Kd.C k92 w ap l0_2.length l0_2) (hc0_2 : l0_2.length ≤ ae) (hr0_3 : Kd.C k104 w ac l0_3.length l0_3) (hc0_3 : l0_3.length ≤ af) (h : qA3.f k a0_0 l0_1 l0_2 l0_3 = some r) :
  Calls Tryz.prog 101 #[.agg #[.string a0_0, .slice ab l0_1.length ad, .slice ap l0_2.length ae, .slice ac l0_3.length af]] w fun e w' => ∃ v0_ : Value, e = .returned (v0_) ∧ Kd.R k104 104 w' w.heap.size (fun _ => True) v0_ r ∧ Below w.heap.size w w' := by
 clear hr0_1 hc0_1
 have bl := am hr0_2
 clear hr0_2 hc0_2 hr0_3 hc0_3
 have HB := am (Below.refl w.heap.size w)
 have H : (qA3.l0 k ([] : List (S104)) l0_2 (l0_2.length : Int) 0) = some r := h
 clear h
 have H' := am H
 clear H
 go_enter Tryz.func101, Tryz.ntmps101
 go_wp2_with ((with_reducible refine qAO (N := 1) rfl ?_); refine bx 1 #[.string a0_0, .slice ab l0_1.length ad, .slice ap l0_2.length ae, .slice ac l0_3.length af] 33 ?_; intro aU hg w2 hbox hb; have n_ := a2 (qAp HB.o hb) (am (hbox)); clear HB; obtain ⟨HB, aD⟩ := n_; clear hb hbox hg; have bW : w2.cell? ⟨aU, 0, none⟩ = some (.string a0_0) := (qAa aD.o 0).trans rfl; have bX : w2.cell? ⟨aU, 1, none⟩ = some (.slice ab l0_1.length ad) := (qAa aD.o 1).trans rfl; have bY : w2.cell? ⟨aU, 2, none⟩ = some (.slice ap l0_2.length ae) := (qAa aD.o 2).trans rfl; have bZ : w2.cell? ⟨aU, 3, none⟩ = some (.slice ac l0_3.length af) := (qAa aD.o 3).trans rfl; have b5 := qAb aD.o 0; have b6 := qAb aD.o 1; have b7 := qAb aD.o 2; have b8 := qAb aD.o 3)
 go_loopg [3, 11] k (fun kq v3 cQ w' => ∃ (bS : List (S104)) (aA : Int), cQ = .int .i64 aA ∧ qAe (qA3.l0 kq bS l0_2 (l0_2.length : Int) aA = some r) ∧ qAe (kq ≤ k) ∧ qAe (Kd.R k104 104 w' w.heap.size (fun _ => True) v3 bS) ∧ qAe (w'.heap[aU]? = some (.cells #[.string a0_0, (.slice ab l0_1.length ad), (.slice ap l0_2.length ae), (.slice ac l0_3.length af)] 33 (0, 0))) ∧ qAe (Below w.heap.size w w'))
 case atStart => exact ⟨([] : List (S104)), (0), (by rfl), H', ⟨Nat.le_refl _⟩, ⟨by (exact Kd.R_nil _ _ _ _ _)⟩, ⟨by exact aD.o⟩, ⟨by exact HB.o⟩⟩
 case round =>
  clear H'
  obtain ⟨bS, aA, rfl, HA, ax, aM, aD, HB⟩ := hrel
  cases gk with
  | zero => exact absurd HA.o (by simp [qA3.l0])
  | succ k1 =>
   have H := HA.o
   clear HA
   simp only [qA3.l0] at H
   by_cases c4 : aA < (l0_2.length : Int)
   rotate_left
   ·rw [if_neg c4] at H
    replace c4 := d0 c4
    obtain rfl := Option.some.inj H
    go_wp2
    go_ret
    exact ⟨_, by rfl, by exact aM.o, by exact HB.o⟩
   rw [if_pos c4] at H
   replace c4 := d1 c4
   obtain ⟨c5, H⟩ := gd H
   replace c5 := d1 c5
   obtain ⟨c6, H⟩ := gd H
   replace c6 := d1 c6
   have H' := am H
   clear H
   have bO : 0 ≤ aA := od (by assumption)
   have bQ : aA < (l0_2.length : Int) := od (by assumption)
   obtain ⟨ak, aR, aT, aV, aW, aq, aa, cL, aX, aY, aZ, a4, a5, bL, bJ, bM, bK, bN, al⟩ := qFu bl.o aA bO bQ
   cases cL
   replace aX := (HB.o.cell (World.block_lt_of_cell? w _ aX)).trans aX
   replace aY := (HB.o.cell (World.block_lt_of_cell? w _ aY)).trans aY
   replace aZ := (HB.o.cell (World.block_lt_of_cell? w _ aZ)).trans aZ
   replace a4 := (HB.o.cell (World.block_lt_of_cell? w _ a4)).trans a4
   replace a5 := (HB.o.cell (World.block_lt_of_cell? w _ a5)).trans a5
   clear bJ bL bK bM
   have bA := am al
   clear al bN
   replace bO := eq_true bO
   replace bQ := eq_true bQ
   go_wp2_with ((with_reducible refine qAO (N := 5) rfl ?_); refine bx 5 #[.string ⟨#[]⟩, .slice none 0 0, .int .i64 0, .slice none 0 0, .slice none 0 0] 92 ?_; intro aI hg w7 hbox hb; have n_ := a2 (Kd.R_below aM.o hb) (a2 (qA4 aD.o hb) (a2 (qAp HB.o hb) (a2 (hbox) (a2 (by rw [hg]; exact (qA5 HB.o) : w.heap.size ≤ aI) (am (by rw [hg]; exact Nat.ne_of_lt (qBo aD.o) : aU ≠ aI)))))); clear aM aD HB; obtain ⟨aM, aD, HB, aE, bi, aN⟩ := n_; clear hb hbox hg; have b0 : w7.cell? ⟨aI, 0, none⟩ = some (.string ⟨#[]⟩) := (qAa aE.o 0).trans rfl; have b1 : w7.cell? ⟨aI, 1, none⟩ = some (.slice none 0 0) := (qAa aE.o 1).trans rfl; have b2 : w7.cell? ⟨aI, 2, none⟩ = some (.int .i64 0) := (qAa aE.o 2).trans rfl; have b3 : w7.cell? ⟨aI, 3, none⟩ = some (.slice none 0 0) := (qAa aE.o 3).trans rfl; have b4 : w7.cell? ⟨aI, 4, none⟩ = some (.slice none 0 0) := (qAa aE.o 4).trans rfl; have b9 := qAb aE.o 0; have ba := qAb aE.o 1; have bb := qAb aE.o 2; have bc := qAb aE.o 3; have bd := qAb aE.o 4)
   go_loopg [3, 20] k1 (fun kq v3 cT w' => ∃ (aQ : List (S104)) (aC : Int), cT = .int .i64 aC ∧ qAe (qA3.l1 kq aQ aA l0_2 (l0_2.length : Int) aA ((qAy l0_2 aA).f1.f2) (((qAy l0_2 aA).f1.f2).length : Int) aC = some r) ∧ qAe (kq ≤ k1) ∧ qAe (Kd.R k104 104 w' w.heap.size (fun _ => True) v3 aQ) ∧ qAe (w'.heap[aU]? = some (.cells #[.string a0_0, (.slice ab l0_1.length ad), (.slice (some ak) l0_2.length ae), (.slice ac l0_3.length af)] 33 (0, 0))) ∧ qAe (w'.heap[aI]? = some (.cells #[.string ((qAy l0_2 aA).f0), (.slice aR ((qAy l0_2 aA).f1.f0.f0).length aT), .int .i64 ((qAy l0_2 aA).f1.f0.f1), (.slice aV ((qAy l0_2 aA).f1.f1).length aW), (.slice aq ((qAy l0_2 aA).f1.f2).length aa)] 92 (0, 0))) ∧ qAe (Below w.heap.size w w'))
   case atStart => exact ⟨(bS), (0), (by rfl), H', ⟨Nat.le_refl _⟩, ⟨by exact Kd.R_mono (Kd.R_far (p := ⟨aI, 4, none⟩) (Kd.R_far (p := ⟨aI, 3, none⟩) (Kd.R_far (p := ⟨aI, 2, none⟩) (Kd.R_far (p := ⟨aI, 1, none⟩) (Kd.R_far (p := ⟨aI, 0, none⟩) (Kd.R_types aM.o aE.o (by decide)) (fun _ hk => hk.2) (.string ((qAy l0_2 aA).f0))) (fun _ hk => hk.2) (.slice aR ((qAy l0_2 aA).f1.f0.f0).length aT)) (fun _ hk => hk.2) (.int .i64 ((qAy l0_2 aA).f1.f0.f1))) (fun _ hk => hk.2) (.slice aV ((qAy l0_2 aA).f1.f1).length aW)) (fun _ hk => hk.2) (.slice aq ((qAy l0_2 aA).f1.f2).length aa)) (fun _ hk => trivial)⟩, ⟨by refine qAz ?_ aN.o _; refine qAz ?_ aN.o _; refine qAz ?_ aN.o _; refine qAz ?_ aN.o _; refine qAz ?_ aN.o _; exact aD.o⟩, ⟨by refine qAx (cs := #[.string ((qAy l0_2 aA).f0), .slice aR ((qAy l0_2 aA).f1.f0.f0).length aT, .int .i64 ((qAy l0_2 aA).f1.f0.f1), .slice aV ((qAy l0_2 aA).f1.f1).length aW, .slice none 0 0]) ?_ 4 _ rfl; refine qAx (cs := #[.string ((qAy l0_2 aA).f0), .slice aR ((qAy l0_2 aA).f1.f0.f0).length aT, .int .i64 ((qAy l0_2 aA).f1.f0.f1), .slice none 0 0, .slice none 0 0]) ?_ 3 _ rfl; refine qAx (cs := #[.string ((qAy l0_2 aA).f0), .slice aR ((qAy l0_2 aA).f1.f0.f0).length aT, .int .i64 0, .slice none 0 0, .slice none 0 0]) ?_ 2 _ rfl; refine qAx (cs := #[.string ((qAy l0_2 aA).f0), .slice none 0 0, .int .i64 0, .slice none 0 0, .slice none 0 0]) ?_ 1 _ rfl; refine qAx (cs := #[.string ⟨#[]⟩, .slice none 0 0, .int .i64 0, .slice none 0 0, .slice none 0 0]) ?_ 0 _ rfl; exact aE.o⟩, ⟨by repeat (with_reducible first | exact HB.o | refine qAs ?_ bi.o)⟩⟩
   case round =>
    clear H'
    obtain ⟨aQ, aC, rfl, HA, ay, aM, aD, aE, HB⟩ := hrel
    cases gk with
    | zero => exact absurd HA.o (by simp [qA3.l1])
    | succ k2 =>
     have H := HA.o
     clear HA
     simp only [qA3.l1] at H
     by_cases c10 : aC < (((qAy l0_2 aA).f1.f2).length : Int)
     rotate_left
     ·rw [if_neg c10] at H
      replace c10 := d0 c10
      have H' := am H
      clear H
      go_wp2
      go_roundg k2
      case measure => have := ax.o; have := ay.o; omega
      case rel => exact ⟨(aQ), (wrap64 (aA + 1)), (by rfl), H', ⟨by have := ax.o; have := ay.o; omega⟩, ⟨by exact aM.o⟩, ⟨by exact aD.o⟩, ⟨by exact HB.o⟩⟩
     rw [if_pos c10] at H
     replace c10 := d1 c10
     obtain ⟨cD, H⟩ := gd H
     replace cD := d1 cD
     obtain ⟨cE, H⟩ := gd H
     replace cE := d1 cE
     have bV := am H
     clear H
     have bP : 0 ≤ aC := od (by assumption)
     have bR : aC < (((qAy l0_2 aA).f1.f2).length : Int) := od (by assumption)
     obtain ⟨ar, cM, a6, a7, a8, a9⟩ := qCF bA.o aC bP bR
     cases cM
     replace a6 := (HB.o.cell (World.block_lt_of_cell? w _ a6)).trans a6
     replace a7 := (HB.o.cell (World.block_lt_of_cell? w _ a7)).trans a7
     replace a8 := (HB.o.cell (World.block_lt_of_cell? w _ a8)).trans a8
     replace a9 := (HB.o.cell (World.block_lt_of_cell? w _ a9)).trans a9
     replace bP := eq_true bP
     replace bR := eq_true bR
     go_upto_if 27 with ((with_reducible refine qAO (N := 7) rfl ?_); refine bx 7 #[.int .i64 0, .int .i64 0, .int .i64 0, .int .u64 0] 144 ?_; intro aJ hg cI hbox hb; have n_ := a2 (Kd.R_below aM.o hb) (a2 (qA4 aD.o hb) (a2 (qA4 aE.o hb) (a2 (qAp HB.o hb) (a2 (hbox) (a2 (by rw [hg]; exact (qA5 HB.o) : w.heap.size ≤ aJ) (a2 (by rw [hg]; exact Nat.ne_of_lt (qBo aD.o) : aU ≠ aJ) (am (by rw [hg]; exact Nat.ne_of_lt (qBo aE.o) : aI ≠ aJ)))))))); clear aM aD aE HB; obtain ⟨aM, aD, aE, HB, aK, bT, aG, aH⟩ := n_; clear hb hbox hg; have bB : cI.cell? ⟨aJ, 0, none⟩ = some (.int .i64 0) := (qAa aK.o 0).trans rfl; have bC : cI.cell? ⟨aJ, 1, none⟩ = some (.int .i64 0) := (qAa aK.o 1).trans rfl; have bD : cI.cell? ⟨aJ, 2, none⟩ = some (.int .i64 0) := (qAa aK.o 2).trans rfl; have bE : cI.cell? ⟨aJ, 3, none⟩ = some (.int .u64 0) := (qAa aK.o 3).trans rfl; have bF := qAb aK.o 0; have bG := qAb aK.o 1; have bH := qAb aK.o 2; have bI := qAb aK.o 3)
     (skip)
     go_cut [27] (fun cU wc => ∃ (kq : Nat) (ag : Bool), cU = .bool ag ∧ qAe (qA3.j2 kq aQ aA aC l0_2 (l0_2.length : Int) aA ((qAy l0_2 aA).f1.f2) (((qAy l0_2 aA).f1.f2).length : Int) aC ((qAH ((qAy l0_2 aA).f1.f2) aC).f0) ag = some r) ∧ qAe (kq ≤ k2) ∧ qAe (Kd.R k104 104 wc w.heap.size (fun _ => True) u3 aQ) ∧ qAe (wc.heap[aU]? = some (.cells #[.string a0_0, (.slice ab l0_1.length ad), (.slice (some ak) l0_2.length ae), (.slice ac l0_3.length af)] 33 (0, 0))) ∧ qAe (wc.heap[aI]? = some (.cells #[.string ((qAy l0_2 aA).f0), (.slice aR ((qAy l0_2 aA).f1.f0.f0).length aT), .int .i64 ((qAy l0_2 aA).f1.f0.f1), (.slice aV ((qAy l0_2 aA).f1.f1).length aW), (.slice (some ar) ((qAy l0_2 aA).f1.f2).length aa)] 92 (0, 0))) ∧ qAe (wc.heap[aJ]? = some (.cells #[.int .i64 ((qAH ((qAy l0_2 aA).f1.f2) aC).f0), .int .i64 ((qAH ((qAy l0_2 aA).f1.f2) aC).f1), .int .i64 ((qAH ((qAy l0_2 aA).f1.f2) aC).f2.f0), .int .u64 ((qAH ((qAy l0_2 aA).f1.f2) aC).f2.f1)] 144 (0, 0))) ∧ qAe (Below w.heap.size w wc))
     case first =>
      have H := bV.o
      clear bV
      by_cases bw : ((qAH ((qAy l0_2 aA).f1.f2) aC).f0) = 4
      rotate_left
      ·rw [if_neg bw] at H
       have au : (((qAH ((qAy l0_2 aA).f1.f2) aC).f0) == 4) = false := bf bw
       (rw [au])
       have H' := am H
       clear H
       go_wp2
       go_meet
       case rel => exact ⟨_, (((qAH ((qAy l0_2 aA).f1.f2) aC).f0) == 5), (by rfl), H', ⟨by have := ax.o; have := ay.o; (omega)⟩, ⟨by exact Kd.R_mono (Kd.R_far (p := ⟨aJ, 3, none⟩) (Kd.R_far (p := ⟨aJ, 2, none⟩) (Kd.R_far (p := ⟨aJ, 1, none⟩) (Kd.R_far (p := ⟨aJ, 0, none⟩) (Kd.R_types aM.o aK.o (by decide)) (fun _ hk => hk.2) (.int .i64 ((qAH ((qAy l0_2 aA).f1.f2) aC).f0))) (fun _ hk => hk.2) (.int .i64 ((qAH ((qAy l0_2 aA).f1.f2) aC).f1))) (fun _ hk => hk.2) (.int .i64 ((qAH ((qAy l0_2 aA).f1.f2) aC).f2.f0))) (fun _ hk => hk.2) (.int .u64 ((qAH ((qAy l0_2 aA).f1.f2) aC).f2.f1))) (fun _ hk => trivial)⟩, ⟨by refine qAz ?_ aG.o _; refine qAz ?_ aG.o _; refine qAz ?_ aG.o _; refine qAz ?_ aG.o _; exact aD.o⟩, ⟨by refine qAz ?_ aH.o _; refine qAz ?_ aH.o _; refine qAz ?_ aH.o _; refine qAz ?_ aH.o _; exact aE.o⟩, ⟨by refine qAx (cs := #[.int .i64 ((qAH ((qAy l0_2 aA).f1.f2) aC).f0), .int .i64 ((qAH ((qAy l0_2 aA).f1.f2) aC).f1), .int .i64 ((qAH ((qAy l0_2 aA).f1.f2) aC).f2.f0), .int .u64 0]) ?_ 3 _ rfl; refine qAx (cs := #[.int .i64 ((qAH ((qAy l0_2 aA).f1.f2) aC).f0), .int .i64 ((qAH ((qAy l0_2 aA).f1.f2) aC).f1), .int .i64 0, .int .u64 0]) ?_ 2 _ rfl; refine qAx (cs := #[.int .i64 ((qAH ((qAy l0_2 aA).f1.f2) aC).f0), .int .i64 0, .int .i64 0, .int .u64 0]) ?_ 1 _ rfl; refine qAx (cs := #[.int .i64 0, .int .i64 0, .int .i64 0, .int .u64 0]) ?_ 0 _ rfl; exact aK.o⟩, ⟨by repeat (with_reducible first | exact HB.o | refine qAs ?_ bT.o)⟩⟩
      rw [if_pos bw] at H
      have au : (((qAH ((qAy l0_2 aA).f1.f2) aC).f0) == 4) = true := beq_iff_eq.mpr bw
      clear bw
      (rw [au])
      have H' := am H
      clear H
      go_wp2
      go_meet
      case rel => exact ⟨_, (((qAH ((qAy l0_2 aA).f1.f2) aC).f0) == 4), (by (simp [*]; done)), H', ⟨by have := ax.o; have := ay.o; (omega)⟩, ⟨by exact Kd.R_mono (Kd.R_far (p := ⟨aJ, 3, none⟩) (Kd.R_far (p := ⟨aJ, 2, none⟩) (Kd.R_far (p := ⟨aJ, 1, none⟩) (Kd.R_far (p := ⟨aJ, 0, none⟩) (Kd.R_types aM.o aK.o (by decide)) (fun _ hk => hk.2) (.int .i64 ((qAH ((qAy l0_2 aA).f1.f2) aC).f0))) (fun _ hk => hk.2) (.int .i64 ((qAH ((qAy l0_2 aA).f1.f2) aC).f1))) (fun _ hk => hk.2) (.int .i64 ((qAH ((qAy l0_2 aA).f1.f2) aC).f2.f0))) (fun _ hk => hk.2) (.int .u64 ((qAH ((qAy l0_2 aA).f1.f2) aC).f2.f1))) (fun _ hk => trivial)⟩, ⟨by refine qAz ?_ aG.o _; refine qAz ?_ aG.o _; refine qAz ?_ aG.o _; refine qAz ?_ aG.o _; exact aD.o⟩, ⟨by refine qAz ?_ aH.o _; refine qAz ?_ aH.o _; refine qAz ?_ aH.o _; refine qAz ?_ aH.o _; exact aE.o⟩, ⟨by refine qAx (cs := #[.int .i64 ((qAH ((qAy l0_2 aA).f1.f2) aC).f0), .int .i64 ((qAH ((qAy l0_2 aA).f1.f2) aC).f1), .int .i64 ((qAH ((qAy l0_2 aA).f1.f2) aC).f2.f0), .int .u64 0]) ?_ 3 _ rfl; refine qAx (cs := #[.int .i64 ((qAH ((qAy l0_2 aA).f1.f2) aC).f0), .int .i64 ((qAH ((qAy l0_2 aA).f1.f2) aC).f1), .int .i64 0, .int .u64 0]) ?_ 2 _ rfl; refine qAx (cs := #[.int .i64 ((qAH ((qAy l0_2 aA).f1.f2) aC).f0), .int .i64 0, .int .i64 0, .int .u64 0]) ?_ 1 _ rfl; refine qAx (cs := #[.int .i64 0, .int .i64 0, .int .i64 0, .int .u64 0]) ?_ 0 _ rfl; exact aK.o⟩, ⟨by repeat (with_reducible first | exact HB.o | refine qAs ?_ bT.o)⟩⟩
     case rest =>
      clear bV
      obtain ⟨kq, ag, rfl, HA, an, aM, aD, aE, aK, HB⟩ := hcut
      cases kq with
      | zero => exact absurd HA.o (by simp [qA3.j2])
      | succ ah =>
       have H := HA.o
       clear HA
       simp only [qA3.j2] at H
       by_cases cF : ag = true
       ·subst cF
        replace H : (if aQ.length < 2513169434916 then (qA3.l1 ah (aQ ++ [(⟨aA, aC, 1, (⟨#[]⟩ : ByteArray), (⟨#[]⟩ : ByteArray)⟩ : S104)]) aA l0_2 (l0_2.length : Int) aA ((qAy l0_2 aA).f1.f2) (((qAy l0_2 aA).f1.f2).length : Int) (wrap64 (aC + 1))) else (none)) = some r := by rw [if_pos rfl] at H; exact H
        obtain ⟨cG, H⟩ := gd H
        have bo := am cG
        clear cG
        obtain ⟨cB, av⟩ : ∃ y_ : List (S104), y_ = (aQ ++ [(⟨aA, aC, 1, (⟨#[]⟩ : ByteArray), (⟨#[]⟩ : ByteArray)⟩ : S104)]) := ⟨_, rfl⟩
        replace H : (qA3.l1 ah cB aA l0_2 (l0_2.length : Int) aA ((qAy l0_2 aA).f1.f2) (((qAy l0_2 aA).f1.f2).length : Int) (wrap64 (aC + 1))) = some r := by (rw [av]; with_reducible exact H)
        have bq := am av
        clear av
        have H' := am H
        clear H
        go_wp2_with ((with_reducible refine qBG (b := .append) (xs := #[.tmp 30, .tmp 34]) rfl ?_); at_builtin; refine Kd.R_append k104 (w0 := w) w.heap.size rfl (.tmp 30) (.tmp 34) 31 104 (.agg #[(.int .i64 0), (.int .i64 0), (.int .i64 0), (.string ⟨#[]⟩), (.string ⟨#[]⟩)]) 56 rfl Tryz.underlying31 info104 rfl (by decide) (by omega) u3 aQ (⟨aA, aC, 1, (⟨#[]⟩ : ByteArray), (⟨#[]⟩ : ByteArray)⟩ : S104) [.int .i64 aA, .int .i64 aC, .int .i64 1, .string ⟨#[]⟩, .string ⟨#[]⟩] (fun _ => True) (fun _ => False) rfl rfl ?aP (fun _ hk => hk.elim) ?aF ?aO ?aB ?aS ?aL ?_; (case aP => exact k104_mkM _ _ _ (⟨aA, aC, 1, (⟨#[]⟩ : ByteArray), (⟨#[]⟩ : ByteArray)⟩ : S104)); (case aB => exact HB.o); (case aF => exact (fun _ _ => trivial)); (case aO => exact aM.o); (case aS => exact (qA5 HB.o)); (case aL => have := bo.o; omega); intro cR cX ho hb hg cN; rw [← bq.o] at ho; have n_ := a2 (qBr (g := aU) (o := .cells #[.string a0_0, .slice ab l0_1.length ad, .slice (some ak) l0_2.length ae, .slice ac l0_3.length af] 33 (0, 0)) aD.o hg (Kd.R_ne aM.o aD.o (by decide))) (a2 (qBr (g := aI) (o := .cells #[.string ((qAy l0_2 aA).f0), .slice aR ((qAy l0_2 aA).f1.f0.f0).length aT, .int .i64 ((qAy l0_2 aA).f1.f0.f1), .slice aV ((qAy l0_2 aA).f1.f1).length aW, .slice (some ar) ((qAy l0_2 aA).f1.f2).length aa] 92 (0, 0)) aE.o hg (Kd.R_ne aM.o aE.o (by decide))) (a2 (hb) (am (ho)))); clear aD aE aK HB aM; obtain ⟨aD, aE, HB, bj⟩ := n_; clear ho hb hg cN)
        go_roundg ah
        case measure => have := ax.o; have := ay.o; have := an.o; omega
        case rel => exact ⟨(cB), (wrap64 (aC + 1)), (by rfl), H', ⟨by have := ax.o; have := ay.o; have := an.o; omega⟩, ⟨by exact bj.o⟩, ⟨by exact aD.o⟩, ⟨by exact aE.o⟩, ⟨by exact HB.o⟩⟩
       replace cF := Bool.eq_false_iff.mpr cF
       subst cF
       replace H : (if ((qAH ((qAy l0_2 aA).f1.f2) aC).f0) = 10 then (if aQ.length < 2513169434916 then (qA3.l1 ah (aQ ++ [(⟨aA, aC, 2, (⟨#[]⟩ : ByteArray), (⟨#[]⟩ : ByteArray)⟩ : S104)]) aA l0_2 (l0_2.length : Int) aA ((qAy l0_2 aA).f1.f2) (((qAy l0_2 aA).f1.f2).length : Int) (wrap64 (aC + 1))) else (none)) else (qA3.l1 ah aQ aA l0_2 (l0_2.length : Int) aA ((qAy l0_2 aA).f1.f2) (((qAy l0_2 aA).f1.f2).length : Int) (wrap64 (aC + 1)))) = some r := by rw [if_neg (show ¬ (false = true) by decide)] at H; exact H
       by_cases bh : ((qAH ((qAy l0_2 aA).f1.f2) aC).f0) = 10
       rotate_left
       ·rw [if_neg bh] at H
        have bz : (((qAH ((qAy l0_2 aA).f1.f2) aC).f0) == 10) = false := bf bh
        have H' := am H
        clear H
        go_wp2
        go_roundg ah
        case measure => have := ax.o; have := ay.o; have := an.o; omega
        case rel => exact ⟨(aQ), (wrap64 (aC + 1)), (by rfl), H', ⟨by have := ax.o; have := ay.o; have := an.o; omega⟩, ⟨by exact aM.o⟩, ⟨by exact aD.o⟩, ⟨by exact aE.o⟩, ⟨by exact HB.o⟩⟩
       rw [if_pos bh] at H
       have bz : (((qAH ((qAy l0_2 aA).f1.f2) aC).f0) == 10) = true := beq_iff_eq.mpr bh
       have cP : (((qAH ((qAy l0_2 aA).f1.f2) aC).f0) != 10) = false := bn bh
       clear bh
       obtain ⟨cH, H⟩ := gd H
       have bp := am cH
       clear cH
       obtain ⟨cC, aw⟩ : ∃ y_ : List (S104), y_ = (aQ ++ [(⟨aA, aC, 2, (⟨#[]⟩ : ByteArray), (⟨#[]⟩ : ByteArray)⟩ : S104)]) := ⟨_, rfl⟩
       replace H : (qA3.l1 ah cC aA l0_2 (l0_2.length : Int) aA ((qAy l0_2 aA).f1.f2) (((qAy l0_2 aA).f1.f2).length : Int) (wrap64 (aC + 1))) = some r := by (rw [aw]; with_reducible exact H)
       have br := am aw
       clear aw
       have H' := am H
       clear H
       go_wp2_with ((with_reducible refine qBG (b := .append) (xs := #[.tmp 38, .tmp 42]) rfl ?_); at_builtin; refine Kd.R_append k104 (w0 := w) w.heap.size rfl (.tmp 38) (.tmp 42) 31 104 (.agg #[(.int .i64 0), (.int .i64 0), (.int .i64 0), (.string ⟨#[]⟩), (.string ⟨#[]⟩)]) 56 rfl Tryz.underlying31 info104 rfl (by decide) (by omega) u3 aQ (⟨aA, aC, 2, (⟨#[]⟩ : ByteArray), (⟨#[]⟩ : ByteArray)⟩ : S104) [.int .i64 aA, .int .i64 aC, .int .i64 2, .string ⟨#[]⟩, .string ⟨#[]⟩] (fun _ => True) (fun _ => False) rfl rfl ?aP (fun _ hk => hk.elim) ?aF ?aO ?aB ?aS ?aL ?_; (case aP => exact k104_mkM _ _ _ (⟨aA, aC, 2, (⟨#[]⟩ : ByteArray), (⟨#[]⟩ : ByteArray)⟩ : S104)); (case aB => exact HB.o); (case aF => exact (fun _ _ => trivial)); (case aO => exact aM.o); (case aS => exact (qA5 HB.o)); (case aL => have := bp.o; omega); intro cS cY ho hb hg cN; rw [← br.o] at ho; have n_ := a2 (qBr (g := aU) (o := .cells #[.string a0_0, .slice ab l0_1.length ad, .slice (some ak) l0_2.length ae, .slice ac l0_3.length af] 33 (0, 0)) aD.o hg (Kd.R_ne aM.o aD.o (by decide))) (a2 (qBr (g := aI) (o := .cells #[.string ((qAy l0_2 aA).f0), .slice aR ((qAy l0_2 aA).f1.f0.f0).length aT, .int .i64 ((qAy l0_2 aA).f1.f0.f1), .slice aV ((qAy l0_2 aA).f1.f1).length aW, .slice (some ar) ((qAy l0_2 aA).f1.f2).length aa] 92 (0, 0)) aE.o hg (Kd.R_ne aM.o aE.o (by decide))) (a2 (hb) (am (ho)))); clear aD aE aK HB aM; obtain ⟨aD, aE, HB, bk⟩ := n_; clear ho hb hg cN)
       go_roundg ah
       case measure => have := ax.o; have := ay.o; have := an.o; omega
       case rel => exact ⟨(cC), (wrap64 (aC + 1)), (by rfl), H', ⟨by have := ax.o; have := ay.o; have := an.o; omega⟩, ⟨by exact bk.o⟩, ⟨by exact aD.o⟩, ⟨by exact aE.o⟩, ⟨by exact HB.o⟩⟩
def qA7.l0 : Nat → List ByteArray → ByteArray → Int → Int → Option (Int)
 | 0, _, _, _, _ => none
 | k + 1, x0, x1, x7, x8 => if x8 < x7 then (if 0 ≤ x8 then (if x8 < (x0.length : Int) then (if x1.toList = (rdOf ByteArray.empty x0 x8).toList then (some x8) else (qA7.l0 k x0 x1 x7 (wrap64 (x8 + 1)))) else (none)) else (none)) else (some (-1))
def qA7.f (k : Nat) (l0 : List ByteArray) (a1 : ByteArray) : Option (Int) := qA7.l0 k l0 a1 (l0.length : Int) 0
theorem qA7.calls (k : Nat) (A0 : Option Addr) (c0 : Nat) (l0 : List ByteArray) (a1 : ByteArray) (r : Int) (w : World) (hr0 : Kd.C Kd.string w A0 l0.length l0) (hc0 : l0.length ≤ c0) (h : qA7.f k l0 a1 = some r) :
  Calls Tryz.prog 146 #[.slice A0 l0.length c0, .string a1] w fun e w' => e = .returned (.int .i64 r) ∧ qAZ w w' := by
 have aJ := am hr0
 clear hr0 hc0
 have H : (qA7.l0 k l0 a1 (l0.length : Int) 0) = some r := h
 clear h
 have H' := am H
 clear H
 go_enter Tryz.func146, Tryz.ntmps146
 go_wp2
 go_loopg [8] k (fun kq v8 w' => ∃ (aA : Int), v8 = .int .i64 aA ∧ qAe (qA7.l0 kq l0 a1 (l0.length : Int) aA = some r) ∧ qAe (kq ≤ k) ∧ qAZ w w')
 case atStart => exact ⟨(0), (by rfl), H', ⟨Nat.le_refl _⟩, by exact qAZ.refl _⟩
 case round =>
  clear H'
  obtain ⟨aA, rfl, HA, aI, ⟨m1, rfl⟩⟩ := hrel
  cases gk with
  | zero => exact absurd HA.o (by simp [qA7.l0])
  | succ k1 =>
   have H := HA.o
   clear HA
   simp only [qA7.l0] at H
   by_cases c3 : aA < (l0.length : Int)
   rotate_left
   ·rw [if_neg c3] at H
    replace c3 := d0 c3
    obtain rfl := Option.some.inj H
    go_wp2
    go_ret
    exact ⟨by rfl, by repeat (first | exact qAZ.refl _ | apply qAZ.step)⟩
   rw [if_pos c3] at H
   replace c3 := d1 c3
   obtain ⟨c4, H⟩ := gd H
   replace c4 := d1 c4
   obtain ⟨c5, H⟩ := gd H
   replace c5 := d1 c5
   by_cases c6 : a1.toList = (rdOf ByteArray.empty l0 aA).toList
   ·rw [if_pos c6] at H
    have aH : (a1.toList == (rdOf ByteArray.empty l0 aA).toList) = true := beq_iff_eq.mpr c6
    clear c6
    obtain rfl := Option.some.inj H
    have aB : 0 ≤ aA := od (by assumption)
    have aC : aA < (l0.length : Int) := od (by assumption)
    obtain ⟨aF, aE, aD⟩ := Kd.at_string aJ.o aA aB aC
    cases aE
    replace aB := eq_true aB
    replace aC := eq_true aC
    go_wp2
    go_ret
    exact ⟨by rfl, by repeat (first | exact qAZ.refl _ | apply qAZ.step)⟩
   rw [if_neg c6] at H
   have aH : (a1.toList == (rdOf ByteArray.empty l0 aA).toList) = false := bf c6
   have H' := am H
   clear H
   have aB : 0 ≤ aA := od (by assumption)
   have aC : aA < (l0.length : Int) := od (by assumption)
   obtain ⟨aF, aE, aD⟩ := Kd.at_string aJ.o aA aB aC
   cases aE
   replace aB := eq_true aB
   replace aC := eq_true aC
   go_wp2
   go_roundg k1
   case measure => have := aI.o; omega
   case rel => exact ⟨(wrap64 (aA + 1)), (by rfl), H', ⟨by have := aI.o; omega⟩, by repeat (first | exact qAZ.refl _ | apply qAZ.step)⟩
def qAN.f (k : Nat) (l0 : List ByteArray) (a1 : ByteArray) : Option (Bool) := (qA7.f k l0 a1).bind fun aA => (some (decide (aA ≥ 0)))
theorem qAN.calls (k : Nat) (A0 : Option Addr) (c0 : Nat) (l0 : List ByteArray) (a1 : ByteArray) (r : Bool) (w : World) (hr0 : Kd.C Kd.string w A0 l0.length l0) (hc0 : l0.length ≤ c0) (h : qAN.f k l0 a1 = some r) :
  Calls Tryz.prog 92 #[.slice A0 l0.length c0, .string a1] w fun e w' => e = .returned (.bool r) ∧ qAZ w w' := by
 have aD := am hr0
 have aC := am hc0
 clear hr0 hc0
 have H : ((qA7.f k l0 a1).bind fun aA => (some (decide (aA ≥ 0)))) = some r := h
 clear h
 replace H := bm H
 obtain ⟨aA, aB, H⟩ := H
 replace H : (some (decide (aA ≥ 0))) = some r := H
 have A3 := am aB
 clear aB
 obtain rfl := Option.some.inj H
 go_enter Tryz.func92, Tryz.ntmps92
 go_wp2_with ((with_reducible refine qAk (f := 146) rfl ?_); refine gL 7 Tryz.func146 #[.slice A0 l0.length c0, .string a1] ?_; (with_reducible refine (qA7.calls k _ _ l0 a1 aA _ ?side1 ?side2 A3.o).mono ?_); (case side1 => exact aD.o); (case side2 => exact aC.o); rintro e w' ⟨rfl, ⟨nd, rfl⟩⟩; refine ⟨_, rfl, ?_⟩)
 go_ret
 exact ⟨by rfl, by repeat (first | exact qAZ.refl _ | apply qAZ.step)⟩
end Q
end
section
namespace Q
open Go.RowKit PA PC PB
theorem qBD {i : Int} {n : Nat} (h0 : 0 ≤ i) (h : i < n) (hn : n ≤ 4611686018427387904) : wrap64 (i + 1) = i + 1 := by unfold wrap64; omega
theorem qBg {α : Type} (l : List α) (d : α) (i : Int) (h0 : 0 ≤ i) (h : i < l.length) : l.drop i.toNat = l.getD i.toNat d :: l.drop (i + 1).toNat := by
 rw [show (i + 1).toNat = i.toNat + 1 from by omega, List.drop_eq_getElem_cons (by omega), List.getD_eq_getElem?_getD, List.getElem?_eq_getElem (by omega)]; rfl
def hasB (l : List ByteArray) (s : ByteArray) : Bool := l.any fun x => s.toList == x.toList
theorem index_ev (l : List ByteArray) (s : ByteArray) (hl : l.length ≤ 4611686018427387904) : ∀ (d : Nat) (i : Int), 0 ≤ i → (l.length : Int) - i = d →
  ∃ r, Ev (fun k => qA7.l0 k l s (l.length : Int) i) r ∧ (0 ≤ r ↔ hasB (l.drop i.toNat) s = true) := by
 intro d
 induction d with
 | zero =>
  intro i h0 hd
  refine ⟨-1, Ev.step (f := fun _ => some (-1)) (fun k => ?_) (Ev.now _), ?_⟩
  ·simp only [qA7.l0]; rw [if_neg (by omega)]
  rw [List.drop_eq_nil_of_le (by omega)]; simp [hasB]
 | succ d ih =>
  intro i h0 hd
  have hc := qBg l ByteArray.empty i h0 (by omega)
  by_cases he : s.toList = (rdOf ByteArray.empty l i).toList
  ·refine ⟨i, Ev.step (f := fun _ => some i) (fun k => ?_) (Ev.now _), ?_⟩
   ·simp only [qA7.l0]; rw [if_pos (by omega), if_pos h0, if_pos (by omega), if_pos he]
   rw [hc]
   simp [hasB, h0]
   exact .inl he
  obtain ⟨r, hr, hq⟩ := ih (i + 1) (by omega) (by omega)
  refine ⟨r, Ev.step (f := fun k => qA7.l0 k l s (l.length : Int) (i + 1)) (fun k => ?_) hr, ?_⟩
  ·simp only [qA7.l0]; rw [if_pos (by omega), if_pos h0, if_pos (by omega), if_neg he, qBD (n := l.length) h0 (by omega) hl]
  rw [hq, hc]
  have he' : (s.toList == (l.getD i.toNat ByteArray.empty).toList) = false := beq_eq_false_iff_ne.mpr he
  simp only [hasB, List.any_cons, he', Bool.false_or]
theorem qDM (l : List ByteArray) (s : ByteArray) (hl : l.length ≤ 4611686018427387904) : Ev (fun k => qAN.f k l s) (hasB l s) := by
 obtain ⟨r, hr, hq⟩ := index_ev l s hl l.length 0 (by omega) (by omega)
 have : hasB l s = decide (r ≥ 0) := by
  rw [show l.drop (0 : Int).toNat = l from rfl] at hq
  cases h : hasB l s with
  | true => exact (decide_eq_true (hq.2 h)).symm
  | false => exact (decide_eq_false (fun hh => by have := hq.1 hh; rw [h] at this; cases this)).symm
 rw [this]
 exact Ev.congr (f := fun k => (qA7.l0 k l s (l.length : Int) 0).bind fun t => some (decide (t ≥ 0))) (fun k => rfl) (Ev.bind hr (Ev.now _))
def qC6 (f i : Int) (x : S144) : List S104 := if x.f0 = 4 ∨ x.f0 = 5 then [⟨f, i, 1, ⟨#[]⟩, ⟨#[]⟩⟩] else if x.f0 = 10 then [⟨f, i, 2, ⟨#[]⟩, ⟨#[]⟩⟩] else []
def qDu (f : Int) : Int → List S144 → List S104
 | _, [] => []
 | i, x :: xs => qC6 f i x ++ qDu f (i + 1) xs
def fnsP : Int → List S92 → List S104
 | _, [] => []
 | i, x :: xs => qDu i 0 x.f1.f2 ++ fnsP (i + 1) xs
def qB9 (fns : List S92) : List S104 := fnsP 0 fns
theorem qFt (f i : Int) (x : S144) : (qC6 f i x).length ≤ 1 := by unfold qC6; (repeat' split) <;> simp
theorem qFp (f : Int) : ∀ (l : List S144) (i : Int), (qDu f i l).length ≤ l.length
 | [], _ => Nat.le_refl _
 | x :: xs, i => by
  have := qFp f xs (i + 1)
  have := qFt f i x
  simp only [qDu, List.length_append, List.length_cons]; omega
theorem fnsP_len : ∀ (l : List S92) (i : Int), (∀ x ∈ l, x.f1.f2.length ≤ 4096) → (fnsP i l).length ≤ l.length * 4096
 | [], _, _ => Nat.zero_le _
 | x :: xs, i, h => by
  have h1 := fnsP_len xs (i + 1) fun y hy => h y (List.mem_cons_of_mem _ hy)
  have h2 := qFp i x.f1.f2 0
  have h3 := h x List.mem_cons_self
  simp only [fnsP, List.length_append, List.length_cons]; omega
theorem code_ev (f : Int) (x9 : List S92) (x10 : Int) (l : List S144) (hl : l.length ≤ 4096) (r : List S104) : ∀ (d : Nat) (i : Int) (acc : List S104), 0 ≤ i → (l.length : Int) - i = d → acc.length + d < 2513169434916 →
  Ev (fun k => qA3.l0 k (acc ++ qDu f i (l.drop i.toNat)) x9 x10 (wrap64 (f + 1))) r → Ev (fun k => qA3.l1 k acc f x9 x10 f l (l.length : Int) i) r := by
 intro d
 induction d with
 | zero =>
  intro i acc h0 hd ha h
  rw [List.drop_eq_nil_of_le (by omega)] at h
  simp only [qDu, List.append_nil] at h
  refine Ev.step (fun k => ?_) h
  simp only [qA3.l1]; rw [if_neg (by omega)]
 | succ d ih =>
  intro i acc h0 hd ha h
  have hc := qBg l z144 i h0 (by omega)
  have hx : qAH l i = l.getD i.toNat z144 := rfl
  rw [hc, ← hx] at h
  simp only [qDu] at h
  rw [← List.append_assoc] at h
  have hw := qBD (n := l.length) h0 (by omega) (by omega)
  have hrec := ih (i + 1) (acc ++ qC6 f i (qAH l i)) (by omega) (by omega) (by have := qFt f i (qAH l i); rw [List.length_append]; omega) h
  by_cases h4 : (qAH l i).f0 = 4
  ·refine Ev.step (f := fun k => qA3.j2 k acc f i x9 x10 f l (l.length : Int) i (qAH l i).f0 ((qAH l i).f0 == 4)) (fun k => ?_) (Ev.step (fun k => ?_) hrec)
   ·simp only [qA3.l1]; rw [if_pos (by omega), if_pos h0, if_pos (by omega), if_pos h4]
   simp only [qA3.j2]; rw [if_pos (beq_iff_eq.mpr h4), if_pos (by omega), hw, show qC6 f i (qAH l i) = [⟨f, i, 1, ⟨#[]⟩, ⟨#[]⟩⟩] from if_pos (.inl h4)]
  by_cases h5 : (qAH l i).f0 = 5
  ·refine Ev.step (f := fun k => qA3.j2 k acc f i x9 x10 f l (l.length : Int) i (qAH l i).f0 ((qAH l i).f0 == 5)) (fun k => ?_) (Ev.step (fun k => ?_) hrec)
   ·simp only [qA3.l1]; rw [if_pos (by omega), if_pos h0, if_pos (by omega), if_neg h4]
   simp only [qA3.j2]; rw [if_pos (beq_iff_eq.mpr h5), if_pos (by omega), hw, show qC6 f i (qAH l i) = [⟨f, i, 1, ⟨#[]⟩, ⟨#[]⟩⟩] from if_pos (.inr h5)]
  have hno : ¬ ((qAH l i).f0 = 4 ∨ (qAH l i).f0 = 5) := by omega
  have hb : ¬ ((qAH l i).f0 == 5) = true := by simp [h5]
  by_cases h10 : (qAH l i).f0 = 10
  rotate_left
  ·refine Ev.step (f := fun k => qA3.j2 k acc f i x9 x10 f l (l.length : Int) i (qAH l i).f0 ((qAH l i).f0 == 5)) (fun k => ?_) (Ev.step (fun k => ?_) hrec)
   ·simp only [qA3.l1]; rw [if_pos (by omega), if_pos h0, if_pos (by omega), if_neg h4]
   simp only [qA3.j2]; rw [if_neg hb, if_neg h10, hw, show qC6 f i (qAH l i) = [] from (if_neg hno).trans (if_neg h10), List.append_nil]
  refine Ev.step (f := fun k => qA3.j2 k acc f i x9 x10 f l (l.length : Int) i (qAH l i).f0 ((qAH l i).f0 == 5)) (fun k => ?_) (Ev.step (fun k => ?_) hrec)
  ·simp only [qA3.l1]; rw [if_pos (by omega), if_pos h0, if_pos (by omega), if_neg h4]
  simp only [qA3.j2]; rw [if_neg hb, if_pos h10, if_pos (by omega), hw, show qC6 f i (qAH l i) = [⟨f, i, 2, ⟨#[]⟩, ⟨#[]⟩⟩] from (if_neg hno).trans (if_pos h10)]
theorem fns_ev (fns : List S92) (hl : fns.length ≤ 64) (h4 : ∀ x ∈ fns, x.f1.f2.length ≤ 4096) : ∀ (d : Nat) (i : Int) (acc : List S104), 0 ≤ i → (fns.length : Int) - i = d → acc.length + d * 4096 < 2513169434916 →
  Ev (fun k => qA3.l0 k acc fns (fns.length : Int) i) (acc ++ fnsP i (fns.drop i.toNat)) := by
 intro d
 induction d with
 | zero =>
  intro i acc h0 hd ha
  rw [List.drop_eq_nil_of_le (by omega)]
  simp only [fnsP, List.append_nil]
  refine Ev.step (f := fun _ => some acc) (fun k => ?_) (Ev.now _)
  simp only [qA3.l0]; rw [if_neg (by omega)]
 | succ d ih =>
  intro i acc h0 hd ha
  have hc := qBg fns z92 i h0 (by omega)
  have hx : qAy fns i = fns.getD i.toNat z92 := rfl
  rw [hc, ← hx]
  simp only [fnsP]
  rw [← List.append_assoc]
  have hw := qBD (n := fns.length) h0 (by omega) (by omega)
  have hm : qAy fns i ∈ fns := by
   have : i.toNat < fns.length := by omega
   rw [hx, List.getD_eq_getElem?_getD, List.getElem?_eq_getElem this]; exact List.getElem_mem _
  have h4' := h4 _ hm
  have hlen := qFp i (qAy fns i).f1.f2 0
  refine Ev.step (f := fun k => qA3.l1 k acc i fns (fns.length : Int) i (qAy fns i).f1.f2 ((qAy fns i).f1.f2.length : Int) 0) (fun k => ?_) (code_ev i fns _ _ h4' _ (qAy fns i).f1.f2.length 0 acc (by omega) (by omega) (by omega) ?_)
  ·simp only [qA3.l0]; rw [if_pos (by omega), if_pos h0, if_pos (by omega)]
  rw [hw]
  exact ih (i + 1) _ (by omega) (by omega) (by rw [List.length_append]; simp only [show ((0 : Int).toNat) = 0 from rfl, List.drop_zero]; omega)
theorem places_ev (a : ByteArray) (l1 : List S85) (fns : List S92) (l3 : List S104) (hl : fns.length ≤ 64) (h4 : ∀ x ∈ fns, x.f1.f2.length ≤ 4096) : Ev (fun k => qA3.f k a l1 fns l3) (qB9 fns) :=
 fns_ev fns hl h4 fns.length 0 [] (by omega) (by omega) (by simp; omega)
theorem placeOf_in {f i : Int} {x : S144} {p : S104} (h : p ∈ qC6 f i x) : p.f0 = f ∧ p.f1 = i := by
 unfold qC6 at h
 (repeat' split at h) <;> simp at h <;> subst h <;> exact ⟨rfl, rfl⟩
theorem codeP_in (f : Int) : ∀ (l : List S144) (i : Int) (p : S104), p ∈ qDu f i l → p.f0 = f ∧ i ≤ p.f1 ∧ p.f1 < i + l.length
 | [], _, _, h => by simp [qDu] at h
 | x :: xs, i, p, h => by
  simp only [qDu, List.mem_append] at h
  rcases h with h | h
  ·obtain ⟨h1, h2⟩ := placeOf_in h
   exact ⟨h1, by omega, by simp only [List.length_cons]; omega⟩
  obtain ⟨h1, h2, h3⟩ := codeP_in f xs (i + 1) p h
  exact ⟨h1, by omega, by simp only [List.length_cons]; omega⟩
theorem fnsP_in : ∀ (l : List S92) (i : Int) (p : S104), p ∈ fnsP i l → ∃ (j : Nat) (x : S92), l[j]? = some x ∧ p.f0 = i + j ∧ 0 ≤ p.f1 ∧ p.f1 < x.f1.f2.length
 | [], _, _, h => by simp [fnsP] at h
 | x :: xs, i, p, h => by
  simp only [fnsP, List.mem_append] at h
  rcases h with h | h
  ·obtain ⟨h1, h2, h3⟩ := codeP_in i _ 0 p h
   exact ⟨0, x, rfl, by simpa using h1, h2, by omega⟩
  obtain ⟨j, y, hj, h1, h2, h3⟩ := fnsP_in xs (i + 1) p h
  exact ⟨j + 1, y, by simpa using hj, by omega, h2, h3⟩
end Q
end
section
namespace Q
open Go.RowKit PA PC PB
open Val Ins
def qB6 : List S104 → Int
 | [] => 0
 | r :: rs => if Names.nameE r.f3 ≠ 0 then Names.nameE r.f3 else if Names.nameE r.f4 ≠ 0 then Names.nameE r.f4 else qB6 rs
def qCB (m : ByteArray) (vs fs : List ByteArray) (r : S104) : Bool :=
 if r.f3.toList = m.toList then (if r.f2 = 1 then !hasB vs r.f4 else if r.f2 = 2 then !hasB fs r.f4 else false) else decide (r.f2 = 1)
def qDg (m : ByteArray) (fns : List S92) (rs : List S104) (vs fs : List ByteArray) : Int :=
 if qBU rs (qB9 fns) = false then 52 else if ((qB9 fns).any fun p => qCA fns p != 0) = true then 52
 else if qB6 rs ≠ 0 then qB6 rs else if rs.any (qCB m vs fs) = true then 52 else 0
theorem relNames_step (l : List S104) (k : Nat) (x : S104) (hx : l[k]? = some x) (h : Names.nameE x.f3 = 0) (h2 : Names.nameE x.f4 = 0) : qB6 (l.drop k) = qB6 (l.drop (k + 1)) := by
 obtain ⟨hk, he⟩ := List.getElem?_eq_some_iff.1 hx
 rw [List.drop_eq_getElem_cons hk, he]
 simp only [qB6, h, h2, ne_eq, not_true_eq_false, if_false]
theorem relNames_hit1 (l : List S104) (k : Nat) (x : S104) (hx : l[k]? = some x) (h : Names.nameE x.f3 ≠ 0) : qB6 (l.drop k) = Names.nameE x.f3 := by
 obtain ⟨hk, he⟩ := List.getElem?_eq_some_iff.1 hx
 rw [List.drop_eq_getElem_cons hk, he]
 simp only [qB6]; rw [if_pos h]
theorem relNames_hit2 (l : List S104) (k : Nat) (x : S104) (hx : l[k]? = some x) (h : Names.nameE x.f3 = 0) (h2 : Names.nameE x.f4 ≠ 0) : qB6 (l.drop k) = Names.nameE x.f4 := by
 obtain ⟨hk, he⟩ := List.getElem?_eq_some_iff.1 hx
 rw [List.drop_eq_getElem_cons hk, he]
 simp only [qB6]; rw [if_neg (by simp [h]), if_pos h2]
theorem relNames_end (l : List S104) (k : Nat) (hk : l.length ≤ k) : qB6 (l.drop k) = 0 := by rw [List.drop_eq_nil_of_le hk]; rfl
theorem rd_in {α : Type} (l : List α) (d : α) (j : Nat) (x : α) (h : l[j]? = some x) : l.getD j d = x := by rw [List.getD_eq_getElem?_getD, h]; rfl
theorem placesL_in (fns : List S92) : ∀ p ∈ qB9 fns, placeIn fns p := by
 intro p hp
 obtain ⟨j, x, hj, h1, h2, h3⟩ := fnsP_in fns 0 p hp
 have hr : qAy fns p.f0 = x := by
  unfold qAy
  rw [show p.f0.toNat = j from by omega]; exact rd_in _ _ _ _ hj
 exact ⟨by omega, by have := (List.getElem?_eq_some_iff.1 hj).1; omega, h2, by rw [hr]; exact h3⟩
def qBN.f (a0_0 : ByteArray) (_l0_1 : List (S85)) (l0_2 : List (S92)) (l0_3 : List (S104)) (l1 : List ByteArray) (l2 : List ByteArray) : Option (Int) :=
 if l0_2.length ≤ 64 ∧ (∀ x ∈ l0_2, x.f1.f2.length ≤ 4096) ∧ l0_3.length ≤ 4611686018427387904 ∧ (∀ r ∈ l0_3, r.f3.size ≤ 140737488351232 ∧ r.f4.size ≤ 140737488351232) ∧ l1.length ≤ 4611686018427387904 ∧ l2.length ≤ 4611686018427387904
 then some (qDg a0_0 l0_2 l0_3 l1 l2) else none
theorem qBN.calls (a0_0 : ByteArray) (A0_1 : Option Addr) (c0_1 : Nat) (l0_1 : List (S85)) (A0_2 : Option Addr) (c0_2 : Nat) (l0_2 : List (S92)) (A0_3 : Option Addr) (c0_3 : Nat) (l0_3 : List (S104)) (A1 : Option Addr) (c1 : Nat) (l1 : List ByteArray) (A2 : Option Addr) (c2 : Nat) (l2 : List ByteArray) (r : Int) (w : World) (hr0_1 : Kd.C k85 w A0_1 l0_1.length l0_1) (hc0_1 : l0_1.length ≤ c0_1) (hr0_2 : Kd.C k92 w A0_2 l0_2.length l0_2) (hc0_2 : l0_2.length ≤ c0_2) (hr0_3 : Kd.C k104 w A0_3 l0_3.length l0_3) (hc0_3 : l0_3.length ≤ c0_3) (hr1 : Kd.C Kd.string w A1 l1.length l1) (hc1 : l1.length ≤ c1) (hr2 : Kd.C Kd.string w A2 l2.length l2) (hc2 : l2.length ≤ c2) (h : qBN.f a0_0 l0_1 l0_2 l0_3 l1 l2 = some r) :
  Calls Tryz.prog 34 #[.agg #[.string a0_0, .slice A0_1 l0_1.length c0_1, .slice A0_2 l0_2.length c0_2, .slice A0_3 l0_3.length c0_3], .slice A1 l1.length c1, .slice A2 l2.length c2] w fun e w' => e = .returned (.int .i64 r) ∧ Below w.heap.size w w' := by
 unfold qBN.f at h
 split at h
 case isFalse => cases h
 rename_i hs
 obtain ⟨hf64, hf4, hr62, hrs, hv62, hfl62⟩ := hs
 replace h := Option.some.inj h
 obtain ⟨kp, hkp⟩ := (places_ev a0_0 l0_1 l0_2 l0_3 hf64 hf4).rounds
 have hpl : (qB9 l0_2).length ≤ 4611686018427387904 := by have := fnsP_len l0_2 0 hf4; unfold qB9; omega
 obtain ⟨cs, hcs⟩ : ∃ cs : Array Value, cs = #[.string a0_0, .slice A0_1 l0_1.length c0_1, .slice A0_2 l0_2.length c0_2, .slice A0_3 l0_3.length c0_3] := ⟨_, rfl⟩
 obtain ⟨WA, hWA⟩ : ∃ WA, WA = w.alloc (.cells cs 33) := ⟨_, rfl⟩
 have hBA : Below w.heap.size w WA := hWA ▸ (Below.refl _ _).alloc (Nat.le_refl _) _
 have hgA : w.heap.size < WA.heap.size := by rw [hWA]; simp
 have k0 : WA.cell? ⟨w.heap.size, 0, none⟩ = some (.string a0_0) := by rw [hWA, World.cell?_alloc_at _ _ _ _ rfl, hcs]; rfl
 have k2 : WA.cell? ⟨w.heap.size, 2, none⟩ = some (.slice A0_2 l0_2.length c0_2) := by rw [hWA, World.cell?_alloc_at _ _ _ _ rfl, hcs]; rfl
 have k1 : WA.cell? ⟨w.heap.size, 1, none⟩ = some (.slice A0_1 l0_1.length c0_1) := by rw [hWA, World.cell?_alloc_at _ _ _ _ rfl, hcs]; rfl
 have k3 : WA.cell? ⟨w.heap.size, 3, none⟩ = some (.slice A0_3 l0_3.length c0_3) := by rw [hWA, World.cell?_alloc_at _ _ _ _ rfl, hcs]; rfl
 have HK0 := am k0
 have HK2 := am k2
 have HK3 := am k3
 have HP : qAe (Calls Tryz.prog 101 #[.agg #[.string a0_0, .slice A0_1 l0_1.length c0_1, .slice A0_2 l0_2.length c0_2, .slice A0_3 l0_3.length c0_3]] WA fun e w' => ∃ v0_ : Value, e = .returned (v0_) ∧ Kd.R k104 104 w' WA.heap.size (fun _ => True) v0_ (qB9 l0_2) ∧ Below WA.heap.size WA w') :=
  ⟨qA3.calls kp a0_0 A0_1 c0_1 l0_1 A0_2 c0_2 l0_2 A0_3 c0_3 l0_3 _ WA (Kd.C_below hr0_1 hBA) hc0_1 (Kd.C_below hr0_2 hBA) hc0_2 (Kd.C_below hr0_3 hBA) hc0_3 hkp⟩
 have HF : qAe (∀ (A : Option Addr) (c : Nat) W, Below WA.heap.size WA W → Kd.C k104 W A (qB9 l0_2).length (qB9 l0_2) → Calls Tryz.prog 103 #[.slice A0_3 l0_3.length c0_3, .slice A (qB9 l0_2).length c, .func (.func 102) #[] #[]] W fun e w' => e = .returned (.bool (qBU l0_3 (qB9 l0_2))) ∧ Below W.heap.size W w') :=
  ⟨fun A c W hW hC => eqf_any A0_3 A c0_3 c l0_3 (qB9 l0_2) W (Kd.C_below hr0_3 (qA0 hBA hBA.size hW)) hC hr62⟩
 have HG : qAe (∀ (A : Option Addr) (c : Nat) W, Below WA.heap.size WA W → Kd.C k104 W A (qB9 l0_2).length (qB9 l0_2) → Calls Tryz.prog 104 #[.slice A (qB9 l0_2).length c, .func (.func 105) #[] #[.pointer (some ⟨w.heap.size, 0, none⟩)]] W fun e w' => e = .returned (.bool ((qB9 l0_2).any fun x => qCA l0_2 x != 0)) ∧ Below W.heap.size W w') :=
  ⟨fun A c W hW hC => has_places w.heap.size l0_2 A0_2 c0_2 A c (qB9 l0_2) W ((hW.cell (p := ⟨w.heap.size, 2, none⟩) hgA).trans k2) (Kd.C_below hr0_2 (qA0 hBA hBA.size hW)) hC hpl (placesL_in l0_2)⟩
 have HRL : qAe (Kd.C k104 WA A0_3 l0_3.length l0_3) := ⟨Kd.C_below hr0_3 hBA⟩
 have HV : qAe (∀ (s : ByteArray) W, Below WA.heap.size WA W → Calls Tryz.prog 92 #[.slice A1 l1.length c1, .string s] W fun e w' => e = .returned (.bool (hasB l1 s)) ∧ qAZ W w') := ⟨fun s W hW => by
   obtain ⟨k, hk⟩ := (qDM l1 s hv62).rounds
   exact qAN.calls k A1 c1 l1 s _ W (Kd.C_below hr1 (qA0 hBA hBA.size hW)) hc1 hk⟩
 have HW : qAe (∀ (s : ByteArray) W, Below WA.heap.size WA W → Calls Tryz.prog 92 #[.slice A2 l2.length c2, .string s] W fun e w' => e = .returned (.bool (hasB l2 s)) ∧ qAZ W w') := ⟨fun s W hW => by
   obtain ⟨k, hk⟩ := (qDM l2 s hfl62).rounds
   exact qAN.calls k A2 c2 l2 s _ W (Kd.C_below hr2 (qA0 hBA hBA.size hW)) hc2 hk⟩
 have HN : qAe (∀ (s : ByteArray) W, s.size ≤ 140737488351232 → Calls Tryz.prog 30 #[.string s] W fun e w' => e = .returned (.int .i64 (Names.nameE s)) ∧ qAZ W w') := ⟨fun s W hs => qB2.calls s _ W (by unfold qB2.f; rw [if_pos hs])⟩
 have HRS := am hrs
 have HWA := am hWA
 obtain ⟨ne, hne⟩ : ∃ n, n = l0_3.length := ⟨_, rfl⟩
 obtain ⟨n1, hn1⟩ : ∃ n, n = l0_1.length := ⟨_, rfl⟩
 obtain ⟨n2, hn2⟩ : ∃ n, n = l0_2.length := ⟨_, rfl⟩
 obtain ⟨m1, hm1⟩ : ∃ n, n = l1.length := ⟨_, rfl⟩
 obtain ⟨m2, hm2⟩ : ∃ n, n = l2.length := ⟨_, rfl⟩
 obtain ⟨np, hnp⟩ : ∃ n, n = (qB9 l0_2).length := ⟨_, rfl⟩
 rw [← hne, ← hn1, ← hn2] at hcs HP
 rw [← hne] at HF HRL k3 HK3
 rw [← hnp] at HF HG
 rw [← hn2] at k2 HK2
 rw [← hn1] at k1
 rw [← hm1] at HV
 rw [← hm2] at HW
 rw [← hne, ← hn1, ← hn2, ← hm1, ← hm2]
 have HNE := am hne
 have HNP := am hnp
 have HBA := am hBA
 have HH := am h
 have hr62' : ne ≤ 4611686018427387904 := by omega
 clear hr0_1 hc0_1 hr0_2 hc0_2 hr0_3 hc0_3 hr1 hc1 hr2 hc2 hf64 hf4 hr62 hrs hv62 hfl62 hkp hpl hne hn1 hn2 hm1 hm2 hnp hBA h
 subst hcs
 clear hWA
 go_enter Tryz.func34, Tryz.ntmps34
 go_wp2_with fail
 rw [← HWA.out]
 go_wp2_with fail
 refine HP.out.mono ?_
 rintro e w1 ⟨v0, rfl, hR, hb1⟩
 obtain ⟨AP, cP, rfl⟩ := Kd.R_slice hR
 have HRP := am (Kd.R_reads hR)
 have HB1 := am hb1
 obtain ⟨AP', cP', hv, _, hC⟩ := Kd.R_reads hR
 injection hv with hv1 _ hv2
 subst hv1; subst hv2
 rw [← HNP.out] at hC ⊢
 have HC := am hC
 have q0 := (hb1.cell (p := ⟨w.heap.size, 0, none⟩) hgA).trans HK0.out
 have q3 := (hb1.cell (p := ⟨w.heap.size, 3, none⟩) hgA).trans HK3.out
 clear hR hb1 HP k0 k1 k2 k3 hC HRP
 go_wp2_with fail
 refine (HF.out AP cP _ HB1.out HC.out).mono ?_
 rintro e w2 ⟨rfl, hb⟩
 obtain ⟨b1, hb1⟩ : ∃ b, b = qBU l0_3 (qB9 l0_2) := ⟨_, rfl⟩
 rw [← hb1]
 have HQ1 := am hb1
 have HB2 := am (qA0 HB1.out HB1.out.size hb)
 have HC2 := am (Kd.C_below HC.out hb)
 have e0 := (HB2.out.cell (p := ⟨w.heap.size, 0, none⟩) hgA).trans HK0.out
 have e3 := (HB2.out.cell (p := ⟨w.heap.size, 3, none⟩) hgA).trans HK3.out
 clear hb hb1 q0 q3 HC
 cases b1 with
 | false =>
  go_wp2
  go_ret
  refine ⟨?_, qA0 HBA.out HBA.out.size HB2.out⟩
  rw [← HH.out]; unfold qDg; rw [if_pos HQ1.out.symm]; rfl
 | true =>
 go_wp2_with fail
 refine (HG.out AP cP _ HB2.out HC2.out).mono ?_
 rintro e w3 ⟨rfl, hb⟩
 obtain ⟨b2, hb2⟩ : ∃ b, b = (qB9 l0_2).any fun x => qCA l0_2 x != 0 := ⟨_, rfl⟩
 rw [← hb2]
 have HQ2 := am hb2
 have HB3 := am (qA0 HB2.out HB2.out.size hb)
 have g0 := (HB3.out.cell (p := ⟨w.heap.size, 0, none⟩) hgA).trans HK0.out
 have g3 := (HB3.out.cell (p := ⟨w.heap.size, 3, none⟩) hgA).trans HK3.out
 clear hb hb2 e0 e3 HC2 HF HG
 cases b2 with
 | true =>
  go_wp2
  go_ret
  refine ⟨?_, qA0 HBA.out HBA.out.size HB3.out⟩
  have e1 := HQ1.out.symm; have e2 := HQ2.out.symm; rw [← HH.out]; unfold qDg; rw [e1, e2]; rfl
 | false =>
 have HH2 : qAe ((if qB6 l0_3 ≠ 0 then qB6 l0_3 else if l0_3.any (qCB a0_0 l1 l2) = true then 52 else 0) = r) := ⟨by
   have e1 := HQ1.out.symm; have e2 := HQ2.out.symm; rw [← HH.out]; unfold qDg; rw [e1, e2]; rfl⟩
 clear HH HQ1 HQ2
 go_wp2_with fail
 go_loopg [10, 11, 12, 32] ne (fun gg _ _ _ s32 wr => ∃ kk : Nat, kk ≤ ne ∧ ne - kk ≤ gg ∧ s32 = .int .i64 kk ∧ qAe (qB6 (l0_3.drop kk) = qB6 l0_3) ∧ qAe (Below WA.heap.size WA wr))
 case atStart => exact ⟨0, Nat.zero_le _, by omega, rfl, ⟨rfl⟩, HB3⟩
 case round =>
  clear g0 g3 HB1 HB2 HB3
  obtain ⟨kk, hkk, hg, rfl, HA, HB⟩ := hrel
  by_cases hlt : kk < ne
  ·have hltz : (kk : Int) < (ne : Int) := by omega
   have h0 : (0 : Int) ≤ (kk : Int) := by omega
   obtain ⟨ad, ea, hx0, hx1, hx2, hx3, hx4⟩ := qDK HRL.out (kk : Int) h0 hltz
   subst ea
   rw [Int.toNat_natCast] at hx0 hx1 hx2 hx3 hx4
   replace hx0 := (HB.out.cell (World.block_lt_of_cell? WA _ hx0)).trans hx0
   replace hx1 := (HB.out.cell (World.block_lt_of_cell? WA _ hx1)).trans hx1
   replace hx2 := (HB.out.cell (World.block_lt_of_cell? WA _ hx2)).trans hx2
   replace hx3 := (HB.out.cell (World.block_lt_of_cell? WA _ hx3)).trans hx3
   replace hx4 := (HB.out.cell (World.block_lt_of_cell? WA _ hx4)).trans hx4
   obtain ⟨x, hx⟩ : ∃ x, x = qCE l0_3 (kk : Int) := ⟨_, rfl⟩
   rw [← hx] at hx0 hx1 hx2 hx3 hx4
   have HX : qAe (l0_3[kk]? = some x) := ⟨by rw [hx]; exact qCz l0_3 z104 kk (by have := HNE.out; omega)⟩
   clear hx
   have HS := am (HRS.out x (List.mem_of_getElem? HX.out))
   have HN1 := am (fun W => HN.out x.f3 W HS.out.1)
   have HN2 := am (fun W => HN.out x.f4 W HS.out.2)
   obtain ⟨z1, hz1⟩ : ∃ z, z = Names.nameE x.f3 := ⟨_, rfl⟩
   obtain ⟨z2, hz2⟩ : ∃ z, z = Names.nameE x.f4 := ⟨_, rfl⟩
   rw [← hz1] at HN1
   rw [← hz2] at HN2
   have HZ1 := am hz1
   have HZ2 := am hz2
   clear hz1 hz2
   go_wp2_with fail
   refine (HN1.out _).mono ?_
   rintro e w4 ⟨rfl, m1, rfl⟩
   by_cases c1 : z1 = 0
   case neg =>
    have c1' : (z1 != 0) = true := bne_iff_ne.mpr c1
    have HC1 := am c1
    clear c1
    go_wp2
    go_ret
    refine ⟨?_, qA0 HBA.out HBA.out.size (qA0 HB.out HB.out.size (qCZ ((Below.refl _ _).alloc (Nat.le_refl _) _) _))⟩
    rw [← HH2.out, ← HA.out, relNames_hit1 _ _ _ HX.out (by rw [← HZ1.out]; exact HC1.out), ← HZ1.out, if_pos HC1.out]; rfl
   have c1' : (z1 != 0) = false := bne_eq_false_iff_eq.mpr c1
   have HC1 := am c1
   clear c1
   go_wp2_with fail
   refine (HN2.out _).mono ?_
   rintro e w4 ⟨rfl, m2, rfl⟩
   by_cases c2 : z2 = 0
   case neg =>
    have c2' : (z2 != 0) = true := bne_iff_ne.mpr c2
    have HC2 := am c2
    clear c2
    go_wp2
    go_ret
    refine ⟨?_, qA0 HBA.out HBA.out.size (qA0 HB.out HB.out.size (qCZ ((Below.refl _ _).alloc (Nat.le_refl _) _) _))⟩
    rw [← HH2.out, ← HA.out, relNames_hit2 _ _ _ HX.out (by rw [← HZ1.out]; exact HC1.out) (by rw [← HZ2.out]; exact HC2.out), ← HZ2.out, if_pos HC2.out]; rfl
   have c2' : (z2 != 0) = false := bne_eq_false_iff_eq.mpr c2
   have HC2 := am c2
   clear c2
   go_wp2
   go_roundg (ne - (kk + 1))
   case measure => omega
   case rel => exact ⟨kk + 1, by omega, by omega, by go_num, ⟨by rw [← HA.out, relNames_step _ _ _ HX.out (by rw [← HZ1.out]; exact HC1.out) (by rw [← HZ2.out]; exact HC2.out)]⟩, ⟨qA0 HB.out HB.out.size (qCZ ((Below.refl _ _).alloc (Nat.le_refl _) _) _)⟩⟩
  have hltz : ¬ (kk : Int) < (ne : Int) := by omega
  have hkn : kk = ne := by omega
  have hz := relNames_end l0_3 kk (by rw [hkn]; exact Nat.le_of_eq HNE.out.symm)
  have HH3 : qAe ((if l0_3.any (qCB a0_0 l1 l2) = true then 52 else 0) = r) := ⟨by
    rw [← HH2.out, ← HA.out, hz]; rfl⟩
  clear hz
  subst hkn
  obtain ⟨ne, rfl⟩ : ∃ ne, ne = kk := ⟨_, rfl⟩
  have f0 := (HB.out.cell (p := ⟨w.heap.size, 0, none⟩) hgA).trans HK0.out
  have f3 := (HB.out.cell (p := ⟨w.heap.size, 3, none⟩) hgA).trans HK3.out
  clear HA HH2
  go_wp2_with fail
  go_loopg [14, 15, 52] ne (fun gg _ _ s52 wr => ∃ k2 : Nat, k2 ≤ ne ∧ ne - k2 ≤ gg ∧ s52 = .int .i64 k2 ∧ qAe (∀ (j : Nat) x, j < k2 → l0_3[j]? = some x → qCB a0_0 l1 l2 x = false) ∧ qAe (Below WA.heap.size WA wr))
  case atStart => exact ⟨0, Nat.zero_le _, by omega, rfl, ⟨fun j x hj => absurd hj (Nat.not_lt_zero _)⟩, HB⟩
  case round =>
   clear f0 f3 HB hkk hg
   obtain ⟨kk, hkk, hg, rfl, HA, HB⟩ := hrel
   have f0 := (HB.out.cell (p := ⟨w.heap.size, 0, none⟩) hgA).trans HK0.out
   have hgr : w.heap.size < wr.heap.size := Nat.lt_of_lt_of_le hgA HB.out.size
   by_cases hlt : kk < ne
   rotate_left
   ·have hltz : ¬ (kk : Int) < (ne : Int) := by omega
    have hkn : kk = ne := by omega
    go_wp2
    go_ret
    refine ⟨?_, qA0 HBA.out HBA.out.size HB.out⟩
    rw [← HH3.out, qEU _ l0_3 fun j x hj => HA.out j x (by have := (List.getElem?_eq_some_iff.1 hj).1; have := HNE.out; omega) hj]; rfl
   have hltz : (kk : Int) < (ne : Int) := by omega
   have h0 : (0 : Int) ≤ (kk : Int) := by omega
   obtain ⟨ad, ea, hx0, hx1, hx2, hx3, hx4⟩ := qDK HRL.out (kk : Int) h0 hltz
   subst ea
   rw [Int.toNat_natCast] at hx0 hx1 hx2 hx3 hx4
   replace hx0 := (HB.out.cell (World.block_lt_of_cell? WA _ hx0)).trans hx0
   replace hx1 := (HB.out.cell (World.block_lt_of_cell? WA _ hx1)).trans hx1
   replace hx2 := (HB.out.cell (World.block_lt_of_cell? WA _ hx2)).trans hx2
   replace hx3 := (HB.out.cell (World.block_lt_of_cell? WA _ hx3)).trans hx3
   replace hx4 := (HB.out.cell (World.block_lt_of_cell? WA _ hx4)).trans hx4
   obtain ⟨x, hx⟩ : ∃ x, x = qCE l0_3 (kk : Int) := ⟨_, rfl⟩
   rw [← hx] at hx0 hx1 hx2 hx3 hx4
   have HX : qAe (l0_3[kk]? = some x) := ⟨by rw [hx]; exact qCz l0_3 z104 kk (by have := HNE.out; omega)⟩
   clear hx
   by_cases cO : x.f3.toList = a0_0.toList
   rotate_left
   ·have cO' : (x.f3.toList == a0_0.toList) = false := beq_eq_false_iff_ne.mpr cO
    have HO := am cO
    clear cO
    by_cases c1 : x.f2 = 1
    ·have c1' : (x.f2 == 1) = true := beq_iff_eq.mpr c1
     have HC1 := am c1
     clear c1
     go_wp2
     go_ret
     refine ⟨?_, qA0 HBA.out HBA.out.size (qA0 HB.out HB.out.size ((Below.refl _ _).alloc (Nat.le_refl _) _))⟩
     rw [← HH3.out, if_pos (qE3 _ _ kk _ HX.out (by unfold qCB; rw [if_neg HO.out]; exact decide_eq_true HC1.out))]; rfl
    have c1' : (x.f2 == 1) = false := beq_eq_false_iff_ne.mpr c1
    have HC1 := am c1
    clear c1
    go_wp2
    go_roundg (ne - (kk + 1))
    case measure => omega
    case rel =>
     refine ⟨kk + 1, by omega, by omega, by go_num, ⟨fun j y hj hy => ?_⟩, ⟨qA0 HB.out HB.out.size ((Below.refl _ _).alloc (Nat.le_refl _) _)⟩⟩
     by_cases e : j = kk
     rotate_left
     ·exact HA.out j y (by omega) hy
     subst e; rw [HX.out] at hy; injection hy with hy; subst hy; exact (by unfold qCB; rw [if_neg HO.out]; exact decide_eq_false HC1.out)
   have cO' : (x.f3.toList == a0_0.toList) = true := beq_iff_eq.mpr cO
   have HO := am cO
   clear cO
   by_cases c1 : x.f2 = 1
   ·have c1' : (x.f2 == 1) = true := beq_iff_eq.mpr c1
    have c2' : (x.f2 == 2) = false := beq_eq_false_iff_ne.mpr (by omega)
    have HC1 := am c1
    clear c1
    obtain ⟨b, hb⟩ : ∃ b, b = hasB l1 x.f4 := ⟨_, rfl⟩
    have HQ := am hb
    have HV1 := am (fun W hW => HV.out x.f4 W hW)
    rw [← hb] at HV1
    clear hb
    go_wp2_with fail
    refine (HV1.out _ (qA0 HB.out HB.out.size ((Below.refl _ _).alloc (Nat.le_refl _) _))).mono ?_
    rintro e w4 ⟨rfl, m1, rfl⟩
    cases b with
    | false =>
     go_wp2
     go_ret
     refine ⟨?_, qA0 HBA.out HBA.out.size (qA0 HB.out HB.out.size (qCZ ((Below.refl _ _).alloc (Nat.le_refl _) _) _))⟩
     rw [← HH3.out, if_pos (qE3 _ _ kk _ HX.out (by unfold qCB; rw [if_pos HO.out, if_pos HC1.out, ← HQ.out]; rfl))]; rfl
    | true =>
     go_wp2
     go_roundg (ne - (kk + 1))
     case measure => omega
     case rel =>
      refine ⟨kk + 1, by omega, by omega, by go_num, ⟨fun j y hj hy => ?_⟩, ⟨qA0 HB.out HB.out.size (qCZ ((Below.refl _ _).alloc (Nat.le_refl _) _) _)⟩⟩
      by_cases e : j = kk
      rotate_left
      ·exact HA.out j y (by omega) hy
      subst e; rw [HX.out] at hy; injection hy with hy; subst hy; exact (by unfold qCB; rw [if_pos HO.out, if_pos HC1.out, ← HQ.out]; rfl)
   have c1' : (x.f2 == 1) = false := beq_eq_false_iff_ne.mpr c1
   have HC1 := am c1
   clear c1
   by_cases c2 : x.f2 = 2
   rotate_left
   ·have c2' : (x.f2 == 2) = false := beq_eq_false_iff_ne.mpr c2
    have HC2 := am c2
    clear c2
    go_wp2
    go_roundg (ne - (kk + 1))
    case measure => omega
    case rel =>
     refine ⟨kk + 1, by omega, by omega, by go_num, ⟨fun j y hj hy => ?_⟩, ⟨qA0 HB.out HB.out.size ((Below.refl _ _).alloc (Nat.le_refl _) _)⟩⟩
     by_cases e : j = kk
     rotate_left
     ·exact HA.out j y (by omega) hy
     subst e; rw [HX.out] at hy; injection hy with hy; subst hy; exact (by unfold qCB; rw [if_pos HO.out, if_neg HC1.out, if_neg HC2.out])
   have c2' : (x.f2 == 2) = true := beq_iff_eq.mpr c2
   have HC2 := am c2
   clear c2
   obtain ⟨b, hb⟩ : ∃ b, b = hasB l2 x.f4 := ⟨_, rfl⟩
   have HQ := am hb
   have HW1 := am (fun W hW => HW.out x.f4 W hW)
   rw [← hb] at HW1
   clear hb
   go_wp2_with fail
   refine (HW1.out _ (qA0 HB.out HB.out.size ((Below.refl _ _).alloc (Nat.le_refl _) _))).mono ?_
   rintro e w4 ⟨rfl, m1, rfl⟩
   cases b with
   | false =>
    go_wp2
    go_ret
    refine ⟨?_, qA0 HBA.out HBA.out.size (qA0 HB.out HB.out.size (qCZ ((Below.refl _ _).alloc (Nat.le_refl _) _) _))⟩
    rw [← HH3.out, if_pos (qE3 _ _ kk _ HX.out (by unfold qCB; rw [if_pos HO.out, if_neg HC1.out, if_pos HC2.out, ← HQ.out]; rfl))]; rfl
   | true =>
    go_wp2
    go_roundg (ne - (kk + 1))
    case measure => omega
    case rel =>
     refine ⟨kk + 1, by omega, by omega, by go_num, ⟨fun j y hj hy => ?_⟩, ⟨qA0 HB.out HB.out.size (qCZ ((Below.refl _ _).alloc (Nat.le_refl _) _) _)⟩⟩
     by_cases e : j = kk
     rotate_left
     ·exact HA.out j y (by omega) hy
     subst e; rw [HX.out] at hy; injection hy with hy; subst hy; exact (by unfold qCB; rw [if_pos HO.out, if_neg HC1.out, if_pos HC2.out, ← HQ.out]; rfl)
end Q
end
section
namespace Q
open Go.RowKit PA PC PB
def qBZ.f (a0_0 : Int) (a0_1 : Int) : Option (Bool) := if 0 ≤ a0_1 ∧ a0_1 < 18446744073709551616 then some (Val.okV a0_0 a0_1) else none
theorem qBZ.calls (a0_0 : Int) (a0_1 : Int) (r : Bool) (w : World) (h : qBZ.f a0_0 a0_1 = some r) :
  Calls Tryz.prog 32 #[.agg #[.int .i64 a0_0, .int .u64 a0_1]] w fun e w' => e = .returned (.bool r) ∧ Below w.heap.size w w' := by
 unfold qBZ.f at h
 split at h
 case isFalse => cases h
 rename_i hs
 obtain rfl := Option.some.inj h
 exact Val.right_any a0_0 a0_1 hs w
def qBH.f (a0_0 : Int) (a0_1 : Int) : Option (Bool) := if 0 ≤ a0_1 ∧ a0_1 < 18446744073709551616 then some (Val.okV a0_0 a0_1) else none
theorem qBH.calls (a0_0 : Int) (a0_1 : Int) (r : Bool) (w : World) (h : qBH.f a0_0 a0_1 = some r) :
  Calls Tryz.prog 37 #[.agg #[.int .i64 a0_0, .int .u64 a0_1]] w fun e w' => e = .returned (.bool r) ∧ Below w.heap.size w w' := by
 unfold qBH.f at h
 split at h
 case isFalse => cases h
 rename_i hs
 obtain rfl := Option.some.inj h
 exact Val.rright_any a0_0 a0_1 hs w
end Q
end
section
namespace Q
open Go.RowKit PA PC PB
attribute [local go_sem] qBe min2_int qBq min_two max_three min_three max_four min_four
def qB0.f (k : Nat) (a0 : ByteArray) (l1 : List ByteArray) : Option (Int) := (qB2.f a0).bind fun aA => (if aA = 0 then ((qAN.f k l1 a0).bind fun aB => (if aB = true then (some 20) else (some 0))) else (some aA))
theorem qB0.calls (k : Nat) (a0 : ByteArray) (A1 : Option Addr) (c1 : Nat) (l1 : List ByteArray) (r : Int) (w : World) (hr1 : Kd.C Kd.string w A1 l1.length l1) (hc1 : l1.length ≤ c1) (h : qB0.f k a0 l1 = some r) :
  Calls Tryz.prog 31 #[.string a0, .slice A1 l1.length c1] w fun e w' => e = .returned (.int .i64 r) ∧ qAZ w w' := by
 have aG := am hr1
 have aF := am hc1
 clear hr1 hc1
 have H : ((qB2.f a0).bind fun aA => (if aA = 0 then ((qAN.f k l1 a0).bind fun aB => (if aB = true then (some 20) else (some 0))) else (some aA))) = some r := h
 clear h
 replace H := bm H
 obtain ⟨aA, aD, H⟩ := H
 replace H : (if aA = 0 then ((qAN.f k l1 a0).bind fun aB => (if aB = true then (some 20) else (some 0))) else (some aA)) = some r := H
 have A3 := am aD
 clear aD
 by_cases c4 : aA = 0
 ·rw [if_pos c4] at H
  have aC : (aA != 0) = false := bn c4
  clear c4
  replace H := bm H
  obtain ⟨aB, aE, H⟩ := H
  replace H : (if aB = true then (some 20) else (some 0)) = some r := H
  have A5 := am aE
  clear aE
  by_cases c6 : aB = true
  ·subst c6
   replace H : (some 20) = some r := by rw [if_pos rfl] at H; exact H
   obtain rfl := Option.some.inj H
   go_enter Tryz.func31, Tryz.ntmps31
   go_wp2_with (first | ((with_reducible refine qAk (f := 30) rfl ?_); refine gL 7 Tryz.func30 #[.string a0] ?_; (with_reducible refine (qB2.calls a0 aA _ A3.o).mono ?_); rintro e w' ⟨rfl, ⟨nd, rfl⟩⟩; refine ⟨_, rfl, ?_⟩) | ((with_reducible refine qAk (f := 92) rfl ?_); refine gL 13 Tryz.func92 #[.slice A1 l1.length c1, .string a0] ?_; (with_reducible refine (qAN.calls k _ _ l1 a0 true _ ?side1 ?side2 A5.o).mono ?_); (case side1 => exact aG.o); (case side2 => exact aF.o); rintro e w' ⟨rfl, ⟨nd, rfl⟩⟩; refine ⟨_, rfl, ?_⟩))
   go_ret
   exact ⟨by rfl, by repeat (first | exact qAZ.refl _ | apply qAZ.step)⟩
  ·replace c6 := Bool.eq_false_iff.mpr c6
   subst c6
   replace H : (some 0) = some r := by rw [if_neg (show ¬ (false = true) by decide)] at H; exact H
   obtain rfl := Option.some.inj H
   go_enter Tryz.func31, Tryz.ntmps31
   go_wp2_with (first | ((with_reducible refine qAk (f := 30) rfl ?_); refine gL 7 Tryz.func30 #[.string a0] ?_; (with_reducible refine (qB2.calls a0 aA _ A3.o).mono ?_); rintro e w' ⟨rfl, ⟨nd, rfl⟩⟩; refine ⟨_, rfl, ?_⟩) | ((with_reducible refine qAk (f := 92) rfl ?_); refine gL 13 Tryz.func92 #[.slice A1 l1.length c1, .string a0] ?_; (with_reducible refine (qAN.calls k _ _ l1 a0 false _ ?side1 ?side2 A5.o).mono ?_); (case side1 => exact aG.o); (case side2 => exact aF.o); rintro e w' ⟨rfl, ⟨nd, rfl⟩⟩; refine ⟨_, rfl, ?_⟩))
   go_ret
   exact ⟨by rfl, by repeat (first | exact qAZ.refl _ | apply qAZ.step)⟩
 ·rw [if_neg c4] at H
  have aC : (aA != 0) = true := bne_iff_ne.mpr c4
  obtain rfl := Option.some.inj H
  go_enter Tryz.func31, Tryz.ntmps31
  go_wp2_with ((with_reducible refine qAk (f := 30) rfl ?_); refine gL 7 Tryz.func30 #[.string a0] ?_; (with_reducible refine (qB2.calls a0 aA _ A3.o).mono ?_); rintro e w' ⟨rfl, ⟨nd, rfl⟩⟩; refine ⟨_, rfl, ?_⟩)
  go_ret
  exact ⟨by rfl, by repeat (first | exact qAZ.refl _ | apply qAZ.step)⟩
end Q
end
end Go.Proofs.YtfjpnjbinbhcfaaGreat
