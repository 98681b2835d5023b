/- ImageBack, where what it reads is of bulk at most 1048576: an image of any kind: what is packed is read again as it was and packed again as it was; what is not packed is not right, or too big. Part 2 of 6. -/
import Derived.Test.YtfjpnjbinbhcfaaJ1
import Derived.RangeFuncNested
import Derived.RangeFuncBound
import Derived.RangeFuncCalls
import Derived.RangeFuncLeaves
import Derived.Shelf.Abstract
import Derived.WalkKit
import Derived.OwnWalkIn
import Derived.TacticsInMore
import Derived.LoopNIn
import Derived.LoopIn
import Derived.RangeFuncBox
import Derived.Deep.RegionHeld3
import Derived.Laws.BitsAllLaws
import Derived.WalkLawsBesides
import Derived.Defers
import Derived.Recover
import Derived.Lib.SliceRun
import Derived.RegionDies
import Derived.Test.YtfjpnjbinbhcfaaProg
import Derived.WalkSpells
set_option maxHeartbeats 8000000
set_option maxRecDepth 100000
set_option linter.unusedVariables false
set_option linter.unusedSimpArgs false
namespace Go.Proofs.Ytfjpnjbinbhcfaa
section
namespace Num
open Go.RowKit Go.Shelf Base Wr
attribute [local go_sem] Oper.semAt_some
abbrev Ix (m : Nat) := { x : Nat × Int // x.1 < m }
def fsts {m : Nat} (pre : List (Ix m)) : List Nat := pre.map (·.1.1)
def qB1 (m k : Nat) : List Nat := (List.range k).map (fun j => m - 1 - j)
theorem qCo (m k : Nat) : qB1 m (k + 1) = qB1 m k ++ [m - 1 - k] := by simp [qB1, List.range_succ]
theorem backs_length (m k : Nat) : (qB1 m k).length = k := by simp [qB1]
def KpB (Bs g m : Nat) (W W' : World) : Prop :=
 (∀ v, W.cell? ⟨Bs, 0, none⟩ = some v → W'.cell? ⟨Bs, 0, none⟩ = some v) ∧ ∀ j, j < m → ∀ x, W.cell? ⟨g, j, none⟩ = some (.int .u8 x) → ∃ y, W'.cell? ⟨g, j, none⟩ = some (.int .u8 y)
theorem KpB.refl (Bs g m : Nat) (W : World) : KpB Bs g m W W := ⟨fun _ h => h, fun _ _ x h => ⟨x, h⟩⟩
theorem KpB.t {Bs g m : Nat} {A B C : World} (h : KpB Bs g m A B) (k : KpB Bs g m B C) : KpB Bs g m A C :=
 ⟨fun v e => k.1 v (h.1 v e), fun j hj x e => by obtain ⟨y, hy⟩ := h.2 j hj x e; exact k.2 j hj y hy⟩
theorem KpB.b {Bs g m : Nat} {w : World} (W : World) (l : Nat) (o o' : Obj) (_ : w.heap.size ≤ l) (h : W.heap[l]? = some o) (hc : o.isCells = false) (_ : o.isWalk = false) : KpB Bs g m W (W.putObj l o') :=
 ⟨fun _ e => cell_kept e (grownBy_putObj' W l o') (fun r er => by cases er; exact ⟨_, h, hc⟩), fun _ _ x e => ⟨x, cell_kept e (grownBy_putObj' W l o') (fun r er => by cases er; exact ⟨_, h, hc⟩)⟩⟩
theorem back1_in (F : Fence) (n : Nat) (hf : F.fn 122) (hro : F.round = none) (hn : 1 ≤ n) (l Bs g m : Nat) (hm : m ≤ 1000) (J Jx : List (Ix m) → World → Prop)
  (hY : ∀ pre x W, J pre W → pre.length < m → YieldAt F (n - 1) Try.prog l #[.int .i64 (x.1.1 : Int), .int .u8 x.1.2] W fun e W' =>
    (e = .returned (.bool true) ∧ J (pre ++ [x]) W' ∧ KpB Bs g m W W') ∨ (e = .returned (.bool false) ∧ Jx (pre ++ [x]) W'))
  (W : World) (hBs : W.cell? ⟨Bs, 0, none⟩ = some (.slice (some ⟨g, 0, none⟩) m m)) (hc : ∀ j, j < m → ∃ x, W.cell? ⟨g, j, none⟩ = some (.int .u8 x)) (h0 : J [] W) :
  CallsIn F n Try.prog 122 #[.func (.yield l) #[] #[], .pointer (some ⟨Bs, 0, none⟩)] W fun e W' => (∃ v, e = .returned v) ∧
   ((∃ ys, fsts ys = qB1 m m ∧ J ys W') ∨ (∃ pre, True ∧ Jx pre W')) := by
 refine callsIn_of_wp Try.func122 rfl hf ?_ hro
 simp only [Try.ntmps122, List.size_toArray, List.length_cons, List.length_nil, Nat.reduceAdd, Nat.reduceSub, Array.replicate_succ, Array.replicate_zero, List.push_toArray, List.append_toArray, List.nil_append, List.cons_append]
 gi_wp2
 gi_loopw [3] (fun i wr => ∃ (k : Nat) (pre : List (Ix m)), fsts pre = qB1 m k ∧ ((∃ q : Nat, q + 1 + k = m ∧ i = .int .i64 (q : Int)) ∨ (k = m ∧ i = .int .i64 (-1))) ∧ J pre wr ∧ KpB Bs g m W wr)
  (fun i _ => (intOf i + 1).toNat)
 case atStart =>
  refine ⟨0, [], rfl, ?_, h0, KpB.refl _ _ _ _⟩
  by_cases h : m = 0
  ·right; subst h; exact ⟨rfl, by simp⟩
  left; refine ⟨m - 1, by omega, ?_⟩
  go_num
 case round =>
  obtain ⟨k, pre, hp, hi, hJs, hkp⟩ := hrel
  have hbx := hkp.1 _ hBs
  rcases hi with ⟨q, hq, rfl⟩ | ⟨rfl, rfl⟩
  ·have hqm : q < m := by omega
   obtain ⟨x0, hx0⟩ := hc q hqm
   obtain ⟨y, hy0⟩ := hkp.2 q hqm x0 hx0
   have hpl : pre.length = k := by have := congrArg List.length hp; simpa [fsts, qB1] using this
   obtain ⟨fn, tmps, assign, body, hy, hR⟩ := hY pre ⟨(q, y), hqm⟩ wr hJs (by omega)
   dsimp only at hy
   gi_wp2
   refine hR.mono ?_
   rintro e W3 (⟨rfl, hJ3, hk3⟩ | ⟨rfl, hJx3⟩)
   ·gi_wp2
    go_roundw
    case rel =>
     refine ⟨k + 1, pre ++ [⟨(q, y), hqm⟩], ?_, ?_, hJ3, hkp.t hk3⟩
     ·rw [qCo, ← hp]; simp [fsts]; omega
     by_cases h : q = 0
     ·right; subst h; exact ⟨by omega, by simp⟩
     left; exact ⟨q - 1, by omega, by go_num⟩
    case measure => simp [intOf]
   gi_wp2
   refine bodyPost_ret (results_none rfl _ _ _) rfl ?_
   exact ⟨⟨_, rfl⟩, .inr ⟨_, trivial, hJx3⟩⟩
  gi_wp2
  go_end0
  exact ⟨⟨_, rfl⟩, .inl ⟨_, hp, hJs⟩⟩
theorem backward_in (F : Fence) (n : Nat) (hf : F.fn 116) (hro : F.round = none) (a : Option Addr) (len cap : Nat) (w : World) :
  CallsIn F n Try.prog 116 #[.slice a len cap] w fun e w' => e = .returned (.func (.func 122) #[] #[.pointer (some ⟨w.heap.size, 0, none⟩)]) ∧ w' = w.alloc (.cells #[.slice a len cap] 22) := by
 refine callsIn_of_wp Try.func116 rfl hf ?_ hro
 simp only [Try.ntmps116, List.size_toArray, List.length_cons, List.length_nil, Nat.reduceAdd, Nat.reduceSub, Array.replicate_succ, Array.replicate_zero, List.push_toArray, List.append_toArray, List.nil_append, List.cons_append]
 gi_wp2
 go_ret
 exact ⟨rfl, rfl⟩
def stp (s : Int × (Nat → Int)) (j : Nat) : Int × (Nat → Int) := (s.1 / 256, fun t => if t = j then s.1 % 256 else s.2 t)
def stF (x : Int) (l : List Nat) : Int × (Nat → Int) := l.foldl stp (x, fun _ => 0)
theorem stF_snoc {m : Nat} (x : Int) (pre : List (Ix m)) (y : Ix m) : stF x (fsts (pre ++ [y])) = stp (stF x (fsts pre)) y.1.1 := by simp [stF, fsts]
theorem back_stops (F : Fence) (n : Nat) (hf : F.fn 122) (hro : F.round = none) (hn : 1 ≤ n) (Bs g m : Nat) (hm : m ≤ 1000) (w : World) (hBs : Bs < w.heap.size) (hg : g < w.heap.size)
  (hb : w.cell? ⟨Bs, 0, none⟩ = some (.slice (some ⟨g, 0, none⟩) m m)) (hc : ∀ j, j < m → ∃ x, w.cell? ⟨g, j, none⟩ = some (.int .u8 x)) :
  SeqStopsK F n Try.prog 122 #[.pointer (some ⟨Bs, 0, none⟩)] (fun x : Ix m => #[.int .i64 (x.1.1 : Int), .int .u8 x.1.2]) (KpB Bs g m) (fun ys => fsts ys = qB1 m m) (fun _ => True) m w := fun l J Jx W hW _ _ hY h0 =>
 back1_in F n hf hro hn l Bs g m hm J Jx hY W ((hW.cell (p := ⟨Bs, 0, none⟩) hBs).trans hb) (fun j hj => by obtain ⟨x, hx⟩ := hc j hj; exact ⟨x, (hW.cell (p := ⟨g, j, none⟩) hg).trans hx⟩) h0
theorem number_in (F : Fence) (n : Nat) (hf : F.fn 102) (hf1 : F.fn 116) (hf2 : F.fn 122) (hro : F.round = none) (hn : 3 ≤ n) (x : Int) (m : Nat) (zs : Array Value) (hm : m ≤ 1000)
  (hmk : ∀ w, (Instr.makeSlice 22 (.int .i64 (m : Int)) (.int .i64 (m : Int))).run Try.prog w = .ok (.slice (some ⟨w.heap.size, 0, none⟩) m m) (w.alloc (.cells zs 5))) (hzs : ∀ j, j < m → zs[j]? = some (.int .u8 0)) (w : World) :
  CallsIn F n Try.prog 102 #[.int .u64 x, .int .i64 (m : Int)] w fun e w' => e = .returned (.slice (some ⟨w.heap.size + 1, 0, none⟩) m m) ∧ Below w.heap.size w w' ∧ ∃ ys : List (Ix m), fsts ys = qB1 m m ∧ ∀ j, j < m → w'.cell? ⟨w.heap.size + 1, j, none⟩ = some (.int .u8 ((stF x (fsts ys)).2 j)) := by
 have h1 : 1 ≤ n := by omega
 refine callsIn_of_wp_marks Try.func102 rfl hf ?_ hro
 simp only [Try.ntmps102, List.size_toArray, List.length_cons, List.length_nil, Nat.reduceAdd, Nat.reduceSub, Array.replicate_succ, Array.replicate_zero, List.push_toArray, List.append_toArray, List.nil_append, List.cons_append]
 gi_wp2_with (gi_at_call 116; refine (backward_in F (n - 1) hf1 hro _ _ _ _).mono ?_; rintro e w' ⟨rfl, rfl⟩)
 obtain ⟨W0, hW0⟩ : ∃ W0, ((((w.alloc (.cells #[.int .u64 x] 66)).alloc (.cells zs 5)).alloc (.cells #[.slice (some ⟨w.heap.size + 1, 0, none⟩) m m] 22)).alloc (.cells #[.slice (some ⟨w.heap.size + 1, 0, none⟩) m m] 22)) = W0 := ⟨_, rfl⟩
 have hsz : W0.heap.size = w.heap.size + 4 := by rw [← hW0]; simp
 have hB0 : Below w.heap.size w W0 := by rw [← hW0]; exact ((((Below.refl _ _).alloc (Nat.le_refl _) _).alloc (by simp) _).alloc (by simp; omega) _).alloc (by simp; omega) _
 have b0 : Boxed W0 w.heap.size 66 (.int .u64 x) := by rw [← hW0]; exact (((Boxed.new w _ _).alloc _).alloc _).alloc _
 have b2 : Boxed W0 (w.heap.size + 1 + 1) 22 (.slice (some ⟨w.heap.size + 1, 0, none⟩) m m) := by
  rw [← hW0]; have := Boxed.new ((w.alloc (.cells #[.int .u64 x] 66)).alloc (.cells zs 5)) 22 (.slice (some ⟨w.heap.size + 1, 0, none⟩) m m)
  simp only [World.size_alloc] at this; exact this.alloc _
 have b3 : Boxed W0 (w.heap.size + 1 + 1 + 1) 22 (.slice (some ⟨w.heap.size + 1, 0, none⟩) m m) := by
  rw [← hW0]; have := Boxed.new (((w.alloc (.cells #[.int .u64 x] 66)).alloc (.cells zs 5)).alloc (.cells #[.slice (some ⟨w.heap.size + 1, 0, none⟩) m m] 22)) 22 (.slice (some ⟨w.heap.size + 1, 0, none⟩) m m)
  simp only [World.size_alloc] at this; exact this
 have hrow : W0.heap[w.heap.size + 1]? = some (.cells zs 5 (0, 0)) := by
  rw [← hW0]
  refine (Below.heap_alloc _ _ _ (by simp)).trans ((Below.heap_alloc _ _ _ (by simp)).trans ?_)
  have := World.alloc_heap_new (w.alloc (.cells #[.int .u64 x] 66)) (.cells zs 5); rwa [World.size_alloc] at this
 have hrc : ∀ j, j < m → W0.cell? ⟨w.heap.size + 1, j, none⟩ = some (.int .u8 0) := fun j hj => by
  have := hzs j hj
  simp [World.cell?, hrow, this]
 have hrf : ∀ j, W0.frozen? ⟨w.heap.size + 1, j, none⟩ = false := fun j => by simp [World.frozen?, hrow]
 rw [hW0]
 clear hW0 hmk
 refine wpIn_rangeFunc_ownG (α := Ix m) hro h1 (gf := 122) (lb := #[.pointer (some ⟨w.heap.size + 1 + 1 + 1, 0, none⟩)]) rfl hf2 (enters_of Try.func122 (by kernel_rfl) rfl)
  (back_stops F (n - 1) hf2 hro (by omega) (w.heap.size + 1 + 1 + 1) (w.heap.size + 1) m hm W0 (by omega) (by omega) b3.cell (fun j hj => ⟨_, hrc j hj⟩)) KpB.t (fun W l o o' => KpB.b (w := W0) W l o o') (Below.refl _ _) (fun _ => rfl)
  (fun pre W => ((W.cell? ⟨w.heap.size, 0, none⟩ = some (.int .u64 (stF x (fsts pre)).1) ∧ W.frozen? ⟨w.heap.size, 0, none⟩ = false) ∧ (∀ j, j < m → W.cell? ⟨w.heap.size + 1, j, none⟩ = some (.int .u8 ((stF x (fsts pre)).2 j)) ∧ W.frozen? ⟨w.heap.size + 1, j, none⟩ = false) ∧ W.cell? ⟨w.heap.size + 1 + 1, 0, none⟩ = some (.slice (some ⟨w.heap.size + 1, 0, none⟩) m m)) ∧ Below w.heap.size w W)
  (fun _ _ _ => False)
  (OwnFrom.and (Own.from (fun s A B row hs hg hr => ⟨⟨cell_kept hs.1.1 hg hr, (frozen_kept hs.1.1 hg hr).trans hs.1.2⟩, fun j hj => ⟨cell_kept (hs.2.1 j hj).1 hg hr, (frozen_kept (hs.2.1 j hj).1 hg hr).trans (hs.2.1 j hj).2⟩, cell_kept hs.2.2 hg hr⟩) _) (ownFrom_below (Nat.le_refl _) (by omega)))
  (fun _ _ _ _ _ hs _ _ => hs)
  ⟨⟨⟨b0.cell, b0.frozen⟩, fun j hj => ⟨hrc j hj, hrf j⟩, b2.cell⟩, hB0⟩
  (fun y => { tmps := #[.int .u64 x, .int .i64 (m : Int), .pointer (some ⟨w.heap.size, 0, none⟩), undef, .slice none 0 0, .pointer (some ⟨w.heap.size + 1 + 1, 0, none⟩), .int .i64 (y.1.1 : Int), .int .i64 (m : Int), .slice (some ⟨w.heap.size + 1, 0, none⟩) m m, .slice (some ⟨w.heap.size + 1, 0, none⟩) m m, .func (.func 122) #[] #[.pointer (some ⟨w.heap.size + 1 + 1 + 1, 0, none⟩)], .int .i64 (y.1.1 : Int), .int .u8 y.1.2, undef, undef, undef, undef, undef, undef, undef, undef], defers := [] }) ?assign ?body ?done ?stop
 case assign =>
  intro l y W K hK
  gi_wp2
  exact hK
 case body =>
  rintro l pre ⟨⟨q, y⟩, hq⟩ W ⟨⟨⟨hc0, hf0⟩, hrw, hc2⟩, hB⟩ _
  have hrq := (hrw q hq).1
  have hfq := (hrw q hq).2
  have hlt : q < m := hq
  have hrwH := hid hrw
  clear hrw
  dsimp only at hq ⊢
  gi_wp2
  have far : ∀ (v1 v2 : Value) (a : Addr), a ≠ ⟨w.heap.size + 1, q, none⟩ → a ≠ ⟨w.heap.size, 0, none⟩ → ((W.setCell ⟨w.heap.size + 1, q, none⟩ v1).setCell ⟨w.heap.size, 0, none⟩ v2).cell? a = W.cell? a := fun v1 v2 a h1 h2 => by
   rw [World.cell?_setCell_other _ _ _ _ (Ne.symm h2), World.cell?_setCell_other _ _ _ _ (Ne.symm h1)]
  have near : ∀ (v1 v2 : Value), ((W.setCell ⟨w.heap.size + 1, q, none⟩ v1).setCell ⟨w.heap.size, 0, none⟩ v2).cell? ⟨w.heap.size + 1, q, none⟩ = some v1 := fun v1 v2 => by
   rw [World.cell?_setCell_other _ _ _ _ (by intro e; injection e with e _; omega)]
   exact World.cell?_setCell_same _ _ _ hrq
  have home : ∀ (v1 v2 : Value), ((W.setCell ⟨w.heap.size + 1, q, none⟩ v1).setCell ⟨w.heap.size, 0, none⟩ v2).cell? ⟨w.heap.size, 0, none⟩ = some v2 := fun v1 v2 => by
   refine World.cell?_setCell_same _ _ _ (u := .int .u64 (stF x (fsts pre)).1) ?_
   rw [World.cell?_setCell_other _ _ _ _ (by intro e; injection e with e _; omega)]
   exact hc0
  have ha : ∀ j, j ≠ q → (⟨w.heap.size + 1, j, none⟩ : Addr) ≠ ⟨w.heap.size + 1, q, none⟩ := fun j hj e => by injection e with _ e; exact hj e
  have hb : ∀ j, (⟨w.heap.size + 1, j, none⟩ : Addr) ≠ ⟨w.heap.size, 0, none⟩ := fun j e => by injection e with e; omega
  refine ⟨((KeepsOthers.setCell W _ _).trans (KeepsOthers.setCell _ _ _)).from _, ⟨fun v hv => ?_, fun j hj y1 hy1 => ?_⟩, ⟨⟨?_, ?_⟩, fun j hj => ⟨?_, ?_⟩, ?_⟩, (hB.setCell (p := ⟨w.heap.size + 1, q, none⟩) (by simp) _).setCell (p := ⟨w.heap.size, 0, none⟩) (Nat.le_refl _) _⟩
  ·rw [far _ _ _ (by intro e; injection e with e; omega) (by intro e; injection e with e; omega)]; exact hv
  ·by_cases hjq : j = q
   ·subst hjq; exact ⟨_, near _ _⟩
   exact ⟨y1, by rw [far _ _ _ (ha j hjq) (hb j)]; exact hy1⟩
  ·rw [stF_snoc]; exact home _ _
  ·rw [World.frozen?_setCell, World.frozen?_setCell]; exact hf0
  ·rw [stF_snoc]
   by_cases hjq : j = q
   ·subst hjq; rw [near]; simp [stp]
   rw [far _ _ _ (ha j hjq) (hb j), (hrwH.out j hj).1]; simp [stp, hjq]
  ·rw [World.frozen?_setCell, World.frozen?_setCell]; exact (hrwH.out j hj).2
  rw [far _ _ _ (by intro e; injection e with e; omega) (by intro e; injection e with e; omega)]; exact hc2
 case done =>
  rintro D ys W hD hys ⟨⟨⟨hc0, hf0⟩, hrw, hc2⟩, hB⟩ hK
  gi_wp2
  refine ⟨by simp, .inl ⟨_, _, rfl, run_takeDeferred hK, ?_⟩⟩
  exact ⟨_, results_tmp rfl _ _ _, rfl, hB.trans (belowK_b (w := w) (Nat.le_refl _) W D _ _ (by omega) hK rfl rfl), ys, hys, fun j hj => cell_kept (hrw j hj).1 (grownBy_putObj' W D _) (fun r e => by cases e; exact ⟨_, hK, rfl⟩)⟩
 case stop =>
  rintro D c pre W _ _ h _
  exact h.elim
theorem stF_backs (x : Int) (m : Nat) : ∀ k, k ≤ m → (stF x (qB1 m k)).1 = x / 256 ^ k ∧ ∀ j, j < m → (stF x (qB1 m k)).2 j = if m - k ≤ j then x / 256 ^ (m - 1 - j) % 256 else 0 := by
 intro k
 induction k with
 | zero => intro _; exact ⟨(Int.ediv_one x).symm, fun j hj => by rw [if_neg (by omega)]; rfl⟩
 | succ k ih =>
  intro hk
  obtain ⟨h1, h2⟩ := ih (by omega)
  have e : stF x (qB1 m (k + 1)) = stp (stF x (qB1 m k)) (m - 1 - k) := by rw [qCo]; simp [stF]
  rw [e]
  refine ⟨?_, fun j hj => ?_⟩
  ·show (stF x (qB1 m k)).1 / 256 = _
   rw [h1, Int.ediv_ediv_of_nonneg (Int.pow_nonneg (by decide)), Int.pow_succ]
  show (if j = m - 1 - k then (stF x (qB1 m k)).1 % 256 else (stF x (qB1 m k)).2 j) = _
  by_cases hj2 : j = m - 1 - k
  ·rw [if_pos hj2, if_pos (by omega), h1, show m - 1 - j = k by omega]
  rw [if_neg hj2, h2 j hj]
  by_cases h3 : m - k ≤ j
  ·rw [if_pos h3, if_pos (by omega)]
  rw [if_neg h3, if_neg (by omega)]
theorem qCR (x : Int) (m : Nat) (zs : Array Value) (hm : m ≤ 1000)
  (hmk : ∀ w, (Instr.makeSlice 22 (.int .i64 (m : Int)) (.int .i64 (m : Int))).run Try.prog w = .ok (.slice (some ⟨w.heap.size, 0, none⟩) m m) (w.alloc (.cells zs 5))) (hzs : ∀ j, j < m → zs[j]? = some (.int .u8 0)) (w : World) :
  Calls Try.prog 102 #[.int .u64 x, .int .i64 (m : Int)] w fun e w' => e = .returned (.slice (some ⟨w.heap.size + 1, 0, none⟩) m m) ∧ Below w.heap.size w w' ∧ ∀ j, j < m → w'.cell? ⟨w.heap.size + 1, j, none⟩ = some (.int .u8 ((be x m m).getD j 0)) := by
 refine callsIn_wide.1 ((number_in Fence.wide 3 trivial trivial trivial rfl (Nat.le_refl _) x m zs hm hmk hzs w).mono ?_)
 rintro e w' ⟨he, hB, ys, hys, hc⟩
 refine ⟨he, hB, fun j hj => ?_⟩
 rw [hc j hj, hys, (stF_backs x m m (Nat.le_refl _)).2 j hj, if_pos (by omega)]
 have : (be x m m).getD j 0 = x / 2 ^ (8 * (m - 1 - j)) % 256 := by
  unfold be
  rw [List.getD_eq_getElem?_getD, List.getElem?_map, List.getElem?_range hj]; rfl
 rw [this, show (256 : Int) = 2 ^ 8 from rfl, ← Int.pow_mul]
theorem number_0 (x : Int) (w : World) : Calls Try.prog 102 #[.int .u64 x, .int .i64 0] w fun e w' => e = .returned (.slice (some ⟨w.heap.size + 1, 0, none⟩) 0 0) ∧ Below w.heap.size w w' ∧ ∀ j, j < 0 → w'.cell? ⟨w.heap.size + 1, j, none⟩ = some (.int .u8 ((be x 0 0).getD j 0)) :=
 qCR x 0 #[] (by decide) (fun _ => by kernel_rfl) (fun j hj => absurd hj (Nat.not_lt_zero j)) w
theorem number_1 (x : Int) (w : World) : Calls Try.prog 102 #[.int .u64 x, .int .i64 1] w fun e w' => e = .returned (.slice (some ⟨w.heap.size + 1, 0, none⟩) 1 1) ∧ Below w.heap.size w w' ∧ ∀ j, j < 1 → w'.cell? ⟨w.heap.size + 1, j, none⟩ = some (.int .u8 ((be x 1 1).getD j 0)) :=
 qCR x 1 #[.int .u8 0] (by decide) (fun _ => by kernel_rfl) (fun j hj => by rw [show j = 0 from Nat.lt_one_iff.1 hj]; rfl) w
theorem number_2 (x : Int) (w : World) : Calls Try.prog 102 #[.int .u64 x, .int .i64 2] w fun e w' => e = .returned (.slice (some ⟨w.heap.size + 1, 0, none⟩) 2 2) ∧ Below w.heap.size w w' ∧ ∀ j, j < 2 → w'.cell? ⟨w.heap.size + 1, j, none⟩ = some (.int .u8 ((be x 2 2).getD j 0)) :=
 qCR x 2 #[.int .u8 0, .int .u8 0] (by decide) (fun _ => by kernel_rfl) (fun j hj => by rcases (by omega : j = 0 ∨ j = 1) with rfl | rfl <;> rfl) w
theorem number_8 (x : Int) (w : World) : Calls Try.prog 102 #[.int .u64 x, .int .i64 8] w fun e w' => e = .returned (.slice (some ⟨w.heap.size + 1, 0, none⟩) 8 8) ∧ Below w.heap.size w w' ∧ ∀ j, j < 8 → w'.cell? ⟨w.heap.size + 1, j, none⟩ = some (.int .u8 ((be x 8 8).getD j 0)) :=
 qCR x 8 #[.int .u8 0, .int .u8 0, .int .u8 0, .int .u8 0, .int .u8 0, .int .u8 0, .int .u8 0, .int .u8 0] (by decide) (fun _ => by kernel_rfl) (fun j hj => by rcases (by omega : j = 0 ∨ j = 1 ∨ j = 2 ∨ j = 3 ∨ j = 4 ∨ j = 5 ∨ j = 6 ∨ j = 7) with rfl | rfl | rfl | rfl | rfl | rfl | rfl | rfl <;> rfl) w
end Num
end
section
namespace Enc
open Go.RowKit Base Val Tbl Ins Wr Num
structure InsD where
 op : Int
 n : Int
 ty : Int
 b : Int
def InsD.ok (x : InsD) : Bool := okI x.op x.n x.ty x.b
def InsD.z : InsD := ⟨0, 0, 0, 0⟩
def widN (op : Int) : Nat := (wid op).toNat
def insB (x : InsD) : List Int := (x.op % 256) :: (if x.op = 1 then (x.ty % 256) :: be x.b 8 8 else be x.n (widN x.op) (widN x.op))
def encB (l : List InsD) : List Int := l.flatMap insB
theorem qDg (l : List InsD) (k : Nat) (h : k < l.length) : encB (l.take (k + 1)) = encB (l.take k) ++ insB (l.getD k InsD.z) := by
 unfold encB; rw [qBB l k InsD.z h, List.flatMap_append]; simp
theorem be_len (x : Int) (m : Nat) : (be x m m).length = m := qAD x m m
theorem widN_le (op : Int) : widN op ≤ 9 := by
 unfold widN wid; split
 ·decide
 split
 ·decide
 split <;> decide
theorem insB_length (x : InsD) : (insB x).length ≤ 10 := by
 unfold insB; split
 ·simp [qAD]
 have := widN_le x.op; simp [qAD]; omega
theorem encB_length (l : List InsD) : (encB l).length ≤ 10 * l.length := by
 unfold encB
 induction l with
 | nil => simp
 | cons x l ih => have := insB_length x; simp only [List.flatMap_cons, List.length_append, List.length_cons]; omega
def qDa (W : World) (b o : Nat) (l : List InsD) : Prop := ∀ k x, l[k]? = some x →
 W.cell? ⟨b, o + k * 4, none⟩ = some (.int .i64 x.op) ∧ W.cell? ⟨b, o + k * 4 + 1, none⟩ = some (.int .i64 x.n) ∧ W.cell? ⟨b, o + k * 4 + 2, none⟩ = some (.int .i64 x.ty) ∧ W.cell? ⟨b, o + k * 4 + 3, none⟩ = some (.int .u64 x.b)
theorem qDa.below {W W' : World} {b o : Nat} {l : List InsD} {B : Nat} (h : qDa W b o l) (hb : b < B) (hB : Below B W W') : qDa W' b o l := fun k x hk => by
 obtain ⟨h0, h1, h2, h3⟩ := h k x hk
 exact ⟨(hB.cell (p := ⟨b, o + k * 4, none⟩) hb).trans h0, (hB.cell (p := ⟨b, o + k * 4 + 1, none⟩) hb).trans h1, (hB.cell (p := ⟨b, o + k * 4 + 2, none⟩) hb).trans h2, (hB.cell (p := ⟨b, o + k * 4 + 3, none⟩) hb).trans h3⟩
theorem qBY {W W' : World} {N0 n : Nat} {E : TypeId} {v : Value} {xs : List Value} (h : W.ownsRow N0 E 1 v n xs) (hB : Below W.heap.size W W') : W'.ownsRow N0 E 1 v n xs := by
 refine ⟨h.1, ?_⟩
 rcases h.2 with r | ⟨g, cap, cur, hv, hb, hg, r⟩
 ·exact .inl r
 exact .inr ⟨g, cap, cur, hv, hb, (hB.block g (Array.getElem?_eq_some_iff.1 hg).1).trans hg, r⟩
theorem news_of {W : World} {g m : Nat} {x : Int} (hc : ∀ j, j < m → W.cell? ⟨g, j, none⟩ = some (.int .u8 ((be x m m).getD j 0))) : ∀ j u, (bv (be x m m))[j]? = some u → W.cell? ((⟨g, 0, none⟩ : Addr).add j) = some u := fun j u hu => by
 have hadd : (⟨g, 0, none⟩ : Addr).add j = ⟨g, j, none⟩ := by unfold Addr.add; split <;> simp_all
 unfold bv at hu
 rw [List.getElem?_map] at hu
 cases hj : (be x m m)[j]? with
 | none => rw [hj] at hu; cases hu
 | some y =>
  rw [hj] at hu; cases hu
  have hlt : j < m := by have := (List.getElem?_eq_some_iff.1 hj).1; rwa [qAD] at this
  rw [hadd, hc j hlt, List.getD_eq_getElem?_getD, hj]; rfl
theorem bv_ones (bs : List Int) : ∀ u ∈ bv bs, u.oneCell' = true := by
 intro u hu; unfold bv at hu; obtain ⟨y, _, rfl⟩ := List.mem_map.1 hu; rfl
def Out (N0 : Nat) (W : World) (v : Value) (bs : List Int) : Prop := W.ownsRow N0 5 1 v bs.length (bv bs)
theorem qDQ {P : Program} {w : World} {ops : Array Oper} {o : Oper} {a : Act} {K : Act → World → Prop} {Q : Exit → Act → World → Prop} {E : Prop} (hgd : o.guard = none) (s x : Operand) (t : TypeId)
  (ho : o.op = .call { callee := .builtin .append, args := #[s, x], argTypes := #[t, t] })
  (base : Nat) (e : TypeId) (i : TypeInfo) (size : Nat) (ht : P.underlying t = some (.slice e)) (hi : P.info? e = some i)
  (v : Value) (n : Nat) (xs : List Value) (hs : a.eval s = v) (hown : w.ownsRow base e size v n xs) (A : Option Addr) (c : Nat) (hx : a.eval x = .slice A 0 c)
  (h : K (a.put o.dst v) w) :
  if Region.wanted o (yielded ops a.tmps) = true then Oper.wp P o a w K Q else E := by
 have hw : Region.wanted o (yielded ops a.tmps) = true := by simp [Region.wanted, hgd]
 rw [if_pos hw]
 have hrun := qCM (P := P) (w := w) base t o.type e i size ht hi v n xs hown A c
 unfold Oper.wp
 simp [execOp, ho, resolve, invoke, builtin, hs, hx, hrun, Result.andThen]
 exact h
theorem row_of (op : Int) (h1 : 2 ≤ op) (h2 : op ≤ 17) : ∃ nm, (∀ w, (Instr.index 172 (.agg qEt) (.int .i64 op)).run Try.prog w = .ok (.agg #[.string nm, .int .i64 (wid op)]) w) ∧ (∀ w, (Instr.field 171 (.agg #[.string nm, .int .i64 (wid op)]) 1).run Try.prog w = .ok (.int .i64 (wid op)) w) := by
 have ho : op = 2 ∨ op = 3 ∨ op = 4 ∨ op = 5 ∨ op = 6 ∨ op = 7 ∨ op = 8 ∨ op = 9 ∨ op = 10 ∨ op = 11 ∨ op = 12 ∨ op = 13 ∨ op = 14 ∨ op = 15 ∨ op = 16 ∨ op = 17 := by omega
 rcases ho with rfl | rfl | rfl | rfl | rfl | rfl | rfl | rfl | rfl | rfl | rfl | rfl | rfl | rfl | rfl | rfl
 ·exact ⟨⟨#[103, 101, 116]⟩, fun _ => by kernel_rfl, fun _ => by kernel_rfl⟩
 ·exact ⟨⟨#[112, 117, 116]⟩, fun _ => by kernel_rfl, fun _ => by kernel_rfl⟩
 ·exact ⟨⟨#[108, 111, 97, 100]⟩, fun _ => by kernel_rfl, fun _ => by kernel_rfl⟩
 ·exact ⟨⟨#[115, 116, 111, 114, 101]⟩, fun _ => by kernel_rfl, fun _ => by kernel_rfl⟩
 ·exact ⟨⟨#[117, 110]⟩, fun _ => by kernel_rfl, fun _ => by kernel_rfl⟩
 ·exact ⟨⟨#[98, 105, 110]⟩, fun _ => by kernel_rfl, fun _ => by kernel_rfl⟩
 ·exact ⟨⟨#[106, 117, 109, 112]⟩, fun _ => by kernel_rfl, fun _ => by kernel_rfl⟩
 ·exact ⟨⟨#[117, 110, 108, 101, 115, 115]⟩, fun _ => by kernel_rfl, fun _ => by kernel_rfl⟩
 ·exact ⟨⟨#[99, 97, 108, 108]⟩, fun _ => by kernel_rfl, fun _ => by kernel_rfl⟩
 ·exact ⟨⟨#[114, 101, 116, 117, 114, 110]⟩, fun _ => by kernel_rfl, fun _ => by kernel_rfl⟩
 ·exact ⟨⟨#[115, 104, 111, 119]⟩, fun _ => by kernel_rfl, fun _ => by kernel_rfl⟩
 ·exact ⟨⟨#[102, 97, 105, 108]⟩, fun _ => by kernel_rfl, fun _ => by kernel_rfl⟩
 ·exact ⟨⟨#[105, 110, 112, 117, 116]⟩, fun _ => by kernel_rfl, fun _ => by kernel_rfl⟩
 ·exact ⟨⟨#[116, 114, 121]⟩, fun _ => by kernel_rfl, fun _ => by kernel_rfl⟩
 ·exact ⟨⟨#[117, 110, 116, 114, 121]⟩, fun _ => by kernel_rfl, fun _ => by kernel_rfl⟩
 exact ⟨⟨#[100, 114, 111, 112]⟩, fun _ => by kernel_rfl, fun _ => by kernel_rfl⟩
theorem okI_mid_of (op n t b : Int) (h : okI op n t b = true) (h1 : op ≠ 1) : 2 ≤ op ∧ op ≤ 17 ∧ t = 0 ∧ b = 0 ∧ 0 ≤ n ∧ n ≤ 65535 ∧ (wid op = 0 ∨ wid op = 1 ∨ wid op = 2) := by
 have hw : wid op = 0 ∨ wid op = 1 ∨ wid op = 2 := by
  unfold wid; rw [if_neg h1]; split
  ·right; left; rfl
  split
  ·right; right; rfl
  left; rfl
 have hm : most op ≤ 65535 := by
  unfold most; split
  ·omega
  split <;> omega
 unfold okI at h
 split at h
 ·cases h
 rename_i h2
 split at h
 ·cases h
 rename_i h3
 simp only [Decidable.not_not] at h3
 exact ⟨by omega, by omega, h3.1, h3.2.1, h3.2.2.1, by omega, hw⟩
theorem encode_some (b o c : Nat) (l : List InsD) (w : World) (h : qDa w b o l) (hb : b < w.heap.size) (hl : l.length ≤ 4096) (hu : ∀ x ∈ l, U64 x.b) :
  Calls Try.prog 57 #[.slice (some ⟨b, o, none⟩) l.length c] w fun e w' => Below w.heap.size w w' ∧
   (((∀ x ∈ l, x.ok = true) ∧ ∃ v, e = .returned (.tuple #[v, .int .i64 0]) ∧ Out w.heap.size w' v (encB l)) ∨ (∃ x ∈ l, x.ok = false) ∧ e = .returned (.tuple #[.slice none 0 0, .int .i64 51])) := by
 have H := hid h
 have HU := hid hu
 clear h hu
 go_enter Try.func57, Try.ntmps57
 go_wp2
 go_loopw [4, 12] (fun v i wr => ∃ k : Nat, k ≤ l.length ∧ i = .int .i64 (k : Int) ∧ Hid ((∀ x ∈ l.take k, x.ok = true) ∧ Out w.heap.size wr v (encB (l.take k)) ∧ Below w.heap.size w wr)) (fun _ i _ => (l.length - intOf i).toNat)
 case atStart => exact ⟨0, Nat.zero_le _, rfl, hid ⟨by simp, by simpa [encB, Out, bv] using World.ownsRow_nil _ _ _ _, Below.refl _ _⟩⟩
 case round =>
  obtain ⟨k, hk, rfl, hst⟩ := hrel
  by_cases hlt : k < l.length
  rotate_left
  ·obtain rfl : k = l.length := by omega
   go_wp2
   go_ret2
   refine ⟨hst.out.2.2, .inl ⟨?_, _, rfl, ?_⟩⟩
   ·have := hst.out.1; rwa [List.take_length] at this
   have := hst.out.2.1; rwa [List.take_length] at this
  obtain ⟨x, hx⟩ : ∃ x, l[k]? = some x := ⟨l[k], List.getElem?_eq_getElem hlt⟩
  obtain ⟨c0, c1, c2, c3⟩ := (H.out.below hb hst.out.2.2) k x hx
  have hU := HU.out x (List.mem_of_getElem? hx)
  have HR := hid (fun W => qCL x.op x.n x.ty x.b hU W)
  obtain ⟨op, n, ty, bb⟩ := x
  unfold insV at HR
  dsimp only at c0 c1 c2 c3 HR
  go_wp2_with fail
  refine (HR.out _).mono ?_
  rintro e w1 ⟨rfl, hb1⟩
  have hin := List.mem_of_getElem? hx
  have HX := hid hx
  have hBr : Below wr.heap.size wr w1 := ((Below.refl _ _).alloc (Nat.le_refl _) _).trans (hb1.mono (by simp))
  have hs1 : wr.heap.size < w1.heap.size := by have := hb1.size; simp at this; omega
  have bx : ∀ i, w1.cell? ⟨wr.heap.size, i, none⟩ = (#[Value.int .i64 op, .int .i64 n, .int .i64 ty, .int .u64 bb])[i]? := fun i => by
   rw [hb1.cell (p := ⟨wr.heap.size, i, none⟩) (by simp), World.cell?_alloc_at _ _ _ _ rfl]
  have d0 : w1.cell? ⟨wr.heap.size, 0, none⟩ = some (.int .i64 op) := bx 0
  have d1 : w1.cell? ⟨wr.heap.size, 1, none⟩ = some (.int .i64 n) := bx 1
  have d2 : w1.cell? ⟨wr.heap.size, 2, none⟩ = some (.int .i64 ty) := bx 2
  have d3 : w1.cell? ⟨wr.heap.size, 3, none⟩ = some (.int .u64 bb) := bx 3
  clear bx c0 c1 c2 c3 hU HR hx
  cases hok : okI op n ty bb with
  | false =>
   go_wp2
   go_ret2
   exact ⟨hst.out.2.2.trans (hBr.mono hst.out.2.2.size), .inr ⟨⟨_, hin, hok⟩, rfl⟩⟩
  | true =>
   have hO := hst.out.2.1
   have hO1 : Out w.heap.size w1 u4 (encB (l.take k)) := qBY hO hBr
   have hpv : ∀ g, u4.ownBlock = some g → g < wr.heap.size := fun g hg => (hO.lt g hg).2
   have hlen : (encB (l.take k)).length ≤ 40960 := by have := encB_length (l.take k); simp at this; omega
   obtain ⟨i0, hi, hz0, hz1, hz2⟩ := info_parts infoU8
   have HO1 := hid hO1
   have HPV := hid hpv
   have HL := hid hlen
   have HB := hid hb1
   have HBr := hid hBr
   have D := hid (And.intro d0 (And.intro d1 (And.intro d2 d3)))
   have hN0 := hst.out.2.2.size
   clear hO hO1 hpv hlen hb1 hBr d1 d2 d3
   have hown := (HO1.out).alloc (.cells #[.int .u8 (op % 256)] 5)
   go_wp2_with (at_builtin; refine wpList_append_lies _ rfl _ _ 22 rfl w.heap.size 5 i0 (.int .u8 0) 1 1 Try.underlying22 hi hz0 hz1 hz2 rfl (by decide) _ _ _ rfl hown ⟨w1.heap.size, 0, none⟩ 1 1 [.int .u8 (op % 256)] rfl rfl ?c1 ?c2 ?c0 ?c3 ?c4 ?c5 _ rfl ?_)
   case c2 => simp [Value.oneCell']
   case c3 => have := HL.out; unfold maxLen; omega
   case c4 => have := HL.out; omega
   ·exact cell_one_new _ _ _
   ·omega
   ·simp; omega
   intro g cap w2 hown2 hgrow hgg hlt2
   have hfar : some wr.heap.size ≠ u4.ownBlock := fun e => by have := HPV.out _ e.symm; omega
   have ex : ∀ i v, w1.cell? ⟨wr.heap.size, i, none⟩ = some v → w2.cell? ⟨wr.heap.size, i, none⟩ = some v := fun i v hv =>
    hgrow.cell ((World.cell?_alloc_past _ _ _ hs1).trans hv) hfar
   have e0 := ex 0 _ D.out.1
   have e1 := ex 1 _ D.out.2.1
   have e2 := ex 2 _ D.out.2.2.1
   have e3 := ex 3 _ D.out.2.2.2
   have hs2 : w1.heap.size < w2.heap.size := by have := hgrow.size; simp at this; omega
   have hB2 : Below w.heap.size w w2 := ((hst.out.2.2.trans (HBr.out.mono hN0)).alloc (by omega) _).grown hgrow (by simp; omega) (fun j hj => (HO1.out.lt j hj).1)
   have hg2 : g ≠ wr.heap.size := by
    rcases hgg with e | e
    ·have := HPV.out _ e; omega
    omega
   have hX2 : w2.ownsRow w.heap.size 5 1 (.slice (some ⟨g, 0, none⟩) ((encB (l.take k)).length + 1) cap) ((encB (l.take k)).length + 1) (bv (encB (l.take k) ++ [op % 256])) := by rw [qCp]; exact hown2
   obtain ⟨n1, hn1⟩ : ∃ n1, n1 = (encB (l.take k)).length + 1 := ⟨_, rfl⟩
   obtain ⟨bs1, hbs1⟩ : ∃ bs1, bs1 = encB (l.take k) ++ [op % 256] := ⟨_, rfl⟩
   rw [← hn1, ← hbs1] at hX2
   rw [← hn1]
   have HX2 := hid hX2
   have HB2 := hid hB2
   have HN1 := hid hn1
   have HBS := hid hbs1
   have hbx : wr.heap.size < w2.heap.size := by omega
   generalize wr.heap.size = q at *
   clear hown2 hgrow hgg hown hfar ex D HB HBr HO1 HPV hN0 hs1 hs2 d0 hX2 hB2 hn1 hbs1
   by_cases h1 : op = 1
   ·subst h1
    have hm1 : n1 + 1 ≤ maxLen := by have := HL.out; have := HN1.out; unfold maxLen; omega
    have hm2 : n1 + 1 + 8 ≤ maxLen := by have := HL.out; have := HN1.out; unfold maxLen; omega
    have hm3 : (n1 + 1) * 1 ≤ 140737488355328 := by have := HL.out; have := HN1.out; omega
    have hm4 : (n1 + 1 + 8) * 1 ≤ 140737488355328 := by have := HL.out; have := HN1.out; omega
    have hws := HB2.out.size
    have hqg : some q ≠ (Value.slice (some ⟨g, 0, none⟩) n1 cap).ownBlock := by simp [Value.ownBlock]; exact fun e => hg2 e.symm
    go_wp2_with fail
    go_region_held3 (fun W => W.cell? ⟨q, 2, none⟩ = some (.int .i64 ty) ∧ W.cell? ⟨q, 3, none⟩ = some (.int .u64 bb))
     (first | go_keep | exact ⟨(hBq.cell (p := ⟨q, 2, none⟩) hq3).trans f2, (hBq.cell (p := ⟨q, 3, none⟩) hq3).trans f3⟩ | exact ⟨f2, f3⟩ | exact ⟨f2', f3'⟩)
     (first
       | (refine step_append_lies _ rfl _ _ 22 rfl w.heap.size 5 i0 (.int .u8 0) 1 1 Try.underlying22 hi hz0 hz1 hz2 rfl (by decide) _ _ _ (by first | rfl | simp [Act.eval]) ((qBY HX2.out (Below.refl _ _).drew).alloc (.cells #[.int .u8 (ty % 256)] 5)) ⟨w2.heap.size, 0, none⟩ 1 1 [.int .u8 (ty % 256)] (by first | rfl | simp [Act.eval]) rfl (cell_one_new _ _ _) (by simp [Value.oneCell']) (by omega) hm1 hm3 (by simp; omega) _ rfl ?_; intro g3 cap3 w3 hown3 hgrow3 hgg3 hlt3;
          have f2 : w3.cell? ⟨q, 2, none⟩ = some (.int .i64 ty) := hgrow3.cell ((World.cell?_alloc_past _ _ _ hbx).trans e2) hqg;
          have f3 : w3.cell? ⟨q, 3, none⟩ = some (.int .u64 bb) := hgrow3.cell ((World.cell?_alloc_past _ _ _ hbx).trans e3) hqg;
          have hq3 : q < w3.heap.size := World.block_lt_of_cell? w3 _ f2;
          have hg3 : g3 ≠ q := by { rcases hgg3 with e | e
                                    · simp [Value.ownBlock] at e; omega
                                    · simp at e; omega };
          have hB3 : Below w.heap.size w w3 := (HB2.out.drew.alloc (by simp; omega) _).grown hgrow3 (by simp; omega) (fun j hj => (HX2.out.lt j hj).1))
       | (go_at_call 102; refine (number_8 bb _).mono ?_; rintro e w4 ⟨rfl, hBq, hc4⟩)
       | (refine step_append_lies _ rfl _ _ 22 rfl w.heap.size 5 i0 (.int .u8 0) 1 1 Try.underlying22 hi hz0 hz1 hz2 rfl (by decide) _ _ _ (by first | rfl | simp [Act.eval]) (qBY hown3 hBq) ⟨w3.heap.size + 1, 0, none⟩ 8 8 (bv (be bb 8 8)) (by first | rfl | simp [Act.eval]) (by rw [qCB, qAD]) (news_of hc4) (bv_ones _) (by omega) hm2 hm4 (Nat.le_trans hB3.size hBq.size) _ rfl ?_; intro g5 cap5 w5 hown5 hgrow5 hgg5 hlt5;
          have hq5 : some q ≠ (Value.slice (some ⟨g3, 0, none⟩) (n1 + 1) cap3).ownBlock := by { simp [Value.ownBlock]; exact fun e => hg3 e.symm };
          have f2' : w5.cell? ⟨q, 2, none⟩ = some (.int .i64 ty) := hgrow5.cell ((hBq.cell (p := ⟨q, 2, none⟩) hq3).trans f2) hq5;
          have f3' : w5.cell? ⟨q, 3, none⟩ = some (.int .u64 bb) := hgrow5.cell ((hBq.cell (p := ⟨q, 3, none⟩) hq3).trans f3) hq5))
    have hB5 : Below w.heap.size w w5 := ((hB3.trans (hBq.mono hB3.size)).grown hgrow5 (Nat.le_trans hB3.size hBq.size) (fun j hj => (hown3.lt j hj).1))
    have H5 : Hid (Out w.heap.size w5 (.slice (some ⟨g5, 0, none⟩) (n1 + 1 + 8) cap5) (encB (l.take (k + 1)))) := hid (by
      have e : encB (l.take (k + 1)) = bs1 ++ [ty % 256] ++ be bb 8 8 := by
        rw [qDg l k hlt, show l.getD k InsD.z = ⟨1, n, ty, bb⟩ from by rw [List.getD_eq_getElem?_getD, HX.out]; rfl, HBS.out]; simp [insB]
      have e2 : (encB (l.take (k + 1))).length = n1 + 1 + 8 := by rw [e, HBS.out, HN1.out]; simp [qAD]
      unfold Out
      rw [e2, e, qCp, qCp]
      exact hown5)
    have HB5 := hid hB5
    clear hB5 hown5 hgrow5 hgg5 hlt5 hc4 hBq hB3 hg3 hq3 f2 f3 hown3 hgrow3 hgg3 hlt3 f2' f3' hq5
    go_wp2
    go_roundw
    case rel =>
     refine ⟨k + 1, by omega, by simp, hid ⟨fun y hy => ?_, H5.out, HB5.out⟩⟩
     rw [qBB l k InsD.z hlt, show l.getD k InsD.z = ⟨1, n, ty, bb⟩ from by rw [List.getD_eq_getElem?_getD, HX.out]; rfl] at hy
     rcases List.mem_append.1 hy with hy | hy
     ·exact hst.out.1 y hy
     obtain rfl := List.mem_singleton.1 hy; exact hok
    case measure => simp [intOf]; omega
   have h1' : (op == 1) = false := beq_eq_false_iff_ne.mpr h1
   obtain ⟨hop2, hop17, rfl, rfl, hn0, hnm, hwd⟩ := okI_mid_of op n ty bb hok h1
   obtain ⟨nm, hix, hif⟩ := row_of op hop2 hop17
   have hws := HB2.out.size
   have hqg : some q ≠ (Value.slice (some ⟨g, 0, none⟩) n1 cap).ownBlock := by simp [Value.ownBlock]; exact fun e => hg2 e.symm
   have hins : insB ⟨op, n, 0, 0⟩ = (op % 256) :: be n (widN op) (widN op) := by simp [insB, h1]
   have hgd : l.getD k InsD.z = ⟨op, n, 0, 0⟩ := by rw [List.getD_eq_getElem?_getD, HX.out]; rfl
   have HINS := hid hins
   have HGD := hid hgd
   clear hins hgd
   rcases hwd with hwd | hwd | hwd
   ·rw [hwd] at hix hif
    have HWN : Hid (widN op = 0) := hid (by unfold widN; rw [hwd]; rfl)
    have hm2 : n1 + 0 ≤ maxLen := by have := HL.out; have := HN1.out; unfold maxLen; omega
    have hm4 : (n1 + 0) * 1 ≤ 140737488355328 := by have := HL.out; have := HN1.out; omega
    clear hwd
    have hwr : IntKind.u64.wrap n = n := by simp [IntKind.wrap, IntKind.bits, IntKind.signed]; omega
    go_wp2_with fail
    go_region_held3 (fun W => W.cell? ⟨q, 0, none⟩ = some (.int .i64 op) ∧ W.cell? ⟨q, 1, none⟩ = some (.int .i64 n))
     (first | go_keep | exact ⟨e0, e1⟩ | exact ⟨(hBt.cell (p := ⟨q, 0, none⟩) hbx).trans e0, (hBt.cell (p := ⟨q, 1, none⟩) hbx).trans e1⟩ | exact ⟨(hBu.cell (p := ⟨q, 0, none⟩) hbx).trans e0, (hBu.cell (p := ⟨q, 1, none⟩) hbx).trans e1⟩ | exact ⟨f0', f1'⟩)
     (first
       | (go_at_call 103; refine (qC3 _).mono ?_; rintro e w3 ⟨rfl, hBr⟩;
          have hBt : Below w2.heap.size w2 w3 := (Below.refl _ _).drew.trans hBr)
       | (go_at_call 102; refine (number_0 n _).mono ?_; rintro e w4 ⟨rfl, hBq, hc4⟩;
          have hBu : Below w2.heap.size w2 w4 := hBt.trans (hBq.mono hBt.size))
       | (refine qDQ rfl _ _ 22 rfl w.heap.size 5 i0 1 Try.underlying22 hi _ _ _ (by first | rfl | simp [Act.eval]) (qBY HX2.out hBu) _ _ (by first | rfl | simp [Act.eval]) ?_))
    have H5 : Hid (Out w.heap.size w4 (.slice (some ⟨g, 0, none⟩) n1 cap) (encB (l.take (k + 1)))) := hid (by
      have e : encB (l.take (k + 1)) = bs1 := by
        rw [qDg l k hlt, HGD.out, HINS.out, HWN.out, HBS.out]; simp [be]
      have e2 : (encB (l.take (k + 1))).length = n1 := by rw [e, HBS.out, HN1.out]; simp
      unfold Out
      rw [e2, e]
      exact qBY HX2.out hBu)
    have HB5 : Hid (Below w.heap.size w w4) := hid (HB2.out.trans (hBu.mono hws))
    clear hc4 hBq hBu hBt hBr
    go_wp2
    go_roundw
    case rel =>
     refine ⟨k + 1, by omega, by simp, hid ⟨fun y hy => ?_, H5.out, HB5.out⟩⟩
     rw [qBB l k InsD.z hlt, HGD.out] at hy
     rcases List.mem_append.1 hy with hy | hy
     ·exact hst.out.1 y hy
     obtain rfl := List.mem_singleton.1 hy; exact hok
    case measure => simp [intOf]; omega
   ·rw [hwd] at hix hif
    have HWN : Hid (widN op = 1) := hid (by unfold widN; rw [hwd]; rfl)
    have hm2 : n1 + 1 ≤ maxLen := by have := HL.out; have := HN1.out; unfold maxLen; omega
    have hm4 : (n1 + 1) * 1 ≤ 140737488355328 := by have := HL.out; have := HN1.out; omega
    clear hwd
    have hwr : IntKind.u64.wrap n = n := by simp [IntKind.wrap, IntKind.bits, IntKind.signed]; omega
    go_wp2_with fail
    go_region_held3 (fun W => W.cell? ⟨q, 0, none⟩ = some (.int .i64 op) ∧ W.cell? ⟨q, 1, none⟩ = some (.int .i64 n))
     (first | go_keep | exact ⟨e0, e1⟩ | exact ⟨(hBt.cell (p := ⟨q, 0, none⟩) hbx).trans e0, (hBt.cell (p := ⟨q, 1, none⟩) hbx).trans e1⟩ | exact ⟨(hBu.cell (p := ⟨q, 0, none⟩) hbx).trans e0, (hBu.cell (p := ⟨q, 1, none⟩) hbx).trans e1⟩ | exact ⟨f0', f1'⟩)
     (first
       | (go_at_call 103; refine (qC3 _).mono ?_; rintro e w3 ⟨rfl, hBr⟩;
          have hBt : Below w2.heap.size w2 w3 := (Below.refl _ _).drew.trans hBr)
       | (go_at_call 102; refine (number_1 n _).mono ?_; rintro e w4 ⟨rfl, hBq, hc4⟩;
          have hBu : Below w2.heap.size w2 w4 := hBt.trans (hBq.mono hBt.size))
       | (refine step_append_lies _ rfl _ _ 22 rfl w.heap.size 5 i0 (.int .u8 0) 1 1 Try.underlying22 hi hz0 hz1 hz2 rfl (by decide) _ _ _ (by first | rfl | simp [Act.eval]) (qBY HX2.out hBu) ⟨w3.heap.size + 1, 0, none⟩ 1 1 (bv (be n 1 1)) (by first | rfl | simp [Act.eval]) (by rw [qCB, qAD]) (news_of hc4) (bv_ones _) (by omega) hm2 hm4 (Nat.le_trans hws hBu.size) _ rfl ?_; intro g5 cap5 w5 hown5 hgrow5 hgg5 hlt5;
          have f0' : w5.cell? ⟨q, 0, none⟩ = some (.int .i64 op) := hgrow5.cell ((hBu.cell (p := ⟨q, 0, none⟩) hbx).trans e0) hqg;
          have f1' : w5.cell? ⟨q, 1, none⟩ = some (.int .i64 n) := hgrow5.cell ((hBu.cell (p := ⟨q, 1, none⟩) hbx).trans e1) hqg))
    have H5 : Hid (Out w.heap.size w5 (.slice (some ⟨g5, 0, none⟩) (n1 + 1) cap5) (encB (l.take (k + 1)))) := hid (by
      have e : encB (l.take (k + 1)) = bs1 ++ be n 1 1 := by
        rw [qDg l k hlt, HGD.out, HINS.out, HWN.out, HBS.out]; simp
      have e2 : (encB (l.take (k + 1))).length = n1 + 1 := by rw [e, HBS.out, HN1.out]; simp [qAD]
      unfold Out
      rw [e2, e, qCp]
      exact hown5)
    have HB5 : Hid (Below w.heap.size w w5) := hid ((HB2.out.trans (hBu.mono hws)).grown hgrow5 (Nat.le_trans hws hBu.size) (fun j hj => (HX2.out.lt j hj).1))
    clear hown5 hgrow5 hgg5 hlt5 hc4 hBq hBu hBt hBr f0' f1'
    go_wp2
    go_roundw
    case rel =>
     refine ⟨k + 1, by omega, by simp, hid ⟨fun y hy => ?_, H5.out, HB5.out⟩⟩
     rw [qBB l k InsD.z hlt, HGD.out] at hy
     rcases List.mem_append.1 hy with hy | hy
     ·exact hst.out.1 y hy
     obtain rfl := List.mem_singleton.1 hy; exact hok
    case measure => simp [intOf]; omega
   rw [hwd] at hix hif
   have HWN : Hid (widN op = 2) := hid (by unfold widN; rw [hwd]; rfl)
   have hm2 : n1 + 2 ≤ maxLen := by have := HL.out; have := HN1.out; unfold maxLen; omega
   have hm4 : (n1 + 2) * 1 ≤ 140737488355328 := by have := HL.out; have := HN1.out; omega
   clear hwd
   have hwr : IntKind.u64.wrap n = n := by simp [IntKind.wrap, IntKind.bits, IntKind.signed]; omega
   go_wp2_with fail
   go_region_held3 (fun W => W.cell? ⟨q, 0, none⟩ = some (.int .i64 op) ∧ W.cell? ⟨q, 1, none⟩ = some (.int .i64 n))
    (first | go_keep | exact ⟨e0, e1⟩ | exact ⟨(hBt.cell (p := ⟨q, 0, none⟩) hbx).trans e0, (hBt.cell (p := ⟨q, 1, none⟩) hbx).trans e1⟩ | exact ⟨(hBu.cell (p := ⟨q, 0, none⟩) hbx).trans e0, (hBu.cell (p := ⟨q, 1, none⟩) hbx).trans e1⟩ | exact ⟨f0', f1'⟩)
    (first
      | (go_at_call 103; refine (qC3 _).mono ?_; rintro e w3 ⟨rfl, hBr⟩;
         have hBt : Below w2.heap.size w2 w3 := (Below.refl _ _).drew.trans hBr)
      | (go_at_call 102; refine (number_2 n _).mono ?_; rintro e w4 ⟨rfl, hBq, hc4⟩;
         have hBu : Below w2.heap.size w2 w4 := hBt.trans (hBq.mono hBt.size))
      | (refine step_append_lies _ rfl _ _ 22 rfl w.heap.size 5 i0 (.int .u8 0) 1 1 Try.underlying22 hi hz0 hz1 hz2 rfl (by decide) _ _ _ (by first | rfl | simp [Act.eval]) (qBY HX2.out hBu) ⟨w3.heap.size + 1, 0, none⟩ 2 2 (bv (be n 2 2)) (by first | rfl | simp [Act.eval]) (by rw [qCB, qAD]) (news_of hc4) (bv_ones _) (by omega) hm2 hm4 (Nat.le_trans hws hBu.size) _ rfl ?_; intro g5 cap5 w5 hown5 hgrow5 hgg5 hlt5;
         have f0' : w5.cell? ⟨q, 0, none⟩ = some (.int .i64 op) := hgrow5.cell ((hBu.cell (p := ⟨q, 0, none⟩) hbx).trans e0) hqg;
         have f1' : w5.cell? ⟨q, 1, none⟩ = some (.int .i64 n) := hgrow5.cell ((hBu.cell (p := ⟨q, 1, none⟩) hbx).trans e1) hqg))
   have H5 : Hid (Out w.heap.size w5 (.slice (some ⟨g5, 0, none⟩) (n1 + 2) cap5) (encB (l.take (k + 1)))) := hid (by
     have e : encB (l.take (k + 1)) = bs1 ++ be n 2 2 := by
       rw [qDg l k hlt, HGD.out, HINS.out, HWN.out, HBS.out]; simp
     have e2 : (encB (l.take (k + 1))).length = n1 + 2 := by rw [e, HBS.out, HN1.out]; simp [qAD]
     unfold Out
     rw [e2, e, qCp]
     exact hown5)
   have HB5 : Hid (Below w.heap.size w w5) := hid ((HB2.out.trans (hBu.mono hws)).grown hgrow5 (Nat.le_trans hws hBu.size) (fun j hj => (HX2.out.lt j hj).1))
   clear hown5 hgrow5 hgg5 hlt5 hc4 hBq hBu hBt hBr f0' f1'
   go_wp2
   go_roundw
   case rel =>
    refine ⟨k + 1, by omega, by simp, hid ⟨fun y hy => ?_, H5.out, HB5.out⟩⟩
    rw [qBB l k InsD.z hlt, HGD.out] at hy
    rcases List.mem_append.1 hy with hy | hy
    ·exact hst.out.1 y hy
    obtain rfl := List.mem_singleton.1 hy; exact hok
   case measure => simp [intOf]; omega
theorem encode_nil (w : World) : Calls Try.prog 57 #[.slice none 0 0] w fun e w' => e = .returned (.tuple #[.slice none 0 0, .int .i64 0]) ∧ w' = w := by
 go_enter Try.func57, Try.ntmps57
 go_wp2
 go_loopw [4, 12] (fun v i wr => v = .slice none 0 0 ∧ i = .int .i64 0 ∧ wr = w) (fun _ _ _ => 0)
 case atStart => exact ⟨rfl, rfl, rfl⟩
 case round =>
  obtain ⟨rfl, rfl, rfl⟩ := hrel
  go_wp2
  go_ret2
  exact ⟨rfl, rfl⟩
theorem encode_big (A : Option Addr) (n c : Nat) (h : 4096 < n) (w : World) : Calls Try.prog 57 #[.slice A n c] w fun e w' => e = .returned (.tuple #[.slice none 0 0, .int .i64 3]) ∧ w' = w := by
 have h' : decide (4096 < (n : Int)) = true := by simp; omega
 go_enter Try.func57, Try.ntmps57
 go_wp2
 go_ret2
 exact ⟨rfl, rfl⟩
def InsRow (W : World) (v : Value) (l : List InsD) : Prop := (v = .slice none 0 0 ∧ l = []) ∨ ∃ b o c, v = .slice (some ⟨b, o, none⟩) l.length c ∧ b < W.heap.size ∧ qDa W b o l
theorem encode_any (v : Value) (l : List InsD) (w : World) (h : InsRow w v l) (hu : ∀ x ∈ l, U64 x.b) :
  Calls Try.prog 57 #[v] w fun e w' => Below w.heap.size w w' ∧
   (4096 < l.length ∧ e = .returned (.tuple #[.slice none 0 0, .int .i64 3]) ∨ l.length ≤ 4096 ∧ (((∀ x ∈ l, x.ok = true) ∧ ∃ r, e = .returned (.tuple #[r, .int .i64 0]) ∧ Out w.heap.size w' r (encB l)) ∨ (∃ x ∈ l, x.ok = false) ∧ e = .returned (.tuple #[.slice none 0 0, .int .i64 51]))) := by
 rcases h with ⟨rfl, rfl⟩ | ⟨b, o, c, rfl, hb, hc⟩
 ·exact (encode_nil w).mono fun e w' ⟨he, hw⟩ => ⟨hw ▸ Below.refl _ _, .inr ⟨by simp, .inl ⟨by simp, _, he, by simpa [encB, Out, bv] using World.ownsRow_nil _ _ _ _⟩⟩⟩
 ·by_cases hl : 4096 < l.length
  ·exact (encode_big _ _ c hl w).mono fun e w' ⟨he, hw⟩ => ⟨hw ▸ Below.refl _ _, .inl ⟨hl, he⟩⟩
  ·exact (encode_some b o c l w hc hb (by omega) hu).mono fun e w' ⟨hB, hr⟩ => ⟨hB, .inr ⟨by omega, hr⟩⟩
end Enc
end
section
namespace DecLaw
open Go.RowKit Base Val Ins Wr Enc
def valB (l : List Int) : Int := l.foldl (fun v x => v * 256 + x) 0
def qB5 (l : List Int) : Prop := ∀ x ∈ l, 0 ≤ x ∧ x < 256
theorem qDv (l : List Int) (x : Int) : valB (l ++ [x]) = valB l * 256 + x := by simp [valB]
theorem be_snoc (n : Int) (m : Nat) : be n (m + 1) (m + 1) = be (n / 256) m m ++ [n % 256] := by
 unfold be
 rw [List.range_succ, List.map_append]
 congr 1
 ·apply List.map_congr_left
  intro t ht
  have ht' : t < m := List.mem_range.1 ht
  rw [show 8 * (m + 1 - 1 - t) = 8 + 8 * (m - 1 - t) by omega, Int.pow_add, ← Int.ediv_ediv_of_nonneg (by decide)]
  rfl
 simp
theorem be_valB : ∀ (m : Nat) (l : List Int), l.length = m → qB5 l → be (valB l) m m = l := by
 intro m
 induction m with
 | zero => intro l hl _; rw [List.length_eq_zero_iff.1 hl]; rfl
 | succ m ih =>
  intro l hl hb
  obtain ⟨l0, x, rfl⟩ : ∃ l0 x, l = l0 ++ [x] := ⟨l.dropLast, l.getLast (by intro e; simp [e] at hl), (List.dropLast_concat_getLast _).symm⟩
  have hx := hb x (by simp)
  rw [qDv, be_snoc, show (valB l0 * 256 + x) / 256 = valB l0 by omega, show (valB l0 * 256 + x) % 256 = x by omega, ih l0 (by simpa using hl) (fun y hy => hb y (by simp [hy]))]
theorem valB_be : ∀ (m : Nat) (n : Int), 0 ≤ n → n < 256 ^ m → valB (be n m m) = n := by
 intro m
 induction m with
 | zero =>
  intro n h0 h1; simp at h1; have : n = 0 := by omega
  subst this; rfl
 | succ m ih =>
  intro n h0 h1
  rw [Int.pow_succ] at h1
  rw [be_snoc, qDv, ih (n / 256) (by omega) (by omega)]
  omega
theorem be_bytes (n : Int) (m : Nat) : qB5 (be n m m) := by
 intro x hx
 unfold be at hx
 obtain ⟨t, _, rfl⟩ := List.mem_map.1 hx
 omega
def qBK (r : List Int) : InsD :=
 if r.getD 0 0 = 1 then ⟨1, 0, r.getD 1 0, valB ((r.drop 2).take 8)⟩ else ⟨r.getD 0 0, valB ((r.drop 1).take (widN (r.getD 0 0))), 0, 0⟩
theorem ok_op {x : InsD} (h : x.ok = true) : 1 ≤ x.op ∧ x.op ≤ 17 := by
 unfold InsD.ok okI at h
 split at h
 ·cases h
 omega
theorem ok_n {x : InsD} (h : x.ok = true) (h1 : x.op ≠ 1) : x.ty = 0 ∧ x.b = 0 ∧ 0 ≤ x.n ∧ x.n < 256 ^ widN x.op := by
 obtain ⟨_, _, ht, hb, hn0, _, hw⟩ := okI_mid_of x.op x.n x.ty x.b h h1
 refine ⟨ht, hb, hn0, ?_⟩
 have hm : x.n ≤ most x.op := by
  unfold InsD.ok okI at h
  split at h
  ·cases h
  split at h
  ·cases h
  rename_i h3; simp only [Decidable.not_not] at h3; exact h3.2.2.2
 unfold most at hm
 unfold widN
 rcases hw with e | e | e <;> rw [e] at hm ⊢ <;> simp at hm ⊢ <;> omega
theorem ok_push {x : InsD} (h : x.ok = true) (h1 : x.op = 1) : x.n = 0 ∧ 1 ≤ x.ty ∧ x.ty ≤ 3 := by
 unfold InsD.ok at h
 rw [h1, okI_1] at h
 simp only [Bool.and_eq_true, beq_iff_eq] at h
 refine ⟨h.1, ?_⟩
 by_cases hn : x.ty < 1 ∨ 3 < x.ty
 rotate_left
 ·omega
 rw [okV_no _ _ hn] at h; exact absurd h.2 (by simp)
theorem insB_len {x : InsD} (h : x.ok = true) : ((insB x).length : Int) = qBs x.op := by
 obtain ⟨h1, h2⟩ := ok_op h
 have hs : qBs x.op = 1 + wid x.op := by unfold qBs; rw [if_neg (by omega)]
 rw [hs]
 unfold insB
 by_cases e : x.op = 1
 ·rw [if_pos e, e]; simp [qAD, wid]
 rw [if_neg e]
 have : 0 ≤ wid x.op := by
  unfold wid; split
  ·omega
  split
  ·omega
  split <;> omega
 simp only [List.length_cons, qAD]
 unfold widN
 omega
theorem qCS {x : InsD} (h : x.ok = true) (hb : U64 x.b) (t : List Int) : qBK (insB x ++ t) = x := by
 obtain ⟨h1, h2⟩ := ok_op h
 have hop : x.op % 256 = x.op := by omega
 obtain ⟨op, n, ty, b⟩ := x
 dsimp only at *
 by_cases e : op = 1
 rotate_left
 ·obtain ⟨ht, hb0, hn0, hn1⟩ := ok_n h e
  dsimp only at ht hb0 hn0 hn1
  subst ht hb0
  unfold qBK insB
  simp only [if_neg e, List.cons_append, List.getD_cons_zero, List.drop_succ_cons, List.drop_zero, hop]
  rw [List.take_append_of_le_length (by rw [qAD]; omega), List.take_of_length_le (by rw [qAD]; omega), valB_be _ _ hn0 hn1]
 subst e
 obtain ⟨hn, ht1, ht3⟩ := ok_push h rfl
 dsimp only at hn ht1 ht3
 subst hn
 unfold qBK insB
 have hv := valB_be 8 b hb.1 (by have := hb.2; simpa using this)
 simp only [if_true, List.cons_append, List.getD_cons_zero, List.getD_cons_succ, List.drop_succ_cons, List.drop_zero, hop]
 rw [show ty % 256 = ty by omega, List.take_append_of_le_length (by rw [qAD]; omega), List.take_of_length_le (by rw [qAD]; omega), hv]
theorem qD5 (r : List Int) (hr : qB5 r) (h0 : qBs (r.getD 0 0) ≠ 0) (hl : qBs (r.getD 0 0) ≤ r.length) (hn : r ≠ []) :
  insB (qBK r) ++ r.drop (qBs (r.getD 0 0)).toNat = r := by
 cases r with
 | nil => exact absurd rfl hn
 | cons op r =>
  rw [List.getD_cons_zero] at *
  have hop := hr op (by simp)
  have hb : qB5 r := fun x hx => hr x (by simp [hx])
  have h17 : ¬(op < 1 ∨ 17 < op) := by
   intro h; apply h0; unfold qBs; rw [if_pos h]
  have hsz : qBs op = 1 + wid op := by unfold qBs; rw [if_neg h17]
  by_cases e : op = 1
  ·subst e
   have h10 : qBs 1 = 10 := rfl
   rw [h10] at hl ⊢
   cases r with
   | nil => simp at hl
   | cons ty r =>
    have hty := hb ty (by simp)
    have hl8 : 8 ≤ r.length := by simp at hl; omega
    unfold qBK insB
    simp only [List.getD_cons_zero, List.getD_cons_succ, List.drop_succ_cons, List.drop_zero, if_true]
    rw [be_valB 8 (r.take 8) (by rw [List.length_take]; omega) (fun x hx => hb x (by simp [List.mem_of_mem_take hx])), show ty % 256 = ty by omega]
    simp
  unfold qBK insB
  have hw0 : 0 ≤ wid op := by
   unfold wid; split
   ·omega
   split
   ·omega
   split <;> omega
  have hlw : widN op ≤ r.length := by unfold widN; simp at hl; omega
  simp only [List.getD_cons_zero, List.drop_succ_cons, List.drop_zero, if_neg e]
  rw [be_valB (widN op) (r.take (widN op)) (by rw [List.length_take]; omega) (fun x hx => hb x (List.mem_of_mem_take hx)), show op % 256 = op by omega, hsz, show (1 + wid op).toNat = widN op + 1 by unfold widN; omega]
  simp
def DecOk (bs : List Int) (l : List InsD) : Prop := (∀ x ∈ l, x.ok = true ∧ U64 x.b) ∧ l.length ≤ 4096 ∧ bs = encB l
def qDV (bs : List Int) : Prop := ∃ l r, (∀ x ∈ l, x.ok = true ∧ U64 x.b) ∧ l.length = 4097 ∧ bs = encB l ++ r
def DecBad (bs : List Int) : Prop := ∃ l r, (∀ x ∈ l, x.ok = true ∧ U64 x.b) ∧ l.length ≤ 4096 ∧ bs = encB l ++ r ∧ r ≠ [] ∧ ∀ x t, x.ok = true → U64 x.b → r ≠ insB x ++ t
theorem insB_front {x y : InsD} {s t : List Int} (hx : x.ok = true ∧ U64 x.b) (hy : y.ok = true ∧ U64 y.b) (h : insB x ++ s = insB y ++ t) : x = y ∧ s = t := by
 have e : x = y := by rw [← qCS hx.1 hx.2 s, h, qCS hy.1 hy.2 t]
 subst e
 exact ⟨rfl, List.append_cancel_left h⟩
theorem qDh : ∀ (l m : List InsD) (s t : List Int), (∀ x ∈ l, x.ok = true ∧ U64 x.b) → (∀ x ∈ m, x.ok = true ∧ U64 x.b) → encB l ++ s = encB m ++ t →
  (∃ d, m = l ++ d ∧ s = encB d ++ t) ∨ (∃ d, l = m ++ d ∧ t = encB d ++ s) := by
 intro l
 induction l with
 | nil => intro m s t _ _ h; exact .inl ⟨m, rfl, by simpa [encB] using h⟩
 | cons x l ih =>
  intro m s t hl hm h
  cases m with
  | nil => exact .inr ⟨x :: l, rfl, by simpa [encB] using h.symm⟩
  | cons y m =>
   simp only [encB, List.flatMap_cons, List.append_assoc] at h
   obtain ⟨rfl, h2⟩ := insB_front (hl x (by simp)) (hm y (by simp)) h
   rcases ih m s t (fun z hz => hl z (by simp [hz])) (fun z hz => hm z (by simp [hz])) h2 with ⟨d, e1, e2⟩ | ⟨d, e1, e2⟩
   ·exact .inl ⟨d, by rw [e1]; rfl, e2⟩
   exact .inr ⟨d, by rw [e1]; rfl, e2⟩
theorem qDe (x : InsD) (l : List InsD) : encB (x :: l) = insB x ++ encB l := rfl
theorem insB_ne (x : InsD) (t : List Int) : insB x ++ t ≠ [] := by unfold insB; simp
theorem ok_ok {bs : List Int} {l m : List InsD} (h : DecOk bs l) (k : DecOk bs m) : l = m := by
 have e : encB l ++ [] = encB m ++ [] := by rw [List.append_nil, List.append_nil, ← h.2.2, ← k.2.2]
 rcases qDh l m [] [] h.1 k.1 e with ⟨d, e1, e2⟩ | ⟨d, e1, e2⟩ <;>
 cases d with
 | nil => simp [e1]
 | cons y d => rw [qDe, List.append_assoc] at e2; exact absurd e2.symm (insB_ne _ _)
theorem ok_big {bs : List Int} {l : List InsD} (h : DecOk bs l) (k : qDV bs) : False := by
 obtain ⟨m, r, hm, hl, hr⟩ := k
 have e : encB l ++ [] = encB m ++ r := by rw [List.append_nil, ← h.2.2, hr]
 rcases qDh l m [] r h.1 hm e with ⟨d, e1, e2⟩ | ⟨d, e1, e2⟩
 ·cases d with
  | nil => have := h.2.1; rw [e1] at hl; simp at hl; omega
  | cons y d => rw [qDe, List.append_assoc] at e2; exact absurd e2.symm (insB_ne _ _)
 have := h.2.1; rw [e1] at this; simp at this; omega
theorem ok_bad {bs : List Int} {l : List InsD} (h : DecOk bs l) (k : DecBad bs) : False := by
 obtain ⟨m, r, hm, hl, hr, hne, hno⟩ := k
 have e : encB l ++ [] = encB m ++ r := by rw [List.append_nil, ← h.2.2, hr]
 rcases qDh l m [] r h.1 hm e with ⟨d, e1, e2⟩ | ⟨d, e1, e2⟩
 ·have := congrArg List.length e2; simp at this; exact hne (List.length_eq_zero_iff.1 (by omega))
 cases d with
 | nil => exact hne (by simpa [encB] using e2)
 | cons y d => exact hno y (encB d ++ []) (h.1 y (by rw [e1]; simp)).1 (h.1 y (by rw [e1]; simp)).2 (by rw [e2, qDe, List.append_assoc])
theorem big_bad {bs : List Int} (h : qDV bs) (k : DecBad bs) : False := by
 obtain ⟨l, s, hl, hll, hs⟩ := h
 obtain ⟨m, r, hm, hml, hr, hne, hno⟩ := k
 rcases qDh l m s r hl hm (by rw [← hs, hr]) with ⟨d, e1, e2⟩ | ⟨d, e1, e2⟩
 ·rw [e1] at hml; simp at hml; omega
 cases d with
 | nil => rw [e1] at hll; simp at hll; omega
 | cons y d => exact hno y (encB d ++ s) (hl y (by rw [e1]; simp)).1 (hl y (by rw [e1]; simp)).2 (by rw [e2, qDe, List.append_assoc])
end DecLaw
end
section
namespace Dec
open Go.RowKit Base Val Ins Wr Enc DecLaw
def slen : Value → Nat
 | .slice _ n _ => n
 | _ => 0
def qDc (x : InsD) : List Value := [.int .i64 x.op, .int .i64 x.n, .int .i64 x.ty, .int .u64 x.b]
def insC (l : List InsD) : List Value := l.flatMap qDc
theorem qEj (l : List InsD) (x : InsD) : insC (l ++ [x]) = insC l ++ qDc x := by simp [insC]
theorem qDf (l : List InsD) (x : InsD) : encB (l ++ [x]) = encB l ++ insB x := by simp [encB]
theorem infoIns : (Try.prog.info? 115).map (fun i => (i.zero, i.size, i.bytes)) = some (some (.agg #[.int .i64 0, .int .i64 0, .int .i64 0, .int .u64 0]), 4, 32) := by kernel_rfl
def BytesAt (W : World) (b o : Nat) (bs : List Int) : Prop := ∀ j y, bs[j]? = some y → W.cell? ⟨b, o + j, none⟩ = some (.int .u8 y)
theorem or_low (a x : Int) (ha : 0 ≤ a) (ha2 : a < 18446744073709551616) (hx : 0 ≤ x) (hx2 : x < 256) : bits .or .u64 (a * 256 % 18446744073709551616) x = a * 256 % 18446744073709551616 + x := by
 obtain ⟨n, rfl⟩ := Int.eq_ofNat_of_zero_le ha
 obtain ⟨y, rfl⟩ := Int.eq_ofNat_of_zero_le hx
 have hy : y < 2 ^ 8 := by omega
 have e : ((n : Int) * 256 % 18446744073709551616) = ((n % 72057594037927936 * 256 : Nat) : Int) := by omega
 rw [e, u64_or_nat _ _ (by omega) (by omega)]
 have := Nat.shiftLeft_add_eq_or_of_lt hy (n % 72057594037927936)
 rw [Nat.shiftLeft_eq] at this
 rw [← this]
 omega
theorem wrap_256 (a : Int) : IntKind.u64.wrap (a * 256) = a * 256 % 18446744073709551616 := by simp [IntKind.wrap, IntKind.bits, IntKind.signed]
theorem valB_lt (l : List Int) (h : qB5 l) : 0 ≤ valB l ∧ valB l < 256 ^ l.length := by
 have e := be_valB l.length l rfl h
 induction hn : l.length generalizing l with
 | zero => rw [List.length_eq_zero_iff.1 hn]; exact ⟨by decide, by decide⟩
 | succ m ih =>
  obtain ⟨l0, x, rfl⟩ : ∃ l0 x, l = l0 ++ [x] := ⟨l.dropLast, l.getLast (by intro e; simp [e] at hn), (List.dropLast_concat_getLast _).symm⟩
  have hb0 : qB5 l0 := fun y hy => h y (by simp [hy])
  have hx := h x (by simp)
  have hm : l0.length = m := by simpa using hn
  have := ih l0 hb0 (be_valB l0.length l0 rfl hb0) hm
  rw [qDv, Int.pow_succ]
  omega
theorem foldl_val (l : List Int) : ∀ a : Int, l.foldl (fun v x => v * 256 + x) a = a * 256 ^ l.length + valB l := by
 induction l with
 | nil => intro a; simp [valB]
 | cons x l ih =>
  intro a
  have e := ih (0 * 256 + x)
  show l.foldl (fun v x => v * 256 + x) (a * 256 + x) = a * 256 ^ (l.length + 1) + l.foldl (fun v x => v * 256 + x) (0 * 256 + x)
  rw [ih (a * 256 + x), e, Int.pow_succ, Int.add_mul, Int.mul_assoc, Int.mul_comm 256]
  simp [Int.add_assoc]
theorem valB_cons (x : Int) (l : List Int) (_ : qB5 l) : valB (x :: l) = x * 256 ^ l.length + valB l := by
 have := foldl_val l x
 show l.foldl (fun v x => v * 256 + x) (0 * 256 + x) = _
 rw [show (0 : Int) * 256 + x = x by omega]; exact this
theorem qCA {bs r : List Int} {l : List InsD} (hl : ∀ x ∈ l, x.ok = true ∧ U64 x.b) (h4 : l.length ≤ 4096) (hbs : bs = encB l ++ r) (hr : r ≠ []) (hp : (qBK r).ok = false) : DecBad bs :=
 ⟨l, r, hl, h4, hbs, hr, fun x t hx hb e => by rw [e, qCS hx hb t, hx] at hp; cases hp⟩
theorem qD8 {W W' : World} {N0 n sz : Nat} {E : TypeId} {v : Value} {xs : List Value} (h : W.ownsRow N0 E sz v n xs) (hB : Below W.heap.size W W') : W'.ownsRow N0 E sz v n xs := by
 refine ⟨h.1, ?_⟩
 rcases h.2 with r | ⟨g, cap, cur, hv, hb, hg, r⟩
 ·exact .inl r
 exact .inr ⟨g, cap, cur, hv, hb, (hB.block g (Array.getElem?_eq_some_iff.1 hg).1).trans hg, r⟩
def DecPost (bs : List Int) (w : World) (e : Ending) (w' : World) : Prop :=
 Below w.heap.size w w' ∧
  ((∃ l v, DecOk bs l ∧ e = .returned (.tuple #[v, .int .i64 0]) ∧ w'.ownsRow w.heap.size 115 4 v l.length (insC l)) ∨
    (DecBad bs ∧ e = .returned (.tuple #[.slice none 0 0, .int .i64 51])) ∨ (qDV bs ∧ e = .returned (.tuple #[.slice none 0 0, .int .i64 3])))
theorem decode_some (b o c : Nat) (bs : List Int) (w : World) (h : BytesAt w b o bs) (hb : b < w.heap.size) (hbs : qB5 bs) (hc : bs.length ≤ c) :
  Calls Try.prog 51 #[.slice (some ⟨b, o, none⟩) bs.length c] w (DecPost bs w) := by
 have H := hid h
 have HBS := hid hbs
 clear h hbs
 go_enter Try.func51, Try.ntmps51
 go_wp2
 go_loopw [0, 4] (fun t v wr => ∃ (l : List InsD) (r : List Int) (p q c' : Nat), t = .slice (some ⟨b, q, none⟩) r.length c' ∧ (0 < r.length → q = o + p) ∧ r.length ≤ c' ∧ l.length ≤ 4096 ∧ p + r.length = bs.length ∧ Hid (bs.drop p = r ∧ bs = encB l ++ r ∧ (∀ x ∈ l, x.ok = true ∧ U64 x.b) ∧ wr.ownsRow w.heap.size 115 4 v l.length (insC l) ∧ Below w.heap.size w wr)) (fun t _ _ => slen t)
 case atStart => exact ⟨[], bs, 0, o, c, rfl, fun _ => rfl, hc, by simp, by simp, hid ⟨rfl, rfl, by simp, World.ownsRow_nil _ _ _ _, Below.refl _ _⟩⟩
 case round =>
  obtain ⟨l, r, p, q, c', rfl, hq, hrc, hl4, hp, hst⟩ := hrel
  obtain ⟨wo, rfl⟩ : ∃ wo, wo = wr := ⟨_, rfl⟩
  by_cases hlt : 0 < r.length
  rotate_left
  ·obtain rfl : r = [] := List.length_eq_zero_iff.1 (by omega)
   go_wp2
   go_ret2
   exact ⟨hst.out.2.2.2.2, .inl ⟨l, _, ⟨hst.out.2.2.1, hl4, by have := hst.out.2.1; rwa [List.append_nil] at this⟩, rfl, hst.out.2.2.2.1⟩⟩
  obtain rfl := hq hlt
  have hb0 : ∃ y, wo.cell? ⟨b, o + p, none⟩ = some (.int .u8 y) ∧ r.getD 0 0 = y ∧ 0 ≤ y ∧ y < 256 := by
   obtain ⟨y, hy⟩ : ∃ y, bs[p]? = some y := ⟨bs[p]'(by omega), List.getElem?_eq_getElem (by omega)⟩
   refine ⟨y, (hst.out.2.2.2.2.cell (p := ⟨b, o + p, none⟩) hb).trans (H.out p y hy), ?_, HBS.out y (List.mem_of_getElem? hy)⟩
   rw [← hst.out.1, List.getD_eq_getElem?_getD, List.getElem?_drop, Nat.add_zero, hy]; rfl
  obtain ⟨op, hop, hop2, hop0, hop1⟩ := hb0
  have hsz : (qBs op = 0 ∨ ∃ s1 : Nat, qBs op = ((s1 + 1 : Nat) : Int) ∧ s1 ≤ 9) := by
   unfold qBs; split
   ·left; rfl
   right; unfold wid; split
   ·exact ⟨9, rfl, by omega⟩
   split
   ·exact ⟨1, rfl, by omega⟩
   split
   ·exact ⟨2, rfl, by omega⟩
   exact ⟨0, rfl, by omega⟩
  have HS := hid (fun W => size_ins op 0 0 0 W)
  unfold insV at HS
  have hbad : (qBs op = 0 ∨ (r.length : Int) < qBs op) → DecBad bs := fun hh => by
   refine ⟨l, r, hst.out.2.2.1, hl4, hst.out.2.1, by intro e; rw [e] at hlt; simp at hlt, fun x t hx _ e => ?_⟩
   obtain ⟨o1, o2⟩ := ok_op hx
   have hxo : x.op = op := by
    rw [← hop2, e]; unfold insB; simp only [List.cons_append, List.getD_cons_zero]; omega
   have hxl := insB_len hx
   rw [hxo] at hxl
   have : (r.length : Int) = (insB x).length + t.length := by rw [e, List.length_append]; push_cast; rfl
   rcases hh with hh | hh
   ·rw [hh] at hxl; unfold insB at hxl; simp at hxl; omega
   omega
  have HBAD := hid hbad
  have HO2 := hid hop2
  clear hbad hop2
  rcases hsz with hsz | ⟨s1, hsz, hs9⟩
  ·have hbd := hid (HBAD.out (.inl hsz))
   rw [hsz] at HS
   clear HBAD hsz
   go_wp2_with fail
   refine (HS.out _).mono ?_
   rintro e w1 ⟨rfl, hb1⟩
   go_wp2
   go_ret2
   exact ⟨hst.out.2.2.2.2.trans (((Below.refl _ _).alloc (Nat.le_refl _) _).trans (hb1.mono (by simp)) |>.mono hst.out.2.2.2.2.size), .inr (.inl ⟨hbd.out, rfl⟩)⟩
  rw [hsz] at HS
  by_cases hshort : r.length < s1 + 1
  ·have hbd := hid (HBAD.out (.inr (by rw [hsz]; omega)))
   have hx1 : (((s1 + 1 : Nat) : Int) == 0) = false := beq_eq_false_iff_ne.mpr (by omega)
   have hx2 : decide ((r.length : Int) < ((s1 + 1 : Nat) : Int)) = true := by simp; omega
   clear HBAD hsz
   go_wp2_with fail
   refine (HS.out _).mono ?_
   rintro e w1 ⟨rfl, hb1⟩
   go_wp2
   all_goals go_ret2
   all_goals exact ⟨hst.out.2.2.2.2.trans (((Below.refl _ _).alloc (Nat.le_refl _) _).trans (hb1.mono (by simp)) |>.mono hst.out.2.2.2.2.size), .inr (.inl ⟨hbd.out, rfl⟩)⟩
  clear HBAD
  have hcl : ∀ j, j < s1 → ∃ y, wo.cell? ⟨b, o + p + 1 + j, none⟩ = some (.int .u8 y) ∧ 0 ≤ y ∧ y < 256 ∧ (r.drop 1).take (j + 1) = (r.drop 1).take j ++ [y] := fun j hj => by
   obtain ⟨y, hy⟩ : ∃ y, bs[p + 1 + j]? = some y := ⟨bs[p + 1 + j]'(by omega), List.getElem?_eq_getElem (by omega)⟩
   refine ⟨y, ?_, (HBS.out y (List.mem_of_getElem? hy)).1, (HBS.out y (List.mem_of_getElem? hy)).2, ?_⟩
   ·have := (hst.out.2.2.2.2.cell (p := ⟨b, o + (p + 1 + j), none⟩) hb).trans (H.out (p + 1 + j) y hy)
    rwa [show o + (p + 1 + j) = o + p + 1 + j by omega] at this
   have e : (r.drop 1)[j]? = some y := by rw [← hst.out.1, List.getElem?_drop, List.getElem?_drop, ← hy]; congr 1; omega
   rw [List.take_add_one, e]; rfl
  have HCL := hid hcl
  clear hcl
  have hx1 : (((s1 + 1 : Nat) : Int) == 0) = false := beq_eq_false_iff_ne.mpr (by omega)
  have hx2 : decide ((r.length : Int) < ((s1 + 1 : Nat) : Int)) = false := by simp; omega
  have hx3 : decide ((r.length : Int) < (s1 : Int) + 1) = false := by simp; omega
  by_cases hc1 : c' = 1
  ·subst hc1
   obtain rfl : s1 = 0 := by omega
   have h1 : op ≠ 1 := by
    intro e; subst e; have : qBs 1 = 10 := rfl
    rw [this] at hsz; simp at hsz
   go_wp2_with fail
   refine (HS.out _).mono ?_
   rintro e w1 ⟨rfl, hb1⟩
   have hBr : Hid (Below wo.heap.size wo w1) := hid (((Below.refl _ _).alloc (Nat.le_refl _) _).trans (hb1.mono (by simp)))
   have hbo : b < wo.heap.size := Nat.lt_of_lt_of_le hb hst.out.2.2.2.2.size
   go_wp2
   go_loopw [7, 32] (fun v i W => ∃ j : Nat, j ≤ 0 ∧ i = .int .i64 (j : Int) ∧ v = .int .u64 (valB ((r.drop 1).take j) % 18446744073709551616) ∧ W = w1) (fun _ i _ => (0 - intOf i).toNat)
   case atStart => exact ⟨0, Nat.zero_le _, rfl, rfl, rfl⟩
   case round =>
    obtain ⟨j, hj, rfl, rfl, hW⟩ := hrel
    subst hW
    obtain rfl : j = 0 := by omega
    clear HCL
    have h1' : (op == 1) = false := beq_eq_false_iff_ne.mpr h1
    have hwN : widN op = 0 := by
     have : qBs op = 1 + wid op := by
      unfold qBs; rw [if_neg]; intro hh; unfold qBs at hsz; rw [if_pos hh] at hsz; omega
     unfold widN; omega
    have hj2 : 0 ≤ 2 := by
     rw [← hwN]; unfold widN wid; rw [if_neg h1]; split
     ·decide
     split <;> decide
    have hdrop : r.drop 1 ≠ [] ∨ True := .inr trivial
    have hbyt : qB5 ((r.drop 1).take 0) := fun x hx => HBS.out x (by
      have := List.mem_of_mem_drop (List.mem_of_mem_take hx); rw [← hst.out.1] at this; exact List.mem_of_mem_drop this)
    have hvl := valB_lt _ hbyt
    have hlen : ((r.drop 1).take 0).length = 0 := by rw [List.length_take, List.length_drop]; omega
    rw [hlen] at hvl
    have hv65 : valB ((r.drop 1).take 0) < 65536 := by
     rw [List.take_zero]; decide
    have hP : qBK r = ⟨op, valB ((r.drop 1).take 0), 0, 0⟩ := by unfold qBK; rw [HO2.out, if_neg h1, hwN]
    have hv0 := hvl.1
    clear hvl hlen hbyt hdrop
    rw [show valB ((r.drop 1).take 0) % 18446744073709551616 = valB ((r.drop 1).take 0) by omega]
    generalize valB ((r.drop 1).take 0) = n at *
    have hwr : IntKind.i64.wrap n = n := by simp [IntKind.wrap, IntKind.bits, IntKind.signed]; omega
    have hrowB : wr.heap[wo.heap.size]? = some (.cells #[.int .i64 op, .int .i64 0, .int .i64 0, .int .u64 0] 115 (0, 0)) := (hb1.block wo.heap.size (by simp)).trans (World.alloc_heap_new wo _)
    have g0 : wr.cell? ⟨wo.heap.size, 0, none⟩ = some (.int .i64 op) := by simp [World.cell?, hrowB]
    have g1 : wr.cell? ⟨wo.heap.size, 1, none⟩ = some (.int .i64 0) := by simp [World.cell?, hrowB]
    have g2 : wr.cell? ⟨wo.heap.size, 2, none⟩ = some (.int .i64 0) := by simp [World.cell?, hrowB]
    have g3 : wr.cell? ⟨wo.heap.size, 3, none⟩ = some (.int .u64 0) := by simp [World.cell?, hrowB]
    have gf : wr.frozen? ⟨wo.heap.size, 1, none⟩ = false := by simp [World.frozen?, hrowB]
    have HR := hid (fun W => qCL op n 0 0 ⟨by omega, by omega⟩ W)
    unfold insV at HR
    clear hrowB
    have HU : Hid (U64 0) := hid ⟨by omega, by omega⟩
    have HBX := hBr.out.setCell (p := ⟨wo.heap.size, 1, none⟩) (Nat.le_refl _) (.int .i64 n)
    obtain ⟨WW, hWW⟩ : ∃ WW, WW = wr.setCell ⟨wo.heap.size, 1, none⟩ (.int .i64 n) := ⟨_, rfl⟩
    rw [← hWW] at HBX
    have hwb : wo.heap.size < (wr.setCell ⟨wo.heap.size, 1, none⟩ (.int .i64 n)).heap.size := by have := hb1.size; simp at *; omega
    go_wp2_with fail
    subst hWW
    have HB2 := hid HBX
    have hbw : b < wo.heap.size := hbo
    refine (HR.out _).mono ?_
    rintro e w3 ⟨rfl, hb3⟩
    have hB3 : Below wo.heap.size wo w3 := HB2.out.trans (hb3.mono HB2.out.size)
    have hwl : wo.heap.size < w3.heap.size := by have := hBr.out.size; have := hb3.size; have := hb1.size; simp at *; omega
    have k0 : w3.cell? ⟨wo.heap.size, 0, none⟩ = some (.int .i64 op) := (hb3.cell (p := ⟨wo.heap.size, 0, none⟩) hwb).trans (by rw [World.cell?_setCell_other _ _ _ _ (by intro e; injection e with _ e; omega)]; exact g0)
    have k1 : w3.cell? ⟨wo.heap.size, 1, none⟩ = some (.int .i64 n) := (hb3.cell (p := ⟨wo.heap.size, 1, none⟩) hwb).trans (World.cell?_setCell_same _ _ _ g1)
    have k2 : w3.cell? ⟨wo.heap.size, 2, none⟩ = some (.int .i64 0) := (hb3.cell (p := ⟨wo.heap.size, 2, none⟩) hwb).trans (by rw [World.cell?_setCell_other _ _ _ _ (by intro e; injection e with _ e; omega)]; exact g2)
    have k3 : w3.cell? ⟨wo.heap.size, 3, none⟩ = some (.int .u64 0) := (hb3.cell (p := ⟨wo.heap.size, 3, none⟩) hwb).trans (by rw [World.cell?_setCell_other _ _ _ _ (by intro e; injection e with _ e; omega)]; exact g3)
    clear g0 g1 g2 g3 gf
    cases hok : okI op n 0 0 with
    | false =>
     have hbd := hid (qCA hst.out.2.2.1 hl4 hst.out.2.1 (by intro e; rw [e] at hlt; simp at hlt) (by rw [hP]; exact hok))
     have HB3 := hid hB3
     clear hb3 hB3
     go_wp2
     go_ret2
     exact ⟨hst.out.2.2.2.2.trans (HB3.out.mono hst.out.2.2.2.2.size), .inr (.inl ⟨hbd.out, rfl⟩)⟩
    | true =>
     obtain ⟨i0, hi, hz0, hz1, hz2⟩ := info_parts infoIns
     have hown3 := qD8 hst.out.2.2.2.1 hB3
     have HB3 := hid hB3
     have hN3 : w.heap.size ≤ w3.heap.size := Nat.le_trans hst.out.2.2.2.2.size hB3.size
     clear hb3 hB3
     go_wp2_with (at_builtin; refine wpList_append_lies _ rfl _ _ 75 rfl w.heap.size 115 i0 _ 4 32 Try.underlying75 hi hz0 hz1 hz2 rfl (by decide) _ _ _ rfl (hown3.alloc _) ⟨w3.heap.size, 0, none⟩ 1 1 (qDc ⟨op, n, 0, 0⟩) rfl rfl (World.news_of_block (World.alloc_heap_new w3 _)) ?c2 ?c0 ?c3 ?c4 ?c5 _ rfl ?_)
     case c2 => intro u hu; simp only [qDc, List.mem_cons, List.not_mem_nil, or_false] at hu; rcases hu with rfl | rfl | rfl | rfl <;> rfl
     case c0 => omega
     case c3 => unfold maxLen; omega
     case c4 => omega
     case c5 => simp; omega
     intro g cap w4 hown4 hgrow hgg hlt4
     have hH4 : w4.ownsRow w.heap.size 115 4 (.slice (some ⟨g, 0, none⟩) (l.length + 1) cap) (l.length + 1) (insC (l ++ [⟨op, n, 0, 0⟩])) := by rw [qEj]; exact hown4
     have H4 := hid hH4
     have HB4 : Hid (Below w.heap.size w w4) := hid (((hst.out.2.2.2.2.trans (HB3.out.mono hst.out.2.2.2.2.size)).alloc hN3 _).grown hgrow (by simp; omega) (fun j hj => (hown3.lt j hj).1))
     clear hown4 hgrow hgg hlt4 hown3 hH4
     have hcat : bs = encB (l ++ [⟨op, n, 0, 0⟩]) ++ r.drop (0 + 1) := by
      have e := qD5 r (fun x hx => HBS.out x (by rw [← hst.out.1] at hx; exact List.mem_of_mem_drop hx)) (by rw [HO2.out, hsz]; omega) (by rw [HO2.out, hsz]; omega) (by intro e; rw [e] at hlt; simp at hlt)
      rw [HO2.out, hsz, Int.toNat_natCast, hP] at e
      rw [qDf, List.append_assoc, e]; exact hst.out.2.1
     have hall : ∀ x ∈ l ++ [⟨op, n, 0, 0⟩], x.ok = true ∧ U64 x.b := fun x hx => by
      rcases List.mem_append.1 hx with hx | hx
      ·exact hst.out.2.2.1 x hx
      obtain rfl := List.mem_singleton.1 hx; exact ⟨hok, HU.out⟩
     have HCAT := hid hcat
     have HALL := hid hall
     clear hcat hall
     by_cases hbig : l.length = 4096
     ·have hbd : Hid (qDV bs) := hid ⟨_, _, HALL.out, by simp [hbig], HCAT.out⟩
      go_wp2
      all_goals first
       | (exfalso; omega)
       | (go_ret2; exact ⟨HB4.out, .inr (.inr ⟨hbd.out, rfl⟩)⟩)
     go_wp2
     all_goals first
      | (exfalso; omega)
      | (go_roundw
         case rel =>
           refine ⟨l ++ [⟨op, n, 0, 0⟩], r.drop (0 + 1), p + (0 + 1), o + p, 0, by rw [List.length_drop, show r.length - (0 + 1) = 0 by omega], fun hpos => by rw [List.length_drop] at hpos; omega, ?_, by simp; omega, by rw [List.length_drop]; omega, hid ⟨by rw [← List.drop_drop, hst.out.1], HCAT.out, HALL.out, by simpa using H4.out, HB4.out⟩⟩
           rw [List.length_drop]; omega
         case measure => simp [slen]; omega)
  go_wp2_with fail
  refine (HS.out _).mono ?_
  rintro e w1 ⟨rfl, hb1⟩
  have hBr : Hid (Below wo.heap.size wo w1) := hid (((Below.refl _ _).alloc (Nat.le_refl _) _).trans (hb1.mono (by simp)))
  have hbo : b < wo.heap.size := Nat.lt_of_lt_of_le hb hst.out.2.2.2.2.size
  go_wp2
  go_loopw [7, 32] (fun v i W => ∃ j : Nat, j ≤ s1 ∧ i = .int .i64 (j : Int) ∧ v = .int .u64 (valB ((r.drop 1).take j) % 18446744073709551616) ∧ W = w1) (fun _ i _ => (s1 - intOf i).toNat)
  case atStart => exact ⟨0, Nat.zero_le _, rfl, rfl, rfl⟩
  case round =>
   obtain ⟨j, hj, rfl, rfl, hW⟩ := hrel
   subst hW
   by_cases hjl : j < s1
   ·obtain ⟨y, hy, hy0, hy1, hyt⟩ := HCL.out j hjl
    have hyc := (hBr.out.cell (p := ⟨b, o + p + 1 + j, none⟩) hbo).trans hy
    have hval : valB ((r.drop 1).take (j + 1)) % 18446744073709551616 = (valB ((r.drop 1).take j) % 18446744073709551616) * 256 % 18446744073709551616 + y := by rw [hyt, qDv]; omega
    have HV := hid hval
    clear hval hyt hy
    have ha0 : 0 ≤ valB ((r.drop 1).take j) % 18446744073709551616 := by omega
    have ha1 : valB ((r.drop 1).take j) % 18446744073709551616 < 18446744073709551616 := by omega
    generalize valB ((r.drop 1).take j) % 18446744073709551616 = a at *
    have hor := or_low a y ha0 ha1 hy0 hy1
    go_wp2
    exact ⟨⟨j + 1, by omega, by simp, by rw [wrap_256 a, hor, HV.out], trivial⟩, by simp [intOf]; omega⟩
   obtain rfl : j = s1 := by omega
   by_cases h1 : op = 1
   rotate_left
   ·clear HCL
    have h1' : (op == 1) = false := beq_eq_false_iff_ne.mpr h1
    have hwN : widN op = j := by
     have : qBs op = 1 + wid op := by
      unfold qBs; rw [if_neg]; intro hh; unfold qBs at hsz; rw [if_pos hh] at hsz; omega
     unfold widN; omega
    have hj2 : j ≤ 2 := by
     rw [← hwN]; unfold widN wid; rw [if_neg h1]; split
     ·decide
     split <;> decide
    have hdrop : r.drop 1 ≠ [] ∨ True := .inr trivial
    have hbyt : qB5 ((r.drop 1).take j) := fun x hx => HBS.out x (by
      have := List.mem_of_mem_drop (List.mem_of_mem_take hx); rw [← hst.out.1] at this; exact List.mem_of_mem_drop this)
    have hvl := valB_lt _ hbyt
    have hlen : ((r.drop 1).take j).length = j := by rw [List.length_take, List.length_drop]; omega
    rw [hlen] at hvl
    have hv65 : valB ((r.drop 1).take j) < 65536 := by
     rcases (by omega : j = 0 ∨ j = 1 ∨ j = 2) with e | e | e <;> rw [e] at hvl ⊢ <;> simp at hvl ⊢ <;> omega
    have hP : qBK r = ⟨op, valB ((r.drop 1).take j), 0, 0⟩ := by unfold qBK; rw [HO2.out, if_neg h1, hwN]
    have hv0 := hvl.1
    clear hvl hlen hbyt hdrop
    rw [show valB ((r.drop 1).take j) % 18446744073709551616 = valB ((r.drop 1).take j) by omega]
    generalize valB ((r.drop 1).take j) = n at *
    have hwr : IntKind.i64.wrap n = n := by simp [IntKind.wrap, IntKind.bits, IntKind.signed]; omega
    have hrowB : wr.heap[wo.heap.size]? = some (.cells #[.int .i64 op, .int .i64 0, .int .i64 0, .int .u64 0] 115 (0, 0)) := (hb1.block wo.heap.size (by simp)).trans (World.alloc_heap_new wo _)
    have g0 : wr.cell? ⟨wo.heap.size, 0, none⟩ = some (.int .i64 op) := by simp [World.cell?, hrowB]
    have g1 : wr.cell? ⟨wo.heap.size, 1, none⟩ = some (.int .i64 0) := by simp [World.cell?, hrowB]
    have g2 : wr.cell? ⟨wo.heap.size, 2, none⟩ = some (.int .i64 0) := by simp [World.cell?, hrowB]
    have g3 : wr.cell? ⟨wo.heap.size, 3, none⟩ = some (.int .u64 0) := by simp [World.cell?, hrowB]
    have gf : wr.frozen? ⟨wo.heap.size, 1, none⟩ = false := by simp [World.frozen?, hrowB]
    have HR := hid (fun W => qCL op n 0 0 ⟨by omega, by omega⟩ W)
    unfold insV at HR
    clear hrowB
    have HU : Hid (U64 0) := hid ⟨by omega, by omega⟩
    have HBX := hBr.out.setCell (p := ⟨wo.heap.size, 1, none⟩) (Nat.le_refl _) (.int .i64 n)
    obtain ⟨WW, hWW⟩ : ∃ WW, WW = wr.setCell ⟨wo.heap.size, 1, none⟩ (.int .i64 n) := ⟨_, rfl⟩
    rw [← hWW] at HBX
    have hwb : wo.heap.size < (wr.setCell ⟨wo.heap.size, 1, none⟩ (.int .i64 n)).heap.size := by have := hb1.size; simp at *; omega
    go_wp2_with fail
    subst hWW
    have HB2 := hid HBX
    have hbw : b < wo.heap.size := hbo
    refine (HR.out _).mono ?_
    rintro e w3 ⟨rfl, hb3⟩
    have hB3 : Below wo.heap.size wo w3 := HB2.out.trans (hb3.mono HB2.out.size)
    have hwl : wo.heap.size < w3.heap.size := by have := hBr.out.size; have := hb3.size; have := hb1.size; simp at *; omega
    have k0 : w3.cell? ⟨wo.heap.size, 0, none⟩ = some (.int .i64 op) := (hb3.cell (p := ⟨wo.heap.size, 0, none⟩) hwb).trans (by rw [World.cell?_setCell_other _ _ _ _ (by intro e; injection e with _ e; omega)]; exact g0)
    have k1 : w3.cell? ⟨wo.heap.size, 1, none⟩ = some (.int .i64 n) := (hb3.cell (p := ⟨wo.heap.size, 1, none⟩) hwb).trans (World.cell?_setCell_same _ _ _ g1)
    have k2 : w3.cell? ⟨wo.heap.size, 2, none⟩ = some (.int .i64 0) := (hb3.cell (p := ⟨wo.heap.size, 2, none⟩) hwb).trans (by rw [World.cell?_setCell_other _ _ _ _ (by intro e; injection e with _ e; omega)]; exact g2)
    have k3 : w3.cell? ⟨wo.heap.size, 3, none⟩ = some (.int .u64 0) := (hb3.cell (p := ⟨wo.heap.size, 3, none⟩) hwb).trans (by rw [World.cell?_setCell_other _ _ _ _ (by intro e; injection e with _ e; omega)]; exact g3)
    clear g0 g1 g2 g3 gf
    cases hok : okI op n 0 0 with
    | false =>
     have hbd := hid (qCA hst.out.2.2.1 hl4 hst.out.2.1 (by intro e; rw [e] at hlt; simp at hlt) (by rw [hP]; exact hok))
     have HB3 := hid hB3
     clear hb3 hB3
     go_wp2
     go_ret2
     exact ⟨hst.out.2.2.2.2.trans (HB3.out.mono hst.out.2.2.2.2.size), .inr (.inl ⟨hbd.out, rfl⟩)⟩
    | true =>
     obtain ⟨i0, hi, hz0, hz1, hz2⟩ := info_parts infoIns
     have hown3 := qD8 hst.out.2.2.2.1 hB3
     have HB3 := hid hB3
     have hN3 : w.heap.size ≤ w3.heap.size := Nat.le_trans hst.out.2.2.2.2.size hB3.size
     clear hb3 hB3
     go_wp2_with (at_builtin; refine wpList_append_lies _ rfl _ _ 75 rfl w.heap.size 115 i0 _ 4 32 Try.underlying75 hi hz0 hz1 hz2 rfl (by decide) _ _ _ rfl (hown3.alloc _) ⟨w3.heap.size, 0, none⟩ 1 1 (qDc ⟨op, n, 0, 0⟩) rfl rfl (World.news_of_block (World.alloc_heap_new w3 _)) ?c2 ?c0 ?c3 ?c4 ?c5 _ rfl ?_)
     case c2 => intro u hu; simp only [qDc, List.mem_cons, List.not_mem_nil, or_false] at hu; rcases hu with rfl | rfl | rfl | rfl <;> rfl
     case c0 => omega
     case c3 => unfold maxLen; omega
     case c4 => omega
     case c5 => simp; omega
     intro g cap w4 hown4 hgrow hgg hlt4
     have hH4 : w4.ownsRow w.heap.size 115 4 (.slice (some ⟨g, 0, none⟩) (l.length + 1) cap) (l.length + 1) (insC (l ++ [⟨op, n, 0, 0⟩])) := by rw [qEj]; exact hown4
     have H4 := hid hH4
     have HB4 : Hid (Below w.heap.size w w4) := hid (((hst.out.2.2.2.2.trans (HB3.out.mono hst.out.2.2.2.2.size)).alloc hN3 _).grown hgrow (by simp; omega) (fun j hj => (hown3.lt j hj).1))
     clear hown4 hgrow hgg hlt4 hown3 hH4
     have hcat : bs = encB (l ++ [⟨op, n, 0, 0⟩]) ++ r.drop (j + 1) := by
      have e := qD5 r (fun x hx => HBS.out x (by rw [← hst.out.1] at hx; exact List.mem_of_mem_drop hx)) (by rw [HO2.out, hsz]; omega) (by rw [HO2.out, hsz]; omega) (by intro e; rw [e] at hlt; simp at hlt)
      rw [HO2.out, hsz, Int.toNat_natCast, hP] at e
      rw [qDf, List.append_assoc, e]; exact hst.out.2.1
     have hall : ∀ x ∈ l ++ [⟨op, n, 0, 0⟩], x.ok = true ∧ U64 x.b := fun x hx => by
      rcases List.mem_append.1 hx with hx | hx
      ·exact hst.out.2.2.1 x hx
      obtain rfl := List.mem_singleton.1 hx; exact ⟨hok, HU.out⟩
     have HCAT := hid hcat
     have HALL := hid hall
     clear hcat hall
     by_cases hbig : l.length = 4096
     ·have hbd : Hid (qDV bs) := hid ⟨_, _, HALL.out, by simp [hbig], HCAT.out⟩
      go_wp2
      all_goals first
       | (exfalso; omega)
       | (go_ret2; exact ⟨HB4.out, .inr (.inr ⟨hbd.out, rfl⟩)⟩)
     go_wp2
     all_goals first
      | (exfalso; omega)
      | (go_roundw
         case rel =>
           refine ⟨l ++ [⟨op, n, 0, 0⟩], r.drop (j + 1), p + (j + 1), (if c' = j + 1 then o + p else o + p + (j + 1)), c' - (j + 1), by rw [List.length_drop]; split <;> rfl, fun hpos => by rw [if_neg (by rw [List.length_drop] at hpos; omega)]; omega, ?_, by simp; omega, by rw [List.length_drop]; omega, hid ⟨by rw [← List.drop_drop, hst.out.1], HCAT.out, HALL.out, by simpa using H4.out, HB4.out⟩⟩
           rw [List.length_drop]; omega
         case measure => simp [slen]; omega)
   subst h1
   obtain rfl : j = 9 := by
    have : qBs 1 = 10 := rfl
    rw [this] at hsz; omega
   obtain ⟨ty, hty, hty0, hty1, htyt⟩ := HCL.out 0 (by omega)
   have htc := (hBr.out.cell (p := ⟨b, o + p + 1 + 0, none⟩) hbo).trans hty
   rw [Nat.add_zero] at htc
   have hbyt : qB5 (r.drop 1) := fun x hx => HBS.out x (by
     have := List.mem_of_mem_drop hx; rw [← hst.out.1] at this; exact List.mem_of_mem_drop this)
   have hr1 : r.drop 1 = ty :: r.drop 2 := by
    have h0 : (r.drop 1)[0]? = some ty := by
     have := congrArg (fun l => l[0]?) htyt
     simpa using this
    rw [show r.drop 2 = (r.drop 1).drop 1 from by rw [List.drop_drop]]
    cases hd : r.drop 1 with
    | nil => rw [hd] at h0; simp at h0
    | cons y t => rw [hd] at h0; simp at h0; rw [h0]; simp
   have hg1 : r.getD 1 0 = ty := by
    have h0 : r[1]? = some ty := by
     have := congrArg (fun l => l[0]?) hr1
     simpa [List.getElem?_drop] using this
    rw [List.getD_eq_getElem?_getD, h0]; rfl
   have hb8 : qB5 ((r.drop 2).take 8) := fun x hx => hbyt x (by rw [hr1]; exact List.mem_cons_of_mem _ (List.mem_of_mem_take hx))
   have hl8 : ((r.drop 2).take 8).length = 8 := by rw [List.length_take, List.length_drop]; omega
   have hvl := valB_lt _ hb8
   rw [hl8] at hvl
   have hv9 : valB ((r.drop 1).take 9) % 18446744073709551616 = valB ((r.drop 2).take 8) := by
    rw [hr1, List.take_succ_cons, valB_cons _ _ hb8, hl8]
    have e : (256 : Int) ^ 8 = 18446744073709551616 := by decide
    rw [e] at hvl ⊢
    omega
   rw [hv9]
   have hP : qBK r = ⟨1, 0, ty, valB ((r.drop 2).take 8)⟩ := by unfold qBK; rw [HO2.out, if_pos rfl, hg1]
   have hU : U64 (valB ((r.drop 2).take 8)) := ⟨hvl.1, by have := hvl.2; simpa using this⟩
   clear hvl hv9 hl8 hb8 hg1 hr1 hbyt htyt hty HCL
   generalize valB ((r.drop 2).take 8) = n at *
   have HU := hid hU
   have hrowB : wr.heap[wo.heap.size]? = some (.cells #[.int .i64 1, .int .i64 0, .int .i64 0, .int .u64 0] 115 (0, 0)) := (hb1.block wo.heap.size (by simp)).trans (World.alloc_heap_new wo _)
   have g0 : wr.cell? ⟨wo.heap.size, 0, none⟩ = some (.int .i64 1) := by simp [World.cell?, hrowB]
   have g1 : wr.cell? ⟨wo.heap.size, 1, none⟩ = some (.int .i64 0) := by simp [World.cell?, hrowB]
   have g2 : wr.cell? ⟨wo.heap.size, 2, none⟩ = some (.int .i64 0) := by simp [World.cell?, hrowB]
   have g3 : wr.cell? ⟨wo.heap.size, 3, none⟩ = some (.int .u64 0) := by simp [World.cell?, hrowB]
   have gf2 : wr.frozen? ⟨wo.heap.size, 2, none⟩ = false := by simp [World.frozen?, hrowB]
   have gf3 : wr.frozen? ⟨wo.heap.size, 3, none⟩ = false := by simp [World.frozen?, hrowB]
   have HR := hid (fun W => qCL 1 0 ty n hU W)
   unfold insV at HR
   clear hrowB hU
   have HBX := (hBr.out.setCell (p := ⟨wo.heap.size, 2, none⟩) (Nat.le_refl _) (.int .i64 ty)).setCell (p := ⟨wo.heap.size, 3, none⟩) (Nat.le_refl _) (.int .u64 n)
   have hwb : wo.heap.size < ((wr.setCell ⟨wo.heap.size, 2, none⟩ (.int .i64 ty)).setCell ⟨wo.heap.size, 3, none⟩ (.int .u64 n)).heap.size := by have := hb1.size; simp at *; omega
   go_wp2_with fail
   have HB2 := hid HBX
   have hbw : b < wo.heap.size := hbo
   refine (HR.out _).mono ?_
   rintro e w3 ⟨rfl, hb3⟩
   have hB3 : Below wo.heap.size wo w3 := HB2.out.trans (hb3.mono HB2.out.size)
   have hwl : wo.heap.size < w3.heap.size := by have := hBr.out.size; have := hb3.size; have := hb1.size; simp at *; omega
   have k0 : w3.cell? ⟨wo.heap.size, 0, none⟩ = some (.int .i64 1) := (hb3.cell (p := ⟨wo.heap.size, 0, none⟩) hwb).trans (by rw [World.cell?_setCell_other _ _ _ _ (by intro e; injection e with _ e; omega), World.cell?_setCell_other _ _ _ _ (by intro e; injection e with _ e; omega)]; exact g0)
   have k1 : w3.cell? ⟨wo.heap.size, 1, none⟩ = some (.int .i64 0) := (hb3.cell (p := ⟨wo.heap.size, 1, none⟩) hwb).trans (by rw [World.cell?_setCell_other _ _ _ _ (by intro e; injection e with _ e; omega), World.cell?_setCell_other _ _ _ _ (by intro e; injection e with _ e; omega)]; exact g1)
   have k2 : w3.cell? ⟨wo.heap.size, 2, none⟩ = some (.int .i64 ty) := (hb3.cell (p := ⟨wo.heap.size, 2, none⟩) hwb).trans (by rw [World.cell?_setCell_other _ _ _ _ (by intro e; injection e with _ e; omega)]; exact World.cell?_setCell_same _ _ _ g2)
   have k3 : w3.cell? ⟨wo.heap.size, 3, none⟩ = some (.int .u64 n) := (hb3.cell (p := ⟨wo.heap.size, 3, none⟩) hwb).trans (World.cell?_setCell_same _ _ _ (u := .int .u64 0) (by rw [World.cell?_setCell_other _ _ _ _ (by intro e; injection e with _ e; omega)]; exact g3))
   clear g0 g1 g2 g3 gf2 gf3
   cases hok : okI 1 0 ty n with
   | false =>
    have hbd := hid (qCA hst.out.2.2.1 hl4 hst.out.2.1 (by intro e; rw [e] at hlt; simp at hlt) (by rw [hP]; exact hok))
    have HB3 := hid hB3
    clear hb3 hB3
    go_wp2
    go_ret2
    exact ⟨hst.out.2.2.2.2.trans (HB3.out.mono hst.out.2.2.2.2.size), .inr (.inl ⟨hbd.out, rfl⟩)⟩
   | true =>
    obtain ⟨i0, hi, hz0, hz1, hz2⟩ := info_parts infoIns
    have hown3 := qD8 hst.out.2.2.2.1 hB3
    have HB3 := hid hB3
    have hN3 : w.heap.size ≤ w3.heap.size := Nat.le_trans hst.out.2.2.2.2.size hB3.size
    clear hb3 hB3
    go_wp2_with (at_builtin; refine wpList_append_lies _ rfl _ _ 75 rfl w.heap.size 115 i0 _ 4 32 Try.underlying75 hi hz0 hz1 hz2 rfl (by decide) _ _ _ rfl (hown3.alloc _) ⟨w3.heap.size, 0, none⟩ 1 1 (qDc ⟨1, 0, ty, n⟩) rfl rfl (World.news_of_block (World.alloc_heap_new w3 _)) ?c2 ?c0 ?c3 ?c4 ?c5 _ rfl ?_)
    case c2 => intro u hu; simp only [qDc, List.mem_cons, List.not_mem_nil, or_false] at hu; rcases hu with rfl | rfl | rfl | rfl <;> rfl
    case c0 => omega
    case c3 => unfold maxLen; omega
    case c4 => omega
    case c5 => simp; omega
    intro g cap w4 hown4 hgrow hgg hlt4
    have hH4 : w4.ownsRow w.heap.size 115 4 (.slice (some ⟨g, 0, none⟩) (l.length + 1) cap) (l.length + 1) (insC (l ++ [⟨1, 0, ty, n⟩])) := by rw [qEj]; exact hown4
    have H4 := hid hH4
    have HB4 : Hid (Below w.heap.size w w4) := hid (((hst.out.2.2.2.2.trans (HB3.out.mono hst.out.2.2.2.2.size)).alloc hN3 _).grown hgrow (by simp; omega) (fun j hj => (hown3.lt j hj).1))
    clear hown4 hgrow hgg hlt4 hown3 hH4
    have hcat : bs = encB (l ++ [⟨1, 0, ty, n⟩]) ++ r.drop (9 + 1) := by
     have e := qD5 r (fun x hx => HBS.out x (by rw [← hst.out.1] at hx; exact List.mem_of_mem_drop hx)) (by rw [HO2.out, hsz]; omega) (by rw [HO2.out, hsz]; omega) (by intro e; rw [e] at hlt; simp at hlt)
     rw [HO2.out, hsz, Int.toNat_natCast, hP] at e
     rw [qDf, List.append_assoc, e]; exact hst.out.2.1
    have hall : ∀ x ∈ l ++ [⟨1, 0, ty, n⟩], x.ok = true ∧ U64 x.b := fun x hx => by
     rcases List.mem_append.1 hx with hx | hx
     ·exact hst.out.2.2.1 x hx
     obtain rfl := List.mem_singleton.1 hx; exact ⟨hok, HU.out⟩
    have HCAT := hid hcat
    have HALL := hid hall
    clear hcat hall
    by_cases hbig : l.length = 4096
    ·have hbd : Hid (qDV bs) := hid ⟨_, _, HALL.out, by simp [hbig], HCAT.out⟩
     go_wp2
     all_goals first
      | (exfalso; omega)
      | (go_ret2; exact ⟨HB4.out, .inr (.inr ⟨hbd.out, rfl⟩)⟩)
    go_wp2
    all_goals first
     | (exfalso; omega)
     | (go_roundw
        case rel =>
          refine ⟨l ++ [⟨1, 0, ty, n⟩], r.drop (9 + 1), p + (9 + 1), (if c' = 9 + 1 then o + p else o + p + (9 + 1)), c' - (9 + 1), by rw [List.length_drop]; split <;> rfl, fun hpos => by rw [if_neg (by rw [List.length_drop] at hpos; omega)]; omega, ?_, by simp; omega, by rw [List.length_drop]; omega, hid ⟨by rw [← List.drop_drop, hst.out.1], HCAT.out, HALL.out, by simpa using H4.out, HB4.out⟩⟩
          rw [List.length_drop]; omega
        case measure => simp [slen]; omega)
end Dec
end
section
namespace Q
open Go.RowKit YA YC YB
open Val Enc DecLaw Dec
def toS (x : InsD) : S115 := ⟨x.op, x.n, ⟨x.ty, x.b⟩⟩
def decL : Nat → List InsD → List Int → List InsD × Int
 | 0, _, _ => ([], 51)
 | k + 1, l, r =>
  if r = [] then (l, 0)
  else if (qBK r).ok = true ∧ 0 ≤ (qBK r).b ∧ (qBK r).b < 18446744073709551616 ∧ r = insB (qBK r) ++ r.drop (insB (qBK r)).length then
   (if l.length = 4096 then ([], 3) else decL k (l ++ [qBK r]) (r.drop (insB (qBK r)).length))
  else ([], 51)
theorem decL_spec (bs : List Int) : ∀ (k : Nat) (l : List InsD) (r : List Int), r.length < k → (∀ x ∈ l, x.ok = true ∧ U64 x.b) → l.length ≤ 4096 → bs = encB l ++ r →
  (∃ m, decL k l r = (m, 0) ∧ DecOk bs m) ∨ (decL k l r = ([], 51) ∧ DecBad bs) ∨ (decL k l r = ([], 3) ∧ qDV bs) := by
 intro k
 induction k with
 | zero => intro l r hk; omega
 | succ k ih =>
  intro l r hk hl h4 hbs
  unfold decL
  by_cases hr : r = []
  ·subst hr
   rw [if_pos rfl]
   exact .inl ⟨l, rfl, hl, h4, by rw [hbs, List.append_nil]⟩
  rw [if_neg hr]
  by_cases hp : (qBK r).ok = true ∧ 0 ≤ (qBK r).b ∧ (qBK r).b < 18446744073709551616 ∧ r = insB (qBK r) ++ r.drop (insB (qBK r)).length
  rotate_left
  ·rw [if_neg hp]
   refine .inr (.inl ⟨rfl, l, r, hl, h4, hbs, hr, fun x t hx hu he => hp ?_⟩)
   have := qCS hx hu t
   rw [← he] at this
   rw [this]
   exact ⟨hx, hu.1, hu.2, by rw [he, List.drop_append_of_le_length (Nat.le_refl _), List.drop_length, List.nil_append]⟩
  rw [if_pos hp]
  have hx : ∀ x ∈ l ++ [qBK r], x.ok = true ∧ U64 x.b := fun x hx => by
   rcases List.mem_append.1 hx with hx | hx
   ·exact hl x hx
   obtain rfl := List.mem_singleton.1 hx; exact ⟨hp.1, hp.2.1, hp.2.2.1⟩
  have hcat : bs = encB (l ++ [qBK r]) ++ r.drop (insB (qBK r)).length := by rw [qDf, List.append_assoc, ← hp.2.2.2]; exact hbs
  by_cases hb : l.length = 4096
  ·rw [if_pos hb]
   exact .inr (.inr ⟨rfl, _, _, hx, by simp [hb], hcat⟩)
  rw [if_neg hb]
  refine ih _ _ ?_ hx (by simp; omega) hcat
  have : 0 < (insB (qBK r)).length := by unfold insB; simp
  have : 0 < r.length := List.length_pos_iff.2 hr
  rw [List.length_drop]; omega
def qBe.f (l0 : List Int) : Option ((List (S115)) × Int) :=
 if l0.all (fun x => decide (0 ≤ x ∧ x < 256)) = true then some ((decL (l0.length + 1) [] l0).1.map toS, (decL (l0.length + 1) [] l0).2) else none
theorem decode_nil2 (A : Option Addr) (c : Nat) (w : World) : Calls Try.prog 51 #[.slice A 0 c] w fun e w' => e = .returned (.tuple #[.slice none 0 0, .int .i64 0]) ∧ w' = w := by
 go_enter Try.func51, Try.ntmps51
 go_wp2
 go_loopw [0, 4] (fun t v wr => t = .slice A 0 c ∧ v = .slice none 0 0 ∧ wr = w) (fun _ _ _ => 0)
 case atStart => exact ⟨rfl, rfl, rfl⟩
 case round =>
  obtain ⟨rfl, rfl, rfl⟩ := hrel
  go_wp2
  go_ret2
  exact ⟨rfl, rfl⟩
theorem reps_ins (w : World) (base : Nat) (ok : Nat → Prop) : ∀ l : List InsD, Reps (k115.M w base ok) 4 (l.map toS) (insC l) := by
 intro l
 induction l with
 | nil => exact Reps.none _ _
 | cons x l ih =>
  have h1 : Reps (k115.M w base ok) 4 ([] ++ [toS x]) ([] ++ qDc x) := Reps.snoc (Reps.none _ _) (qDS w base ok (toS x)) rfl
  exact Kd.reps_append h1 ih
theorem qBe.calls (A0 : Option Addr) (c0 : Nat) (l0 : List Int) (r1 : List (S115)) (r2 : Int) (w : World) (hr0 : Kd.C (Kd.int .u8) w A0 l0.length l0) (hc0 : l0.length ≤ c0) (h : qBe.f l0 = some (r1, r2)) :
  Calls Try.prog 51 #[.slice A0 l0.length c0] w fun e w' => ∃ v0_ : Value, e = .returned (.tuple #[v0_, .int .i64 r2]) ∧ Kd.R k115 115 w' w.heap.size (fun _ => True) v0_ r1 ∧ Below w.heap.size w w' := by
 unfold qBe.f at h
 split at h
 case isFalse => cases h
 rename_i hb
 have hbs : qB5 l0 := fun x hx => by simpa using List.all_eq_true.1 hb x hx
 simp only [Option.some.injEq, Prod.mk.injEq] at h
 obtain ⟨h1, h2⟩ := h
 have hsp := decL_spec l0 (l0.length + 1) [] l0 (by omega) (by simp) (by simp) (by simp [encB])
 have hD : Calls Try.prog 51 #[.slice A0 l0.length c0] w (DecPost l0 w) := by
  rcases Nat.eq_zero_or_pos l0.length with hz | hp
  ·obtain rfl := List.length_eq_zero_iff.1 hz
   exact (decode_nil2 A0 c0 w).mono fun e w' ⟨he, hw⟩ => ⟨hw ▸ Below.refl _ _, .inl ⟨[], _, ⟨by simp, by simp, rfl⟩, he, World.ownsRow_nil _ _ _ _⟩⟩
  obtain ⟨ad, had, hcell⟩ := hr0.2.2 hp
  subst had
  obtain ⟨b, o, s⟩ := ad
  have hat : ∀ j y, l0[j]? = some y → w.cell? (Addr.add ⟨b, o, s⟩ j) = some (.int .u8 y) := fun j y hj => by
   obtain ⟨cs, _, hK, hcc⟩ := hcell j y hj
   obtain rfl : cs = [Value.int .u8 y] := hK
   have h2 := hcc 0 _ rfl
   rw [show j * (Kd.int .u8).sz + 0 = j from Nat.mul_one j] at h2
   exact h2
  obtain ⟨y0, hy0⟩ : ∃ y, l0[0]? = some y := ⟨l0[0], List.getElem?_eq_getElem hp⟩
  have h0 := hat 0 y0 hy0
  have hlt := World.block_lt_of_cell? w _ h0
  have hadd : ∀ j, Addr.add ⟨b, o, none⟩ j = ⟨b, o + j, none⟩ := fun j => by by_cases hj : j = 0 <;> simp [Addr.add, hj]
  obtain rfl : s = none := by
   cases s with
   | none => rfl
   | some k =>
    simp only [Addr.add, World.cell?] at h0
    split at h0 <;> simp at h0
  exact decode_some b o c0 l0 w (fun j y hj => by have := hat j y hj; rw [hadd] at this; exact this) (by rw [hadd] at hlt; exact hlt) hbs hc0
 refine hD.mono fun e w' hP => ?_
 obtain ⟨hB, hP⟩ := hP
 rcases hP with ⟨l, v, hok, he, hown⟩ | ⟨hbad, he⟩ | ⟨hbig, he⟩
 ·rcases hsp with ⟨m, hm, hok2⟩ | ⟨_, hb2⟩ | ⟨_, hb2⟩
  ·obtain rfl := ok_ok hok hok2
   rw [hm] at h1 h2
   subst h1; subst h2
   exact ⟨v, he, ⟨fun _ _ => trivial, insC l, by rw [List.length_map]; exact hown, reps_ins _ _ _ l⟩, hB⟩
  ·exact (ok_bad hok hb2).elim
  ·exact (ok_big hok hb2).elim
 ·rcases hsp with ⟨m, hm, hok2⟩ | ⟨hm, _⟩ | ⟨_, hb2⟩
  ·exact (ok_bad hok2 hbad).elim
  ·rw [hm] at h1 h2
   subst h1; subst h2
   exact ⟨_, he, Kd.R_nil _ _ _ _ _, hB⟩
  ·exact (big_bad hb2 hbad).elim
 ·rcases hsp with ⟨m, hm, hok2⟩ | ⟨hm, hb2⟩ | ⟨hm, _⟩
  ·exact (ok_big hok2 hbig).elim
  ·exact (big_bad hbig hb2).elim
  ·rw [hm] at h1 h2
   subst h1; subst h2
   exact ⟨_, he, Kd.R_nil _ _ _ _ _, hB⟩
end Q
end
section
namespace Q
open Go.RowKit YA YC YB
theorem RdB.form {W : World} {b0 g : Nat} {bs : List Int} {v : Value} (h : RdB W b0 g bs v) : ∃ A c, v = .slice A bs.length c := by
 rcases h with ⟨rfl, A, c, rfl⟩ | ⟨gb, o, c, _, _, _, rfl, _⟩
 ·exact ⟨A, c, rfl⟩
 exact ⟨_, c, rfl⟩
def qA7.f (_ : List Int) (s0_1 : Int) (s0_2 : Int) : Option (Int × Int × Int) := some (s0_2, s0_1, s0_2)
theorem qA7.calls (g : Nat) (s0_0 : List Int) (s0_1 : Int) (s0_2 : Int) (r1 : Int) (r2 : Int) (r3 : Int) (w0 w : World) (hI : qAd w0 w g s0_0 s0_1 s0_2) (hB : Below w0.heap.size w0 w) (h : qA7.f s0_0 s0_1 s0_2 = some (r1, r2, r3)) :
  Calls Try.prog 24 #[.pointer (some ⟨g, 0, none⟩)] w fun e w' => e = .returned (.int .i64 r1) ∧ qAd w0 w' g s0_0 r2 r3 ∧ Below w0.heap.size w0 w' ∧ qAh w w' g none := by
 unfold qA7.f at h
 simp only [Option.some.injEq, Prod.mk.injEq] at h
 obtain ⟨rfl, rfl, rfl⟩ := h
 have HI := am hI
 have HB := am hB
 obtain ⟨_, h1, h2, h3, v, hb, hr⟩ := hI
 have c1 : w.cell? ⟨g, 1, none⟩ = some _ := (qAa hb 1).trans rfl
 clear hr hb hB h1 h2 h3
 go_enter Try.func24, Try.ntmps24
 go_wp2
 go_ret
 exact ⟨rfl, HI.out, HB.out, qAh.refl _ _ _⟩
theorem qAd.set_e {w0 W : World} {g : Nat} {f0 : List Int} {f1 f2 : Int} (h : qAd w0 W g f0 f1 f2) (x : Int) : qAd w0 (W.setCell ⟨g, 1, none⟩ (.int .i64 x)) g f0 f1 x := by
 obtain ⟨h0, h1, h2, h3, v, hb, hr⟩ := h
 refine ⟨h0, h1, h2, h3, v, by simpa using qBU hb 1 (.int .i64 x), hr.move fun gb cells hc => Below.heap_setCell W _ _ gb ?_⟩
 rintro rfl
 rw [hb] at hc
 injection hc with hc
 injection hc with _ hc
 exact absurd hc (by decide)
def qA5.f (_ : List Int) (s0_1 : Int) (s0_2 : Int) (a1 : Int) : Option (Int × Int) := some (s0_1, if s0_2 = 0 then a1 else s0_2)
theorem qA5.calls (g : Nat) (s0_0 : List Int) (s0_1 : Int) (s0_2 : Int) (a1 : Int) (r1 : Int) (r2 : Int) (w0 w : World) (hI : qAd w0 w g s0_0 s0_1 s0_2) (hB : Below w0.heap.size w0 w) (h : qA5.f s0_0 s0_1 s0_2 a1 = some (r1, r2)) :
  Calls Try.prog 21 #[.pointer (some ⟨g, 0, none⟩), .int .i64 a1] w fun e w' => e = .returned (.tuple #[]) ∧ qAd w0 w' g s0_0 r1 r2 ∧ Below w0.heap.size w0 w' ∧ qAh w w' g none := by
 unfold qA5.f at h
 simp only [Option.some.injEq, Prod.mk.injEq] at h
 obtain ⟨rfl, rfl⟩ := h
 have HI := am hI
 have HB := am hB
 obtain ⟨_, h1, h2, h3, v, hb, hr⟩ := hI
 have c1 : w.cell? ⟨g, 1, none⟩ = some _ := (qAa hb 1).trans rfl
 have f1 := qAg hb 1
 clear hr hb hB h1 h2 h3
 by_cases he : s0_2 = 0
 ·subst he
  go_enter Try.func21, Try.ntmps21
  go_wp2
  go_end0
  exact ⟨rfl, by simpa using HI.out.set_e a1, qAs HB.out HI.out.ge, qAh.set_ (qAh.refl _ _ _) _ _⟩
 ·have hb0 : (s0_2 == 0) = false := beq_eq_false_iff_ne.mpr he
  rw [if_neg he]
  clear he
  go_enter Try.func21, Try.ntmps21
  go_wp2
  go_end0
  exact ⟨rfl, HI.out, HB.out, qAh.refl _ _ _⟩
theorem RdB.some_ {W : World} {b0 g : Nat} {bs : List Int} {v : Value} (h : RdB W b0 g bs v) (hn : 0 < bs.length) :
  ∃ (gb o c : Nat) (cells : Array Value), b0 ≤ gb ∧ gb < g ∧ v = .slice (some ⟨gb, o, none⟩) bs.length c ∧ bs.length ≤ c ∧ W.heap[gb]? = some (.cells cells 5 (0, 0)) ∧ (∀ (j : Nat) (y : Int), bs[j]? = some y → cells[o + j]? = some (Value.int .u8 y)) := by
 rcases h with ⟨rfl, _⟩ | ⟨gb, o, c, cells, h1, h1', h2, _, h3, h4, h5⟩
 ·simp at hn
 ·exact ⟨gb, o, c, cells, h1, h1', h2, h3, h4, h5⟩
theorem qAd.set_b {w0 W : World} {g : Nat} {f0 : List Int} {f1 f2 f1' : Int} {v : Value} (h : qAd w0 W g f0 f1 f2) (h0 : 0 ≤ f1') (h1 : f1' ≤ f0.length) (hr : RdB W w0.heap.size g (f0.drop f1'.toNat) v) : qAd w0 (W.setCell ⟨g, 0, none⟩ v) g f0 f1' f2 := by
 obtain ⟨hg, _, _, h3, u, hb, _⟩ := h
 refine ⟨hg, h0, h1, h3, v, by simpa using qBU hb 0 v, hr.move fun gb cells hc => Below.heap_setCell W _ _ gb ?_⟩
 rintro rfl
 rw [hb] at hc
 injection hc with hc
 injection hc with _ hc
 exact absurd hc (by decide)
theorem qCv (g : Nat) (f0 : List Int) (p e : Int) (n : Nat) (w0 w : World) (hn : 0 < n) (hle : p + n ≤ f0.length) (hI : qAd w0 w g f0 p e) :
  Calls Try.prog 69 #[.pointer (some ⟨g, 0, none⟩), .int .i64 n] w fun e' w' => ∃ A c v, e' = .returned (.slice A n c) ∧ n ≤ c ∧ Kd.C (Kd.int .u8) w' A n ((f0.drop p.toNat).take n) ∧ qAd w0 w' g f0 (p + n) e ∧ w' = w.setCell ⟨g, 0, none⟩ v := by
 have HI := am hI
 obtain ⟨_, h1, h2, h3, v, hb, hr⟩ := hI
 have hlen : (f0.drop p.toNat).length = f0.length - p.toNat := List.length_drop
 obtain ⟨gb, o, c, cells, hb0, hbg, rfl, hc, hcb, hcells⟩ := hr.some_ (by omega)
 have hgb : g ≠ gb := by
  rintro rfl
  rw [hb] at hcb
  injection hcb with hcb
  injection hcb with _ hcb
  exact absurd hcb (by decide)
 have c0 : w.cell? ⟨g, 0, none⟩ = some _ := (qAa hb 0).trans rfl
 have f0z := qAg hb 0
 obtain ⟨m, hm⟩ : ∃ m, m = (f0.drop p.toNat).length := ⟨_, rfl⟩
 have hnm : n ≤ m := by omega
 have hml : m ≤ 9223372036854775807 := by omega
 rw [← hm] at c0 hc
 have hC : ∀ v, Kd.C (Kd.int .u8) (w.setCell ⟨g, 0, none⟩ v) (some ⟨gb, o, none⟩) n ((f0.drop p.toNat).take n) := fun v => by
  have hb' : (w.setCell ⟨g, 0, none⟩ v).heap[gb]? = some (.cells cells 5 (0, 0)) := qAu hcb (Ne.symm hgb) v
  refine ⟨by rw [List.length_take]; omega, by omega, fun _ => ⟨_, rfl, fun j y hj => ⟨[.int .u8 y], rfl, rfl, fun i u hu => ?_⟩⟩⟩
  have hjn : (f0.drop p.toNat)[j]? = some y := by
   rw [List.getElem?_take] at hj
   split at hj
   ·exact hj
   cases hj
  match i, hu with
  | 0, hu =>
   injection hu with hu; subst hu
   have hadd : (⟨gb, o, none⟩ : Addr).add (j * (Kd.int .u8).sz + 0) = ⟨gb, o + j, none⟩ := by
    rw [show j * (Kd.int .u8).sz + 0 = j from Nat.mul_one j]; unfold Addr.add; split <;> simp_all
   rw [hadd, qAa hb']
   exact hcells j y hjn
 have hdrop : f0.drop (p + n).toNat = (f0.drop p.toNat).drop n := by rw [List.drop_drop]; congr 1; omega
 have hS : ∀ o' c', (n < m → o' = o + n ∧ c' = c - n) → qAd w0 (w.setCell ⟨g, 0, none⟩ (.slice (some ⟨gb, o', none⟩) (m - n) c')) g f0 (p + n) e := fun o' c' ho => by
  refine HI.out.set_b (by omega) hle ?_
  rw [hdrop]
  have hdl : ((f0.drop p.toNat).drop n).length = m - n := by rw [List.length_drop, ← hm]
  by_cases hlt : n < m
  rotate_left
  ·refine .inl ⟨List.length_eq_zero_iff.1 (by omega), some ⟨gb, o', none⟩, c', ?_⟩
   rw [show m - n = 0 by omega]
  obtain ⟨rfl, rfl⟩ := ho hlt
  refine .inr ⟨gb, o + n, c - n, cells, hb0, hbg, by rw [hdl], by omega, by omega, hcb, fun j y hj => ?_⟩
  rw [List.getElem?_drop] at hj
  rw [Nat.add_assoc]; exact hcells _ y hj
 have HC := am hC
 have HS := am hS
 have hx1 : decide ((m : Int) < (n : Int)) = false := by simp; omega
 clear hC hS hr hcells hlen hdrop hcb hb hm
 by_cases hcn : c = n
 ·subst hcn
  obtain rfl : m = c := by omega
  go_enter Try.func69, Try.ntmps69
  go_wp2
  go_ret
  exact ⟨some ⟨gb, o, none⟩, m, _, rfl, Nat.le_refl _, HC.out _, by simpa using HS.out o 0 (fun h => absurd h (Nat.lt_irrefl _)), rfl⟩
 ·go_enter Try.func69, Try.ntmps69
  go_wp2
  go_ret
  exact ⟨some ⟨gb, o, none⟩, c, _, rfl, by omega, HC.out _, HS.out _ _ (fun _ => ⟨rfl, rfl⟩), rfl⟩
theorem qBZ (g : Nat) (f0 : List Int) (p e : Int) (n : Nat) (w0 w : World) (hle : f0.length < p + n) (hI : qAd w0 w g f0 p e) :
  Calls Try.prog 69 #[.pointer (some ⟨g, 0, none⟩), .int .i64 n] w fun e' w' => e' = .panicked [{ v := .iface 179 (.int .i64 40), recovered := false }] ∧ w' = w := by
 obtain ⟨_, h1, h2, h3, v, hb, hr⟩ := hI
 obtain ⟨A, c, rfl⟩ := hr.form
 have c0 : w.cell? ⟨g, 0, none⟩ = some _ := (qAa hb 0).trans rfl
 have hlen : (f0.drop p.toNat).length = f0.length - p.toNat := List.length_drop
 obtain ⟨m, hm⟩ : ∃ m, m = (f0.drop p.toNat).length := ⟨_, rfl⟩
 rw [← hm] at c0 hlen
 have hx1 : decide (m < n) = true := by simp; omega
 clear hm hlen hr hb hle h1 h2 h3
 go_enter Try.func69, Try.ntmps69
 go_wp2
 exact ⟨rfl, rfl, rfl⟩
theorem qCi {P : Program} {c : Code} {Q : Exit → Act → World → Prop} {a : Act} {w : World} (h : ∀ Q' : Exit → Act → World → Prop, (∀ e a w, Q e a w → Q' e a w) → c.wp P Q' a w) : c.wp P Q a w := h Q (fun _ _ _ h => h)
theorem qEa (p q : Addr) (w : World) :
  CallsD Try.prog 107 #[.pointer (some p), .pointer (some q)] .returning w fun e u' w' => e = .returned (.tuple #[]) ∧ u' = .returning ∧ w' = w := by
 refine callsD_of_wpS Try.func107 rfl fun c₀ cs hu => ?_
 apply wpS_seq
 apply wpS_region
 simp [wpOpsS, go_sem, recoverD, hu, Try.ntmps107, Exit.thenS]
 refine wpS_of_wp (qCi fun Q' hQ => ?_)
 have HQ := am hQ
 clear hQ
 rw [show ((#[Value.pointer (some p), Value.pointer (some q)] : Array Value) ++ (Array.replicate 15 undef).setIfInBounds 4 Value.nilIface) = #[.pointer (some p), .pointer (some q), undef, undef, undef, undef, .nilIface, undef, undef, undef, undef, undef, undef, undef, undef, undef, undef] from rfl]
 go_wp2
 refine HQ.out _ _ _ ?_
 cases c₀
 simp_all [bodyPostS, results, Try.results107]
theorem qDz (bv g bq : Nat) (x k : Int) (v : Value) (older : List PanicEntry) (w : World) (hp : w.cell? ⟨bv, 0, none⟩ = some (.int .u8 x)) (hz : w.frozen? ⟨bv, 0, none⟩ = false) (hq : w.cell? ⟨bq, 0, none⟩ = some (.pointer (some ⟨g, 0, none⟩))) (hg : w.heap[g]? = some (.cells #[v, .int .i64 0] 144 (0, 0))) (hpg : bv ≠ g) (hpq : bv ≠ bq) :
  CallsD Try.prog 107 #[.pointer (some ⟨bv, 0, none⟩), .pointer (some ⟨bq, 0, none⟩)] (.panicking ({ v := .iface 179 (.int .i64 k), recovered := false } :: older)) w fun e u' w' =>
   e = .returned (.tuple #[]) ∧ u' = .panicking ({ v := .iface 179 (.int .i64 k), recovered := true } :: older) ∧ w' = (w.setCell ⟨bv, 0, none⟩ (.int .u8 0)).setCell ⟨g, 1, none⟩ (.int .i64 k) := by
 have hta : ∀ (v : Value) (W : World), (Instr.typeAssert (.iface 179 v) 20 179 true).run Try.prog W = .ok (.tuple #[v, .bool true]) W := fun v W => by rfl
 have c1 : (w.setCell ⟨bv, 0, none⟩ (.int .u8 0)).cell? ⟨g, 1, none⟩ = some (.int .i64 0) := (World.cell?_setCell_other _ _ _ _ (by intro e; injection e with e; exact hpg e)).trans ((qAa hg 1).trans rfl)
 have f1 : (w.setCell ⟨bv, 0, none⟩ (.int .u8 0)).frozen? ⟨g, 1, none⟩ = false := (World.frozen?_setCell _ _ _ _).trans (qAg hg 1)
 have q1 : (w.setCell ⟨bv, 0, none⟩ (.int .u8 0)).cell? ⟨bq, 0, none⟩ = some (.pointer (some ⟨g, 0, none⟩)) := (World.cell?_setCell_other _ _ _ _ (by intro e; injection e with e; exact hpq e)).trans hq
 refine callsD_of_wpS Try.func107 rfl fun c₀ cs hu => ?_
 apply wpS_seq
 apply wpS_region
 simp [wpOpsS, go_sem, recoverD, hu, Try.ntmps107, Exit.thenS]
 refine wpS_of_wp (qCi fun Q' hQ => ?_)
 have HQ := am hQ
 clear hQ
 rw [show ((#[Value.pointer (some ⟨bv, 0, none⟩), Value.pointer (some ⟨bq, 0, none⟩)] : Array Value) ++ (Array.replicate 15 undef).setIfInBounds 4 (Value.iface 179 (.int .i64 k))) = #[.pointer (some ⟨bv, 0, none⟩), .pointer (some ⟨bq, 0, none⟩), undef, undef, undef, undef, .iface 179 (.int .i64 k), undef, undef, undef, undef, undef, undef, undef, undef, undef, undef] from rfl]
 go_wp2
 refine HQ.out _ _ _ ?_
 cases c₀
 simp_all [bodyPostS, results, Try.results107]
theorem qCg {w W1 w4 : World} {g b j : Nat} (h1 : Below w.heap.size w W1) (hk : qAh W1 w4 g none) (hb : w.heap.size ≤ b) (u : Value) : qAh w (w4.setCell ⟨b, j, none⟩ u) g none := by
 refine ⟨?_, fun i hi hne _ => ?_⟩
 ·have := h1.size; have := hk.1; simp; omega
 rw [Below.heap_setCell _ _ _ i (by show i ≠ b; omega), hk.2 i (by have := h1.size; omega) hne (by simp)]
 exact h1.block i hi
theorem add_zero_ (ad : Addr) : ad.add (0 : Int).toNat = ad := by unfold Addr.add; cases ad; simp
theorem byte_fn_ok (b1 g : Nat) (f0 : List Int) (p e : Int) (w0 w : World) (hq : w.cell? ⟨b1, 0, none⟩ = some (.pointer (some ⟨g, 0, none⟩))) (hlt : p < f0.length) (hI : qAd w0 w g f0 p e) (hB : Below w0.heap.size w0 w) :
  Calls Try.prog 68 #[.pointer (some ⟨b1, 0, none⟩)] w fun e' w' => e' = .returned (.int .u8 (f0.getD p.toNat 0)) ∧ qAd w0 w' g f0 (p + 1) e ∧ Below w0.heap.size w0 w' ∧ qAh w w' g none := by
 have HI := am hI
 have HB := am hB
 clear hI hB
 go_enter Try.func68, Try.ntmps68
 have hv : rd ((f0.drop p.toNat).take 1) 0 = f0.getD p.toNat 0 := by
  unfold rd
  rw [List.getD_eq_getElem?_getD, List.getD_eq_getElem?_getD, List.getElem?_take, List.getElem?_drop]
  simp
 have HV := am hv
 clear hv
 go_wp2_with (go_at_call 69; refine (qCv g f0 p e 1 w0 w (by omega) (by omega) HI.out).mono ?_; rintro e' w' ⟨A, c, v, rfl, hc, hC, hi, hw⟩; have hk := hw ▸ qAh.set_ (qAh.refl w g none) 0 v; have HK := am hk; have HN := am hi; have HBN := am (hw ▸ qAs (g := g) (j := 0) (v := v) HB.out HI.out.ge); obtain ⟨ad, rfl, hx⟩ := Kd.at_int hC 0 (by omega) (by omega); have hx' := add_zero_ ad ▸ hx; clear hk hi hw hC hx)
 go_ret
 exact ⟨by rw [HV.out]; rfl, HN.out, HBN.out, HK.out⟩
theorem byte_fn_bad (b1 g : Nat) (f0 : List Int) (p e : Int) (w0 w : World) (hq : w.cell? ⟨b1, 0, none⟩ = some (.pointer (some ⟨g, 0, none⟩))) (hlt : f0.length ≤ p) (hI : qAd w0 w g f0 p e) :
  Calls Try.prog 68 #[.pointer (some ⟨b1, 0, none⟩)] w fun e' w' => e' = .panicked [{ v := .iface 179 (.int .i64 40), recovered := false }] ∧ w' = w := by
 have HI := am hI
 clear hI
 go_enter Try.func68, Try.ntmps68
 go_wp2_with (go_at_call 69; refine (qBZ g f0 p e 1 w0 w (by omega) HI.out).mono ?_; rintro e' w' ⟨rfl, rfl⟩)
 exact ⟨rfl, rfl, rfl⟩
theorem qEh (b1 g : Nat) (f0 : List Int) (p : Int) (w0 w : World) (hq : w.cell? ⟨b1, 0, none⟩ = some (.pointer (some ⟨g, 0, none⟩))) (hlt : p < f0.length) (hI : qAd w0 w g f0 p 0) (hB : Below w0.heap.size w0 w) :
  Calls Try.prog 67 #[.pointer (some ⟨g, 0, none⟩), .func (.func 68) #[] #[.pointer (some ⟨b1, 0, none⟩)]] w fun e w' => e = .returned (.int .u8 (f0.getD p.toNat 0)) ∧ qAd w0 w' g f0 (p + 1) 0 ∧ Below w0.heap.size w0 w' ∧ qAh w w' g none := by
 have HI := am hI
 have HB := am hB
 have HLT := am hlt
 have hgl := hI.lt
 have hb1 := World.block_lt_of_cell? w _ hq
 obtain ⟨_, h1, h2, h3, v, hb, hr⟩ := hI
 have c1 : w.cell? ⟨g, 1, none⟩ = some (.int .i64 0) := (qAa hb 1).trans rfl
 clear hb hr hB h1 h2 h3 hlt
 go_enter_defers Try.func67, Try.ntmps67
 have HB3 := am (((Below.refl w.heap.size w).alloc (Nat.le_refl _) (.cells #[.pointer (some ⟨g, 0, none⟩)] 59)).alloc (by simp) (.cells #[.int .u8 0] 5))
 have H3 : qAb (((w.alloc (.cells #[.pointer (some ⟨g, 0, none⟩)] 59)).alloc (.cells #[.int .u8 0] 5)).heap[w.heap.size + 1]? = some (.cells #[.int .u8 0] 5 (0, 0))) := ⟨by simpa using heap_alloc_new (w.alloc (.cells #[.pointer (some ⟨g, 0, none⟩)] 59)) (.cells #[.int .u8 0] 5)⟩
 obtain ⟨x, hx⟩ : ∃ x, x = f0.getD p.toNat 0 := ⟨_, rfl⟩
 have hfn := fun W (h1 : W.cell? ⟨b1, 0, none⟩ = some (.pointer (some ⟨g, 0, none⟩))) (h2 : qAd w0 W g f0 p 0) (h3 : Below w0.heap.size w0 W) => hx ▸ byte_fn_ok b1 g f0 p 0 w0 W h1 HLT.out h2 h3
 have HFN := am hfn
 rw [← hx]
 clear hx hfn
 go_wp2_with (go_at_call 68; refine (HFN.out _ ((HB3.out.cell (p := ⟨b1, 0, none⟩) hb1).trans hq) ((HI.out.alloc _).alloc _) (qAi (qAi HB.out _) _)).mono ?_; rintro e w4 ⟨rfl, hi, hbw, hk⟩; have hv4 : w4.heap[w.heap.size + 1]? = some (.cells #[.int .u8 0] 5 (0, 0)) := (hk.2 _ (qAt H3.out) (by omega) (by simp)).trans H3.out; have v4 : w4.cell? ⟨w.heap.size + 1, 0, none⟩ = some (.int .u8 0) := (qAa hv4 0).trans rfl; have z4 := qAg hv4 0; have HI4 := am (hi.behind (p := ⟨w.heap.size + 1, 0, none⟩) (by show g < w.heap.size + 1; omega) (.int .u8 x)); have HK4 := am (qCg (j := 0) HB3.out hk (Nat.le_succ _) (.int .u8 x)); have HV4 := am hv4; have HB4 := am (qAs (g := w.heap.size + 1) (j := 0) (v := .int .u8 x) hbw (Nat.le_trans HB.out.size (Nat.le_succ _))); clear hi hk hv4 hbw)
 refine leaves_cons (f := 107) (args := #[.pointer (some ⟨w.heap.size + 1, 0, none⟩), .pointer (some ⟨w.heap.size, 0, none⟩)]) (by simp) (by simp [go_sem]) ?_
 refine (qEa _ _ _).mono ?_
 rintro e u' w'' ⟨rfl, rfl, rfl⟩
 have hvc : (w4.setCell ⟨w.heap.size + 1, 0, none⟩ (.int .u8 x)).heap[w.heap.size + 1]? = some (.cells #[.int .u8 x] 5 (0, 0)) := by simpa using qBU HV4.out 0 (.int .u8 x)
 have hres := (qAa hvc 0).trans rfl
 exact ⟨.int .u8 x, by simp [results, Try.results67, go_sem, hres], rfl, HI4.out, HB4.out, HK4.out⟩
theorem qDO (b1 g : Nat) (f0 : List Int) (p : Int) (w0 w : World) (hq : w.cell? ⟨b1, 0, none⟩ = some (.pointer (some ⟨g, 0, none⟩))) (hlt : f0.length ≤ p) (hI : qAd w0 w g f0 p 0) (hB : Below w0.heap.size w0 w) :
  Calls Try.prog 67 #[.pointer (some ⟨g, 0, none⟩), .func (.func 68) #[] #[.pointer (some ⟨b1, 0, none⟩)]] w fun e w' => e = .returned (.int .u8 0) ∧ qAd w0 w' g f0 p 40 ∧ Below w0.heap.size w0 w' ∧ qAh w w' g none := by
 have HI := am hI
 have HB := am hB
 have HLT := am hlt
 have hgl := hI.lt
 have hb1 := World.block_lt_of_cell? w _ hq
 obtain ⟨_, h1, h2, h3, v, hb, hr⟩ := hI
 have c1 : w.cell? ⟨g, 1, none⟩ = some (.int .i64 0) := (qAa hb 1).trans rfl
 have HG := am hb
 clear hb hr hB h1 h2 h3 hlt
 go_enter_defers Try.func67, Try.ntmps67
 have HB3 := am (((Below.refl w.heap.size w).alloc (Nat.le_refl _) (.cells #[.pointer (some ⟨g, 0, none⟩)] 59)).alloc (by simp) (.cells #[.int .u8 0] 5))
 have H2 : qAb (((w.alloc (.cells #[.pointer (some ⟨g, 0, none⟩)] 59)).alloc (.cells #[.int .u8 0] 5)).heap[w.heap.size]? = some (.cells #[.pointer (some ⟨g, 0, none⟩)] 59 (0, 0))) := ⟨qAG (heap_alloc_new w _) _⟩
 have H3 : qAb (((w.alloc (.cells #[.pointer (some ⟨g, 0, none⟩)] 59)).alloc (.cells #[.int .u8 0] 5)).heap[w.heap.size + 1]? = some (.cells #[.int .u8 0] 5 (0, 0))) := ⟨by simpa using heap_alloc_new (w.alloc (.cells #[.pointer (some ⟨g, 0, none⟩)] 59)) (.cells #[.int .u8 0] 5)⟩
 have HFN := am (fun W (h1 : W.cell? ⟨b1, 0, none⟩ = some (.pointer (some ⟨g, 0, none⟩))) (h2 : qAd w0 W g f0 p 0) => byte_fn_bad b1 g f0 p 0 w0 W h1 HLT.out h2)
 go_wp2_with (go_at_call 68; refine (HFN.out _ ((HB3.out.cell (p := ⟨b1, 0, none⟩) hb1).trans hq) ((HI.out.alloc _).alloc _)).mono ?_; rintro e w4 ⟨rfl, rfl⟩)
 refine leaves_cons (f := 107) (args := #[.pointer (some ⟨w.heap.size + 1, 0, none⟩), .pointer (some ⟨w.heap.size, 0, none⟩)]) (by simp) (by simp [go_sem]) ?_
 have hg3 : ((w.alloc (.cells #[.pointer (some ⟨g, 0, none⟩)] 59)).alloc (.cells #[.int .u8 0] 5)).heap[g]? = some (.cells #[v, .int .i64 0] 144 (0, 0)) := (HB3.out.block g hgl).trans HG.out
 refine (qDz (w.heap.size + 1) g w.heap.size 0 40 v [] _ ((qAa H3.out 0).trans rfl) (qAg H3.out 0) ((qAa H2.out 0).trans rfl) hg3 (by omega) (by omega)).mono ?_
 rintro e u' w'' ⟨rfl, rfl, rfl⟩
 have HI5 := am ((((HI.out.alloc (.cells #[.pointer (some ⟨g, 0, none⟩)] 59)).alloc (.cells #[.int .u8 0] 5)).behind (p := ⟨w.heap.size + 1, 0, none⟩) (by show g < w.heap.size + 1; omega) (.int .u8 0)).set_e 40)
 have HB5 := am (qAs (g := g) (j := 1) (v := .int .i64 40) (qAs (g := w.heap.size + 1) (j := 0) (v := .int .u8 0) (qAi (qAi HB.out (.cells #[.pointer (some ⟨g, 0, none⟩)] 59)) (.cells #[.int .u8 0] 5)) (Nat.le_trans HB.out.size (Nat.le_succ _))) HI.out.ge)
 have HK5 := am (qAh.set_ (qCg (j := 0) HB3.out (qAh.refl _ g none) (Nat.le_succ _) (.int .u8 0)) 1 (.int .i64 40))
 have hvc := qAu (g := w.heap.size + 1) (p := ⟨g, 1, none⟩) (qBU H3.out 0 (.int .u8 0)) (by show w.heap.size + 1 ≠ g; omega) (.int .i64 40)
 clear hvc
 exact ⟨.int .u8 0, by simp [results, Try.results67, go_sem], rfl, HI5.out, HB5.out, HK5.out⟩
theorem qDk (F : Value) (g : Nat) (f0 : List Int) (p e : Int) (w0 w : World) (he : e ≠ 0) (hI : qAd w0 w g f0 p e) (hB : Below w0.heap.size w0 w) :
  Calls Try.prog 67 #[.pointer (some ⟨g, 0, none⟩), F] w fun e' w' => e' = .returned (.int .u8 0) ∧ qAd w0 w' g f0 p e ∧ Below w0.heap.size w0 w' ∧ qAh w w' g none := by
 have HI := am hI
 have HB := am hB
 have hgl := hI.lt
 obtain ⟨_, h1, h2, h3, v, hb, hr⟩ := hI
 have c1 : w.cell? ⟨g, 1, none⟩ = some (.int .i64 e) := (qAa hb 1).trans rfl
 have hb0 : (e != 0) = true := bne_iff_ne.mpr he
 clear hb hr hB h1 h2 h3 he
 go_enter_defers Try.func67, Try.ntmps67
 go_wp2
 exact ⟨.int .u8 0, by simp [results, Try.results67, go_sem], rfl, (HI.out.alloc _).alloc _, qAi (qAi HB.out _) _, qAT (qAT (qAh.refl _ _ _) _) _⟩
def qAo.f (s0_0 : List Int) (s0_1 : Int) (s0_2 : Int) : Option (Int × Int × Int) :=
 some (if s0_2 ≠ 0 then (0, s0_1, s0_2) else if s0_1 < s0_0.length then (s0_0.getD s0_1.toNat 0, s0_1 + 1, 0) else (0, s0_1, 40))
theorem qAo.calls (g : Nat) (s0_0 : List Int) (s0_1 : Int) (s0_2 : Int) (r1 : Int) (r2 : Int) (r3 : Int) (w0 w : World) (hI : qAd w0 w g s0_0 s0_1 s0_2) (hB : Below w0.heap.size w0 w) (h : qAo.f s0_0 s0_1 s0_2 = some (r1, r2, r3)) :
  Calls Try.prog 20 #[.pointer (some ⟨g, 0, none⟩)] w fun e w' => e = .returned (.int .u8 r1) ∧ qAd w0 w' g s0_0 r2 r3 ∧ Below w0.heap.size w0 w' ∧ qAh w w' g none := by
 have HI := am (hI.alloc (.cells #[.pointer (some ⟨g, 0, none⟩)] 59))
 have HB := am (qAi hB (.cells #[.pointer (some ⟨g, 0, none⟩)] 59))
 have HK := am (qAT (qAh.refl w g none) (.cells #[.pointer (some ⟨g, 0, none⟩)] 59))
 have hq : (w.alloc (.cells #[.pointer (some ⟨g, 0, none⟩)] 59)).cell? ⟨w.heap.size, 0, none⟩ = some (.pointer (some ⟨g, 0, none⟩)) := (qAa (heap_alloc_new w _) 0).trans rfl
 have HQ := am hq
 clear hq
 unfold qAo.f at h
 injection h with h
 have HF : qAb (Calls Try.prog 67 #[.pointer (some ⟨g, 0, none⟩), .func (.func 68) #[] #[.pointer (some ⟨w.heap.size, 0, none⟩)]] (w.alloc (.cells #[.pointer (some ⟨g, 0, none⟩)] 59)) fun e w' => e = .returned (.int .u8 r1) ∧ qAd w0 w' g s0_0 r2 r3 ∧ Below w0.heap.size w0 w' ∧ qAh w w' g none) := by
  by_cases he : s0_2 ≠ 0
  ·rw [if_pos he] at h
   simp only [Prod.mk.injEq] at h
   obtain ⟨rfl, rfl, rfl⟩ := h
   exact ⟨(qDk _ g s0_0 _ _ w0 _ he HI.out HB.out).mono fun e' w' ⟨h1, h2, h3, h4⟩ => ⟨h1, h2, h3, HK.out.trans h4 (.inl rfl)⟩⟩
  rw [if_neg he] at h
  simp only [Decidable.not_not] at he
  subst he
  by_cases hlt : s0_1 < s0_0.length
  ·rw [if_pos hlt] at h
   simp only [Prod.mk.injEq] at h
   obtain ⟨rfl, rfl, rfl⟩ := h
   exact ⟨(qEh _ g s0_0 _ w0 _ HQ.out hlt HI.out HB.out).mono fun e' w' ⟨h1, h2, h3, h4⟩ => ⟨h1, h2, h3, HK.out.trans h4 (.inl rfl)⟩⟩
  rw [if_neg hlt] at h
  simp only [Prod.mk.injEq] at h
  obtain ⟨rfl, rfl, rfl⟩ := h
  exact ⟨(qDO _ g s0_0 _ w0 _ HQ.out (by omega) HI.out HB.out).mono fun e' w' ⟨h1, h2, h3, h4⟩ => ⟨h1, h2, h3, HK.out.trans h4 (.inl rfl)⟩⟩
 clear h hI hB
 go_enter Try.func20, Try.ntmps20
 go_wp2_with (go_at_call 67; refine HF.out.mono ?_; rintro e w' ⟨rfl, hi, hb, hk⟩; have HI2 := am hi; have HB2 := am hb; have HK2 := am hk; clear hi hb hk)
 go_ret
 exact ⟨rfl, HI2.out, HB2.out, HK2.out⟩
end Q
end
section
namespace Q
open Go.RowKit YA YC YB
attribute [local go_sem] qAS min2_int qBa min_two max_three min_three max_four min_four
def qBb.l0 : Nat → Int → List Int → Int → Int → Option (Int)
 | 0, _, _, _, _ => none
 | k + 1, x3, x6, x7, x8 => if x8 < x7 then (if 0 ≤ x8 then (if x8 < (x6.length : Int) then (qBb.l0 k (Go.bits .or .u64 (IntKind.u64.wrap (x3 * 256)) (IntKind.u64.wrap (rd x6 x8))) x6 x7 (wrap64 (x8 + 1))) else (none)) else (none)) else (some x3)
def qBb.f (k : Nat) (l0 : List Int) : Option (Int) := qBb.l0 k 0 l0 (l0.length : Int) 0
theorem qBb.calls (k : Nat) (A0 : Option Addr) (c0 : Nat) (l0 : List Int) (r : Int) (w : World) (hr0 : Kd.C (Kd.int .u8) w A0 l0.length l0) (hc0 : l0.length ≤ c0) (h : qBb.f k l0 = some r) :
  Calls Try.prog 75 #[.slice A0 l0.length c0] w fun e w' => e = .returned (.int .u64 r) ∧ qAB w w' := by
 have aJ := am hr0
 have aM := am hc0
 clear hr0 hc0
 have H : (qBb.l0 k 0 l0 (l0.length : Int) 0) = some r := h
 clear h
 have H' := am H
 clear H
 go_enter Try.func75, Try.ntmps75
 go_wp2
 go_loopg [3, 8] k (fun kq v3 v8 w' => ∃ (aB : Int) (aA : Int), v3 = .int .u64 aB ∧ v8 = .int .i64 aA ∧ qAb (qBb.l0 kq aB l0 (l0.length : Int) aA = some r) ∧ qAb (kq ≤ k) ∧ qAB w w')
 case atStart => exact ⟨(0), (0), (by first | rfl | (simp; done) | (simp [*]; done)), (by first | rfl | (simp; done) | (simp [*]; done)), H', ⟨Nat.le_refl _⟩, by repeat (first | exact qAB.refl _ | apply qAB.step)⟩
 case round =>
  clear H'
  obtain ⟨aB, aA, rfl, rfl, HA, aH, ⟨m1, rfl⟩⟩ := hrel
  cases gk with
  | zero => exact absurd HA.o (by simp [qBb.l0])
  | succ k1 =>
   have H := HA.o
   clear HA
   simp only [qBb.l0] at H
   by_cases c2 : aA < (l0.length : Int)
   rotate_left
   ·rw [if_neg c2] at H
    replace c2 := d0 c2
    obtain rfl := Option.some.inj H
    go_wp2
    go_ret
    exact ⟨by first | rfl | (simp; done) | (simp [*]; done), by repeat (first | exact qAB.refl _ | apply qAB.step)⟩
   rw [if_pos c2] at H
   replace c2 := d1 c2
   obtain ⟨c3, H⟩ := gd H
   replace c3 := d1 c3
   obtain ⟨c4, H⟩ := gd H
   replace c4 := d1 c4
   have H' := am H
   clear H
   have aC : 0 ≤ (aA : Int) := of_decide_eq_true (by first | (with_reducible assumption) | assumption)
   have aD : aA < (l0.length : Int) := of_decide_eq_true (by first | (with_reducible assumption) | assumption)
   obtain ⟨aI, aG, aE⟩ := Kd.at_int aJ.o aA aC aD
   cases aG
   replace aC := eq_true aC
   replace aD := eq_true aD
   go_wp2
   go_roundg k1
   case measure => have := aH.o; omega
   case rel => exact ⟨(Go.bits .or .u64 (IntKind.u64.wrap (aB * 256)) (IntKind.u64.wrap (rd l0 aA))), (wrap64 (aA + 1)), (by first | rfl | (simp; done) | (simp [*]; done)), (by first | rfl | (simp; done) | (simp [*]; done)), H', ⟨by have := aH.o; omega⟩, by repeat (first | exact qAB.refl _ | apply qAB.step)⟩
end Q
end
section
namespace Q
open Go.RowKit YA YC YB
def qCG (n x : Int) : Int := Go.bits .or .u64 (IntKind.u64.wrap (n * 256)) (IntKind.u64.wrap x)
def numF (l : List Int) : Int := l.foldl qCG 0
theorem number_l0 (l : List Int) (hl : l.length ≤ 9223372036854775806) (d : Nat) : ∀ (k : Nat) (i n : Int), 0 ≤ i → (l.length : Int) - i = d → d < k → qBb.l0 k n l (l.length : Int) i = some ((l.drop i.toNat).foldl qCG n) := by
 induction d with
 | zero =>
  intro k i n h0 hd hk
  obtain ⟨k, rfl⟩ : ∃ m, k = m + 1 := ⟨k - 1, by omega⟩
  simp only [qBb.l0]
  rw [if_neg (by omega), List.drop_of_length_le (by omega)]
  rfl
 | succ d ih =>
  intro k i n h0 hd hk
  obtain ⟨k, rfl⟩ : ∃ m, k = m + 1 := ⟨k - 1, by omega⟩
  simp only [qBb.l0]
  have hw : wrap64 (i + 1) = i + 1 := by unfold wrap64; omega
  have hi : i.toNat < l.length := by omega
  have hrd : rd l i = l[i.toNat] := by unfold rd; rw [List.getD_eq_getElem?_getD, List.getElem?_eq_getElem hi]; rfl
  rw [if_pos (by omega), if_pos h0, if_pos (by omega), hw, ih k (i + 1) _ (by omega) (by omega) (by omega), List.drop_eq_getElem_cons hi, List.foldl_cons, hrd, show (i + 1).toNat = i.toNat + 1 by omega]
  rfl
theorem qBW (A : Option Addr) (c : Nat) (l : List Int) (w : World) (hr : Kd.C (Kd.int .u8) w A l.length l) (hc : l.length ≤ c) (hl : l.length ≤ 9223372036854775806) :
  Calls Try.prog 75 #[.slice A l.length c] w fun e w' => e = .returned (.int .u64 (numF l)) ∧ qAB w w' :=
 qBb.calls (l.length + 1) A c l (numF l) w hr hc (by
   unfold qBb.f
   rw [number_l0 l hl l.length (l.length + 1) 0 0 (by omega) (by omega) (by omega)]
   rfl)
theorem catch_int_idle (p q : Addr) (w : World) :
  CallsD Try.prog 108 #[.pointer (some p), .pointer (some q)] .returning w fun e u' w' => e = .returned (.tuple #[]) ∧ u' = .returning ∧ w' = w := by
 refine callsD_of_wpS Try.func108 rfl fun c₀ cs hu => ?_
 apply wpS_seq
 apply wpS_region
 simp [wpOpsS, go_sem, recoverD, hu, Try.ntmps108, Exit.thenS]
 refine wpS_of_wp (qCi fun Q' hQ => ?_)
 have HQ := am hQ
 clear hQ
 rw [show ((#[Value.pointer (some p), Value.pointer (some q)] : Array Value) ++ (Array.replicate 15 undef).setIfInBounds 4 Value.nilIface) = #[.pointer (some p), .pointer (some q), undef, undef, undef, undef, .nilIface, undef, undef, undef, undef, undef, undef, undef, undef, undef, undef] from rfl]
 go_wp2
 refine HQ.out _ _ _ ?_
 cases c₀
 simp_all [bodyPostS, results, Try.results108]
theorem qDM (bv g bq : Nat) (x : Value) (k : Int) (v : Value) (older : List PanicEntry) (w : World) (hp : w.cell? ⟨bv, 0, none⟩ = some x) (hz : w.frozen? ⟨bv, 0, none⟩ = false) (hq : w.cell? ⟨bq, 0, none⟩ = some (.pointer (some ⟨g, 0, none⟩))) (hg : w.heap[g]? = some (.cells #[v, .int .i64 0] 144 (0, 0))) (hpg : bv ≠ g) (hpq : bv ≠ bq) :
  CallsD Try.prog 108 #[.pointer (some ⟨bv, 0, none⟩), .pointer (some ⟨bq, 0, none⟩)] (.panicking ({ v := .iface 179 (.int .i64 k), recovered := false } :: older)) w fun e u' w' =>
   e = .returned (.tuple #[]) ∧ u' = .panicking ({ v := .iface 179 (.int .i64 k), recovered := true } :: older) ∧ w' = (w.setCell ⟨bv, 0, none⟩ (.int .i64 0)).setCell ⟨g, 1, none⟩ (.int .i64 k) := by
 have hta : ∀ (v : Value) (W : World), (Instr.typeAssert (.iface 179 v) 20 179 true).run Try.prog W = .ok (.tuple #[v, .bool true]) W := fun v W => by rfl
 have c1 : (w.setCell ⟨bv, 0, none⟩ (.int .i64 0)).cell? ⟨g, 1, none⟩ = some (.int .i64 0) := (World.cell?_setCell_other _ _ _ _ (by intro e; injection e with e; exact hpg e)).trans ((qAa hg 1).trans rfl)
 have f1 : (w.setCell ⟨bv, 0, none⟩ (.int .i64 0)).frozen? ⟨g, 1, none⟩ = false := (World.frozen?_setCell _ _ _ _).trans (qAg hg 1)
 have q1 : (w.setCell ⟨bv, 0, none⟩ (.int .i64 0)).cell? ⟨bq, 0, none⟩ = some (.pointer (some ⟨g, 0, none⟩)) := (World.cell?_setCell_other _ _ _ _ (by intro e; injection e with e; exact hpq e)).trans hq
 refine callsD_of_wpS Try.func108 rfl fun c₀ cs hu => ?_
 apply wpS_seq
 apply wpS_region
 simp [wpOpsS, go_sem, recoverD, hu, Try.ntmps108, Exit.thenS]
 refine wpS_of_wp (qCi fun Q' hQ => ?_)
 have HQ := am hQ
 clear hQ
 rw [show ((#[Value.pointer (some ⟨bv, 0, none⟩), Value.pointer (some ⟨bq, 0, none⟩)] : Array Value) ++ (Array.replicate 15 undef).setIfInBounds 4 (Value.iface 179 (.int .i64 k))) = #[.pointer (some ⟨bv, 0, none⟩), .pointer (some ⟨bq, 0, none⟩), undef, undef, undef, undef, .iface 179 (.int .i64 k), undef, undef, undef, undef, undef, undef, undef, undef, undef, undef] from rfl]
 go_wp2
 refine HQ.out _ _ _ ?_
 cases c₀
 simp_all [bodyPostS, results, Try.results108]
theorem qD3 (F : Value) (g : Nat) (f0 : List Int) (p e : Int) (w0 w : World) (he : e ≠ 0) (hI : qAd w0 w g f0 p e) (hB : Below w0.heap.size w0 w) :
  Calls Try.prog 70 #[.pointer (some ⟨g, 0, none⟩), F] w fun e' w' => e' = .returned (.int .i64 0) ∧ qAd w0 w' g f0 p e ∧ Below w0.heap.size w0 w' ∧ qAh w w' g none := by
 have HI := am hI
 have HB := am hB
 have hgl := hI.lt
 obtain ⟨_, h1, h2, h3, v, hb, hr⟩ := hI
 have c1 : w.cell? ⟨g, 1, none⟩ = some (.int .i64 e) := (qAa hb 1).trans rfl
 have hb0 : (e != 0) = true := bne_iff_ne.mpr he
 clear hb hr hB h1 h2 h3 he
 go_enter_defers Try.func70, Try.ntmps70
 go_wp2
 exact ⟨.int .i64 0, by simp [results, Try.results70, go_sem], rfl, (HI.out.alloc _).alloc _, qAi (qAi HB.out _) _, qAT (qAT (qAh.refl _ _ _) _) _⟩
theorem catch_u64_idle (p q : Addr) (w : World) :
  CallsD Try.prog 109 #[.pointer (some p), .pointer (some q)] .returning w fun e u' w' => e = .returned (.tuple #[]) ∧ u' = .returning ∧ w' = w := by
 refine callsD_of_wpS Try.func109 rfl fun c₀ cs hu => ?_
 apply wpS_seq
 apply wpS_region
 simp [wpOpsS, go_sem, recoverD, hu, Try.ntmps109, Exit.thenS]
 refine wpS_of_wp (qCi fun Q' hQ => ?_)
 have HQ := am hQ
 clear hQ
 rw [show ((#[Value.pointer (some p), Value.pointer (some q)] : Array Value) ++ (Array.replicate 15 undef).setIfInBounds 4 Value.nilIface) = #[.pointer (some p), .pointer (some q), undef, undef, undef, undef, .nilIface, undef, undef, undef, undef, undef, undef, undef, undef, undef, undef] from rfl]
 go_wp2
 refine HQ.out _ _ _ ?_
 cases c₀
 simp_all [bodyPostS, results, Try.results109]
theorem qDN (bv g bq : Nat) (x : Value) (k : Int) (v : Value) (older : List PanicEntry) (w : World) (hp : w.cell? ⟨bv, 0, none⟩ = some x) (hz : w.frozen? ⟨bv, 0, none⟩ = false) (hq : w.cell? ⟨bq, 0, none⟩ = some (.pointer (some ⟨g, 0, none⟩))) (hg : w.heap[g]? = some (.cells #[v, .int .i64 0] 144 (0, 0))) (hpg : bv ≠ g) (hpq : bv ≠ bq) :
  CallsD Try.prog 109 #[.pointer (some ⟨bv, 0, none⟩), .pointer (some ⟨bq, 0, none⟩)] (.panicking ({ v := .iface 179 (.int .i64 k), recovered := false } :: older)) w fun e u' w' =>
   e = .returned (.tuple #[]) ∧ u' = .panicking ({ v := .iface 179 (.int .i64 k), recovered := true } :: older) ∧ w' = (w.setCell ⟨bv, 0, none⟩ (.int .u64 0)).setCell ⟨g, 1, none⟩ (.int .i64 k) := by
 have hta : ∀ (v : Value) (W : World), (Instr.typeAssert (.iface 179 v) 20 179 true).run Try.prog W = .ok (.tuple #[v, .bool true]) W := fun v W => by rfl
 have c1 : (w.setCell ⟨bv, 0, none⟩ (.int .u64 0)).cell? ⟨g, 1, none⟩ = some (.int .i64 0) := (World.cell?_setCell_other _ _ _ _ (by intro e; injection e with e; exact hpg e)).trans ((qAa hg 1).trans rfl)
 have f1 : (w.setCell ⟨bv, 0, none⟩ (.int .u64 0)).frozen? ⟨g, 1, none⟩ = false := (World.frozen?_setCell _ _ _ _).trans (qAg hg 1)
 have q1 : (w.setCell ⟨bv, 0, none⟩ (.int .u64 0)).cell? ⟨bq, 0, none⟩ = some (.pointer (some ⟨g, 0, none⟩)) := (World.cell?_setCell_other _ _ _ _ (by intro e; injection e with e; exact hpq e)).trans hq
 refine callsD_of_wpS Try.func109 rfl fun c₀ cs hu => ?_
 apply wpS_seq
 apply wpS_region
 simp [wpOpsS, go_sem, recoverD, hu, Try.ntmps109, Exit.thenS]
 refine wpS_of_wp (qCi fun Q' hQ => ?_)
 have HQ := am hQ
 clear hQ
 rw [show ((#[Value.pointer (some ⟨bv, 0, none⟩), Value.pointer (some ⟨bq, 0, none⟩)] : Array Value) ++ (Array.replicate 15 undef).setIfInBounds 4 (Value.iface 179 (.int .i64 k))) = #[.pointer (some ⟨bv, 0, none⟩), .pointer (some ⟨bq, 0, none⟩), undef, undef, undef, undef, .iface 179 (.int .i64 k), undef, undef, undef, undef, undef, undef, undef, undef, undef, undef] from rfl]
 go_wp2
 refine HQ.out _ _ _ ?_
 cases c₀
 simp_all [bodyPostS, results, Try.results109]
theorem qD4 (F : Value) (g : Nat) (f0 : List Int) (p e : Int) (w0 w : World) (he : e ≠ 0) (hI : qAd w0 w g f0 p e) (hB : Below w0.heap.size w0 w) :
  Calls Try.prog 73 #[.pointer (some ⟨g, 0, none⟩), F] w fun e' w' => e' = .returned (.int .u64 0) ∧ qAd w0 w' g f0 p e ∧ Below w0.heap.size w0 w' ∧ qAh w w' g none := by
 have HI := am hI
 have HB := am hB
 have hgl := hI.lt
 obtain ⟨_, h1, h2, h3, v, hb, hr⟩ := hI
 have c1 : w.cell? ⟨g, 1, none⟩ = some (.int .i64 e) := (qAa hb 1).trans rfl
 have hb0 : (e != 0) = true := bne_iff_ne.mpr he
 clear hb hr hB h1 h2 h3 he
 go_enter_defers Try.func73, Try.ntmps73
 go_wp2
 exact ⟨.int .u64 0, by simp [results, Try.results73, go_sem], rfl, (HI.out.alloc _).alloc _, qAi (qAi HB.out _) _, qAT (qAT (qAh.refl _ _ _) _) _⟩
theorem long_fn_ok (b1 g : Nat) (f0 : List Int) (p e : Int) (w0 w : World) (hq : w.cell? ⟨b1, 0, none⟩ = some (.pointer (some ⟨g, 0, none⟩))) (hlt : p + 8 ≤ f0.length) (hI : qAd w0 w g f0 p e) (hB : Below w0.heap.size w0 w) :
  Calls Try.prog 74 #[.pointer (some ⟨b1, 0, none⟩)] w fun e' w' => e' = .returned (.int .u64 (numF ((f0.drop p.toNat).take 8))) ∧ qAd w0 w' g f0 (p + 8) e ∧ Below w0.heap.size w0 w' ∧ qAh w w' g none := by
 have HI := am hI
 have HB := am hB
 have h0 := hI.2.1
 clear hI hB
 have hl : ((f0.drop p.toNat).take 8).length = 8 := by rw [List.length_take, List.length_drop]; omega
 have HL := am hl
 clear hl
 go_enter Try.func74, Try.ntmps74
 go_wp2_with (first | (go_at_call 69; refine (qCv g f0 p e 8 w0 w (by omega) (by omega) HI.out).mono ?_; rintro e' w' ⟨A, c, v, rfl, hc, hC, hi, hw⟩; have hk := hw ▸ qAh.set_ (qAh.refl w g none) 0 v; have HK := am hk; have HN := am hi; have HBN := am (hw ▸ qAs (g := g) (j := 0) (v := v) HB.out HI.out.ge); have hnum := qBW A c ((f0.drop p.toNat).take 8) w' (by rw [HL.out]; exact hC) (by rw [HL.out]; exact hc) (by rw [HL.out]; decide); rw [HL.out] at hnum; have HNM := am hnum; clear hk hi hw hC hnum) | (go_at_call 75; refine HNM.out.mono ?_; rintro e' w'' ⟨rfl, hd⟩; obtain ⟨m, rfl⟩ := hd.out))
 go_ret
 exact ⟨rfl, HN.out.drewN m, qAp HBN.out m, qB0 HK.out m⟩
theorem long_fn_bad (b1 g : Nat) (f0 : List Int) (p e : Int) (w0 w : World) (hq : w.cell? ⟨b1, 0, none⟩ = some (.pointer (some ⟨g, 0, none⟩))) (hlt : f0.length < p + 8) (hI : qAd w0 w g f0 p e) (hB : Below w0.heap.size w0 w) :
  Calls Try.prog 74 #[.pointer (some ⟨b1, 0, none⟩)] w fun e' w' => e' = .panicked [{ v := .iface 179 (.int .i64 40), recovered := false }] ∧ qAd w0 w' g f0 p e ∧ Below w0.heap.size w0 w' ∧ qAh w w' g none := by
 have HI := am hI
 have HB := am hB
 clear hI hB
 go_enter Try.func74, Try.ntmps74
 go_wp2_with (go_at_call 69; refine (qBZ g f0 p e 8 w0 w (by omega) HI.out).mono ?_; rintro e' w' ⟨rfl, rfl⟩)
 exact ⟨rfl, rfl, HI.out, HB.out, qAh.refl _ _ _⟩
theorem qEi (b1 g : Nat) (f0 : List Int) (p p' : Int) (x : Int) (w0 w : World) (hI : qAd w0 w g f0 p 0) (hB : Below w0.heap.size w0 w)
  (hfn : ∀ W, Below w.heap.size w W → qAd w0 W g f0 p 0 → Below w0.heap.size w0 W → Calls Try.prog 74 #[.pointer (some ⟨b1, 0, none⟩)] W fun e w' => e = .returned (.int .u64 x) ∧ qAd w0 w' g f0 p' 0 ∧ Below w0.heap.size w0 w' ∧ qAh W w' g none) :
  Calls Try.prog 73 #[.pointer (some ⟨g, 0, none⟩), .func (.func 74) #[] #[.pointer (some ⟨b1, 0, none⟩)]] w fun e w' => e = .returned (.int .u64 x) ∧ qAd w0 w' g f0 p' 0 ∧ Below w0.heap.size w0 w' ∧ qAh w w' g none := by
 have HI := am hI
 have HB := am hB
 have HFN := am hfn
 have hgl := hI.lt
 obtain ⟨_, h1, h2, h3, v, hb, hr⟩ := hI
 have c1 : w.cell? ⟨g, 1, none⟩ = some (.int .i64 0) := (qAa hb 1).trans rfl
 clear hb hr hB h1 h2 h3 hfn
 go_enter_defers Try.func73, Try.ntmps73
 have HB3 := am (((Below.refl w.heap.size w).alloc (Nat.le_refl _) (.cells #[.pointer (some ⟨g, 0, none⟩)] 59)).alloc (by simp) (.cells #[.int .u64 0] 66))
 have H3 : qAb (((w.alloc (.cells #[.pointer (some ⟨g, 0, none⟩)] 59)).alloc (.cells #[.int .u64 0] 66)).heap[w.heap.size + 1]? = some (.cells #[.int .u64 0] 66 (0, 0))) := ⟨by simpa using heap_alloc_new (w.alloc (.cells #[.pointer (some ⟨g, 0, none⟩)] 59)) (.cells #[.int .u64 0] 66)⟩
 go_wp2_with (go_at_call 74; refine (HFN.out _ HB3.out ((HI.out.alloc _).alloc _) (qAi (qAi HB.out _) _)).mono ?_; rintro e w4 ⟨rfl, hi, hbw, hk⟩; have hv4 : w4.heap[w.heap.size + 1]? = some (.cells #[.int .u64 0] 66 (0, 0)) := (hk.2 _ (qAt H3.out) (by omega) (by simp)).trans H3.out; have v4 : w4.cell? ⟨w.heap.size + 1, 0, none⟩ = some (.int .u64 0) := (qAa hv4 0).trans rfl; have z4 := qAg hv4 0; have HI4 := am (hi.behind (p := ⟨w.heap.size + 1, 0, none⟩) (by show g < w.heap.size + 1; omega) (.int .u64 x)); have HK4 := am (qCg (j := 0) HB3.out hk (Nat.le_succ _) (.int .u64 x)); have HV4 := am hv4; have HB4 := am (qAs (g := w.heap.size + 1) (j := 0) (v := .int .u64 x) hbw (Nat.le_trans HB.out.size (Nat.le_succ _))); clear hi hk hv4 hbw)
 refine leaves_cons (f := 109) (args := #[.pointer (some ⟨w.heap.size + 1, 0, none⟩), .pointer (some ⟨w.heap.size, 0, none⟩)]) (by simp) (by simp [go_sem]) ?_
 refine (catch_u64_idle _ _ _).mono ?_
 rintro e u' w'' ⟨rfl, rfl, rfl⟩
 have hvc : (w4.setCell ⟨w.heap.size + 1, 0, none⟩ (.int .u64 x)).heap[w.heap.size + 1]? = some (.cells #[.int .u64 x] 66 (0, 0)) := by simpa using qBU HV4.out 0 (.int .u64 x)
 have hres := (qAa hvc 0).trans rfl
 exact ⟨.int .u64 x, by simp [results, Try.results73, go_sem, hres], rfl, HI4.out, HB4.out, HK4.out⟩
theorem qDP (b1 g : Nat) (f0 : List Int) (p p' : Int) (k : Int) (w0 w : World) (hI : qAd w0 w g f0 p 0) (hB : Below w0.heap.size w0 w)
  (hfn : ∀ W, Below w.heap.size w W → qAd w0 W g f0 p 0 → Below w0.heap.size w0 W → Calls Try.prog 74 #[.pointer (some ⟨b1, 0, none⟩)] W fun e w' => e = .panicked [{ v := .iface 179 (.int .i64 k), recovered := false }] ∧ qAd w0 w' g f0 p' 0 ∧ Below w0.heap.size w0 w' ∧ qAh W w' g none) :
  Calls Try.prog 73 #[.pointer (some ⟨g, 0, none⟩), .func (.func 74) #[] #[.pointer (some ⟨b1, 0, none⟩)]] w fun e w' => e = .returned (.int .u64 0) ∧ qAd w0 w' g f0 p' k ∧ Below w0.heap.size w0 w' ∧ qAh w w' g none := by
 have HI := am hI
 have HB := am hB
 have HFN := am hfn
 have hgl := hI.lt
 obtain ⟨_, h1, h2, h3, v, hb, hr⟩ := hI
 have c1 : w.cell? ⟨g, 1, none⟩ = some (.int .i64 0) := (qAa hb 1).trans rfl
 clear hb hr hB h1 h2 h3 hfn
 go_enter_defers Try.func73, Try.ntmps73
 have HB3 := am (((Below.refl w.heap.size w).alloc (Nat.le_refl _) (.cells #[.pointer (some ⟨g, 0, none⟩)] 59)).alloc (by simp) (.cells #[.int .u64 0] 66))
 have H2 : qAb (((w.alloc (.cells #[.pointer (some ⟨g, 0, none⟩)] 59)).alloc (.cells #[.int .u64 0] 66)).heap[w.heap.size]? = some (.cells #[.pointer (some ⟨g, 0, none⟩)] 59 (0, 0))) := ⟨qAG (heap_alloc_new w _) _⟩
 have H3 : qAb (((w.alloc (.cells #[.pointer (some ⟨g, 0, none⟩)] 59)).alloc (.cells #[.int .u64 0] 66)).heap[w.heap.size + 1]? = some (.cells #[.int .u64 0] 66 (0, 0))) := ⟨by simpa using heap_alloc_new (w.alloc (.cells #[.pointer (some ⟨g, 0, none⟩)] 59)) (.cells #[.int .u64 0] 66)⟩
 go_wp2_with (go_at_call 74; refine (HFN.out _ HB3.out ((HI.out.alloc _).alloc _) (qAi (qAi HB.out _) _)).mono ?_; rintro e w4 ⟨rfl, hi, hbw, hk⟩)
 refine leaves_cons (f := 109) (args := #[.pointer (some ⟨w.heap.size + 1, 0, none⟩), .pointer (some ⟨w.heap.size, 0, none⟩)]) (by simp) (by simp [go_sem]) ?_
 have hv4 : w4.heap[w.heap.size + 1]? = some (.cells #[.int .u64 0] 66 (0, 0)) := (hk.2 _ (qAt H3.out) (by omega) (by simp)).trans H3.out
 have hq4 : w4.heap[w.heap.size]? = some (.cells #[.pointer (some ⟨g, 0, none⟩)] 59 (0, 0)) := (hk.2 _ (qAt H2.out) (by omega) (by simp)).trans H2.out
 obtain ⟨_, _, _, _, v4, hg4, _⟩ := id hi
 refine (qDN (w.heap.size + 1) g w.heap.size (.int .u64 0) k v4 [] _ ((qAa hv4 0).trans rfl) (qAg hv4 0) ((qAa hq4 0).trans rfl) hg4 (by omega) (by omega)).mono ?_
 rintro e u' w'' ⟨rfl, rfl, rfl⟩
 have HI5 := am ((hi.behind (p := ⟨w.heap.size + 1, 0, none⟩) (by show g < w.heap.size + 1; omega) (.int .u64 0)).set_e k)
 have HB5 := am (qAs (g := g) (j := 1) (v := .int .i64 k) (qAs (g := w.heap.size + 1) (j := 0) (v := .int .u64 0) hbw (Nat.le_trans HB.out.size (Nat.le_succ _))) HI.out.ge)
 have HK5 := am (qAh.set_ (qCg (j := 0) HB3.out hk (Nat.le_succ _) (.int .u64 0)) 1 (.int .i64 k))
 have hvc := qAu (g := w.heap.size + 1) (p := ⟨g, 1, none⟩) (qBU hv4 0 (.int .u64 0)) (by show w.heap.size + 1 ≠ g; omega) (.int .i64 k)
 have hres := (qAa hvc 0).trans rfl
 clear hvc
 exact ⟨.int .u64 0, by simp [results, Try.results73, go_sem, hres], rfl, HI5.out, HB5.out, HK5.out⟩
def qAX.f (s0_0 : List Int) (s0_1 : Int) (s0_2 : Int) : Option (Int × Int × Int) :=
 some (if s0_2 ≠ 0 then (0, s0_1, s0_2) else if s0_1 + 8 ≤ s0_0.length then (numF ((s0_0.drop s0_1.toNat).take 8), s0_1 + 8, 0) else (0, s0_1, 40))
theorem qAX.calls (g : Nat) (s0_0 : List Int) (s0_1 : Int) (s0_2 : Int) (r1 : Int) (r2 : Int) (r3 : Int) (w0 w : World) (hI : qAd w0 w g s0_0 s0_1 s0_2) (hB : Below w0.heap.size w0 w) (h : qAX.f s0_0 s0_1 s0_2 = some (r1, r2, r3)) :
  Calls Try.prog 25 #[.pointer (some ⟨g, 0, none⟩)] w fun e w' => e = .returned (.int .u64 r1) ∧ qAd w0 w' g s0_0 r2 r3 ∧ Below w0.heap.size w0 w' ∧ qAh w w' g none := by
 have HI := am (hI.alloc (.cells #[.pointer (some ⟨g, 0, none⟩)] 59))
 have HB := am (qAi hB (.cells #[.pointer (some ⟨g, 0, none⟩)] 59))
 have HK := am (qAT (qAh.refl w g none) (.cells #[.pointer (some ⟨g, 0, none⟩)] 59))
 have hq : (w.alloc (.cells #[.pointer (some ⟨g, 0, none⟩)] 59)).cell? ⟨w.heap.size, 0, none⟩ = some (.pointer (some ⟨g, 0, none⟩)) := (qAa (heap_alloc_new w _) 0).trans rfl
 have HQ : qAb (∀ W, Below (w.alloc (.cells #[.pointer (some ⟨g, 0, none⟩)] 59)).heap.size (w.alloc (.cells #[.pointer (some ⟨g, 0, none⟩)] 59)) W → W.cell? ⟨w.heap.size, 0, none⟩ = some (.pointer (some ⟨g, 0, none⟩))) := ⟨fun W hW => (hW.cell (p := ⟨w.heap.size, 0, none⟩) (by simp)).trans hq⟩
 clear hq
 have h0 : 0 ≤ s0_1 := hI.2.1
 unfold qAX.f at h
 injection h with h
 have HF : qAb (Calls Try.prog 73 #[.pointer (some ⟨g, 0, none⟩), .func (.func 74) #[] #[.pointer (some ⟨w.heap.size, 0, none⟩)]] (w.alloc (.cells #[.pointer (some ⟨g, 0, none⟩)] 59)) fun e w' => e = .returned (.int .u64 r1) ∧ qAd w0 w' g s0_0 r2 r3 ∧ Below w0.heap.size w0 w' ∧ qAh w w' g none) := by
  by_cases he : s0_2 ≠ 0
  ·rw [if_pos he] at h
   simp only [Prod.mk.injEq] at h
   obtain ⟨rfl, rfl, rfl⟩ := h
   exact ⟨(qD4 _ g s0_0 _ _ w0 _ he HI.out HB.out).mono fun e' w' ⟨h1, h2, h3, h4⟩ => ⟨h1, h2, h3, HK.out.trans h4 (.inl rfl)⟩⟩
  rw [if_neg he] at h
  simp only [Decidable.not_not] at he
  subst he
  by_cases hlt : s0_1 + 8 ≤ s0_0.length
  ·rw [if_pos hlt] at h
   simp only [Prod.mk.injEq] at h
   obtain ⟨rfl, rfl, rfl⟩ := h
   exact ⟨(qEi w.heap.size g s0_0 _ _ _ w0 _ HI.out HB.out (fun W h1 h2 h3 => long_fn_ok _ g s0_0 _ _ w0 W (HQ.out W h1) hlt h2 h3)).mono fun e' w' ⟨h1, h2, h3, h4⟩ => ⟨h1, h2, h3, HK.out.trans h4 (.inl rfl)⟩⟩
  rw [if_neg hlt] at h
  simp only [Prod.mk.injEq] at h
  obtain ⟨rfl, rfl, rfl⟩ := h
  exact ⟨(qDP w.heap.size g s0_0 _ _ _ w0 _ HI.out HB.out (fun W h1 h2 h3 => long_fn_bad _ g s0_0 _ _ w0 W (HQ.out W h1) (by omega) h2 h3)).mono fun e' w' ⟨h1, h2, h3, h4⟩ => ⟨h1, h2, h3, HK.out.trans h4 (.inl rfl)⟩⟩
 clear h hI hB h0
 go_enter Try.func25, Try.ntmps25
 go_wp2_with (go_at_call 73; refine HF.out.mono ?_; rintro e w' ⟨rfl, hi, hb, hk⟩; have HI2 := am hi; have HB2 := am hb; have HK2 := am hk; clear hi hb hk)
 go_ret
 exact ⟨rfl, HI2.out, HB2.out, HK2.out⟩
theorem numStep_nonneg (n x : Int) : 0 ≤ qCG n x := by
 unfold qCG Go.bits
 simp only [IntKind.wrap, IntKind.bits, IntKind.signed]
 have : ∀ a : Int, 0 ≤ a % (2 : Int) ^ 64 := fun a => Int.emod_nonneg _ (by decide)
 simp
 try omega
theorem qCY (l : List Int) : 0 ≤ numF l := by
 unfold numF
 have : ∀ (l : List Int) (n : Int), 0 ≤ n → 0 ≤ l.foldl qCG n := by
  intro l
  induction l with
  | nil => intro n h; exact h
  | cons x l ih => intro n _; exact ih _ (numStep_nonneg n x)
 exact this l 0 (Int.le_refl 0)
def num4 (f0 : List Int) (p : Int) : Int := numF ((f0.drop p.toNat).take 4)
theorem qEq (g : Nat) (f0 : List Int) (p e : Int) (w0 w : World) (hlt : p + 4 ≤ f0.length) (hv : num4 f0 p ≤ 2147483647) (hI : qAd w0 w g f0 p e) (hB : Below w0.heap.size w0 w) :
  Calls Try.prog 72 #[.pointer (some ⟨g, 0, none⟩)] w fun e' w' => e' = .returned (.int .i64 (num4 f0 p)) ∧ qAd w0 w' g f0 (p + 4) e ∧ Below w0.heap.size w0 w' ∧ qAh w w' g none := by
 have HI := am hI
 have HB := am hB
 have h0 := hI.2.1
 have hx0 : 0 ≤ num4 f0 p := qCY _
 obtain ⟨x, hx⟩ : ∃ x, x = num4 f0 p := ⟨_, rfl⟩
 have HX : qAb (x = numF ((f0.drop p.toNat).take 4)) := ⟨hx⟩
 rw [← hx] at hx0 hv ⊢
 clear hI hB hx
 have hl : ((f0.drop p.toNat).take 4).length = 4 := by rw [List.length_take, List.length_drop]; omega
 have HL := am hl
 clear hl
 go_enter Try.func72, Try.ntmps72
 go_wp2_with (first | (go_at_call 69; refine (qCv g f0 p e 4 w0 w (by omega) (by omega) HI.out).mono ?_; rintro e' w' ⟨A, c, v, rfl, hc, hC, hi, hw⟩; have hk := hw ▸ qAh.set_ (qAh.refl w g none) 0 v; have HK := am hk; have HN := am hi; have HBN := am (hw ▸ qAs (g := g) (j := 0) (v := v) HB.out HI.out.ge); have hnum := qBW A c ((f0.drop p.toNat).take 4) w' (by rw [HL.out]; exact hC) (by rw [HL.out]; exact hc) (by rw [HL.out]; decide); rw [HL.out, ← HX.out] at hnum; have HNM := am hnum; clear hk hi hw hC hnum) | (go_at_call 75; refine HNM.out.mono ?_; rintro e' w'' ⟨rfl, hd⟩; obtain ⟨m, rfl⟩ := hd.out))
 go_ret
 exact ⟨rfl, HN.out.drewN m, qAp HBN.out m, qB0 HK.out m⟩
theorem rd_int_big (g : Nat) (f0 : List Int) (p e : Int) (w0 w : World) (hlt : p + 4 ≤ f0.length) (hv : 2147483647 < num4 f0 p) (hI : qAd w0 w g f0 p e) (hB : Below w0.heap.size w0 w) :
  Calls Try.prog 72 #[.pointer (some ⟨g, 0, none⟩)] w fun e' w' => e' = .panicked [{ v := .iface 179 (.int .i64 42), recovered := false }] ∧ qAd w0 w' g f0 (p + 4) e ∧ Below w0.heap.size w0 w' ∧ qAh w w' g none := by
 have HI := am hI
 have HB := am hB
 have h0 := hI.2.1
 have hx0 : 0 ≤ num4 f0 p := qCY _
 obtain ⟨x, hx⟩ : ∃ x, x = num4 f0 p := ⟨_, rfl⟩
 have HX : qAb (x = numF ((f0.drop p.toNat).take 4)) := ⟨hx⟩
 rw [← hx] at hx0 hv
 clear hI hB hx
 have hl : ((f0.drop p.toNat).take 4).length = 4 := by rw [List.length_take, List.length_drop]; omega
 have HL := am hl
 clear hl
 go_enter Try.func72, Try.ntmps72
 go_wp2_with (first | (go_at_call 69; refine (qCv g f0 p e 4 w0 w (by omega) (by omega) HI.out).mono ?_; rintro e' w' ⟨A, c, v, rfl, hc, hC, hi, hw⟩; have hk := hw ▸ qAh.set_ (qAh.refl w g none) 0 v; have HK := am hk; have HN := am hi; have HBN := am (hw ▸ qAs (g := g) (j := 0) (v := v) HB.out HI.out.ge); have hnum := qBW A c ((f0.drop p.toNat).take 4) w' (by rw [HL.out]; exact hC) (by rw [HL.out]; exact hc) (by rw [HL.out]; decide); rw [HL.out, ← HX.out] at hnum; have HNM := am hnum; clear hk hi hw hC hnum) | (go_at_call 75; refine HNM.out.mono ?_; rintro e' w'' ⟨rfl, hd⟩; obtain ⟨m, rfl⟩ := hd.out))
 skip
 exact ⟨rfl, rfl, HN.out.drewN m, qAp HBN.out m, qB0 HK.out m⟩
theorem qEp (g : Nat) (f0 : List Int) (p e : Int) (w0 w : World) (hlt : f0.length < p + 4) (hI : qAd w0 w g f0 p e) (hB : Below w0.heap.size w0 w) :
  Calls Try.prog 72 #[.pointer (some ⟨g, 0, none⟩)] w fun e' w' => e' = .panicked [{ v := .iface 179 (.int .i64 40), recovered := false }] ∧ qAd w0 w' g f0 p e ∧ Below w0.heap.size w0 w' ∧ qAh w w' g none := by
 have HI := am hI
 have HB := am hB
 clear hI hB
 go_enter Try.func72, Try.ntmps72
 go_wp2_with (go_at_call 69; refine (qBZ g f0 p e 4 w0 w (by omega) HI.out).mono ?_; rintro e' w' ⟨rfl, rfl⟩)
 exact ⟨rfl, rfl, HI.out, HB.out, qAh.refl _ _ _⟩
theorem int_fn_ret (b1 g : Nat) (x : Int) (R : Ending → World → Prop) (w : World) (hq : w.cell? ⟨b1, 0, none⟩ = some (.pointer (some ⟨g, 0, none⟩)))
  (h : Calls Try.prog 72 #[.pointer (some ⟨g, 0, none⟩)] w fun e w' => e = .returned (.int .i64 x) ∧ R e w') :
  Calls Try.prog 71 #[.pointer (some ⟨b1, 0, none⟩)] w R := by
 have H := am h
 clear h
 go_enter Try.func71, Try.ntmps71
 go_wp2_with (go_at_call 72; refine H.out.mono ?_; rintro e w' ⟨rfl, hR⟩; have HR := am hR; clear hR)
 exact HR.out
theorem int_fn_pan (b1 g : Nat) (c : List PanicEntry) (R : Ending → World → Prop) (w : World) (hq : w.cell? ⟨b1, 0, none⟩ = some (.pointer (some ⟨g, 0, none⟩)))
  (h : Calls Try.prog 72 #[.pointer (some ⟨g, 0, none⟩)] w fun e w' => e = .panicked c ∧ R e w') :
  Calls Try.prog 71 #[.pointer (some ⟨b1, 0, none⟩)] w R := by
 have H := am h
 clear h
 go_enter Try.func71, Try.ntmps71
 go_wp2_with (go_at_call 72; refine H.out.mono ?_; rintro e w' ⟨rfl, hR⟩; have HR := am hR; clear hR)
 exact ⟨rfl, HR.out⟩
theorem guarded_int_ok (b1 g : Nat) (f0 : List Int) (p p' : Int) (x : Int) (w0 w : World) (hI : qAd w0 w g f0 p 0) (hB : Below w0.heap.size w0 w)
  (hfn : ∀ W, Below w.heap.size w W → qAd w0 W g f0 p 0 → Below w0.heap.size w0 W → Calls Try.prog 71 #[.pointer (some ⟨b1, 0, none⟩)] W fun e w' => e = .returned (.int .i64 x) ∧ qAd w0 w' g f0 p' 0 ∧ Below w0.heap.size w0 w' ∧ qAh W w' g none) :
  Calls Try.prog 70 #[.pointer (some ⟨g, 0, none⟩), .func (.func 71) #[] #[.pointer (some ⟨b1, 0, none⟩)]] w fun e w' => e = .returned (.int .i64 x) ∧ qAd w0 w' g f0 p' 0 ∧ Below w0.heap.size w0 w' ∧ qAh w w' g none := by
 have HI := am hI
 have HB := am hB
 have HFN := am hfn
 have hgl := hI.lt
 obtain ⟨_, h1, h2, h3, v, hb, hr⟩ := hI
 have c1 : w.cell? ⟨g, 1, none⟩ = some (.int .i64 0) := (qAa hb 1).trans rfl
 clear hb hr hB h1 h2 h3 hfn
 go_enter_defers Try.func70, Try.ntmps70
 have HB3 := am (((Below.refl w.heap.size w).alloc (Nat.le_refl _) (.cells #[.pointer (some ⟨g, 0, none⟩)] 59)).alloc (by simp) (.cells #[.int .i64 0] 3))
 have H3 : qAb (((w.alloc (.cells #[.pointer (some ⟨g, 0, none⟩)] 59)).alloc (.cells #[.int .i64 0] 3)).heap[w.heap.size + 1]? = some (.cells #[.int .i64 0] 3 (0, 0))) := ⟨by simpa using heap_alloc_new (w.alloc (.cells #[.pointer (some ⟨g, 0, none⟩)] 59)) (.cells #[.int .i64 0] 3)⟩
 go_wp2_with (go_at_call 71; refine (HFN.out _ HB3.out ((HI.out.alloc _).alloc _) (qAi (qAi HB.out _) _)).mono ?_; rintro e w4 ⟨rfl, hi, hbw, hk⟩; have hv4 : w4.heap[w.heap.size + 1]? = some (.cells #[.int .i64 0] 3 (0, 0)) := (hk.2 _ (qAt H3.out) (by omega) (by simp)).trans H3.out; have v4 : w4.cell? ⟨w.heap.size + 1, 0, none⟩ = some (.int .i64 0) := (qAa hv4 0).trans rfl; have z4 := qAg hv4 0; have HI4 := am (hi.behind (p := ⟨w.heap.size + 1, 0, none⟩) (by show g < w.heap.size + 1; omega) (.int .i64 x)); have HK4 := am (qCg (j := 0) HB3.out hk (Nat.le_succ _) (.int .i64 x)); have HV4 := am hv4; have HB4 := am (qAs (g := w.heap.size + 1) (j := 0) (v := .int .i64 x) hbw (Nat.le_trans HB.out.size (Nat.le_succ _))); clear hi hk hv4 hbw)
 refine leaves_cons (f := 108) (args := #[.pointer (some ⟨w.heap.size + 1, 0, none⟩), .pointer (some ⟨w.heap.size, 0, none⟩)]) (by simp) (by simp [go_sem]) ?_
 refine (catch_int_idle _ _ _).mono ?_
 rintro e u' w'' ⟨rfl, rfl, rfl⟩
 have hvc : (w4.setCell ⟨w.heap.size + 1, 0, none⟩ (.int .i64 x)).heap[w.heap.size + 1]? = some (.cells #[.int .i64 x] 3 (0, 0)) := by simpa using qBU HV4.out 0 (.int .i64 x)
 have hres := (qAa hvc 0).trans rfl
 exact ⟨.int .i64 x, by simp [results, Try.results70, go_sem, hres], rfl, HI4.out, HB4.out, HK4.out⟩
theorem qCD (b1 g : Nat) (f0 : List Int) (p p' : Int) (k : Int) (w0 w : World) (hI : qAd w0 w g f0 p 0) (hB : Below w0.heap.size w0 w)
  (hfn : ∀ W, Below w.heap.size w W → qAd w0 W g f0 p 0 → Below w0.heap.size w0 W → Calls Try.prog 71 #[.pointer (some ⟨b1, 0, none⟩)] W fun e w' => e = .panicked [{ v := .iface 179 (.int .i64 k), recovered := false }] ∧ qAd w0 w' g f0 p' 0 ∧ Below w0.heap.size w0 w' ∧ qAh W w' g none) :
  Calls Try.prog 70 #[.pointer (some ⟨g, 0, none⟩), .func (.func 71) #[] #[.pointer (some ⟨b1, 0, none⟩)]] w fun e w' => e = .returned (.int .i64 0) ∧ qAd w0 w' g f0 p' k ∧ Below w0.heap.size w0 w' ∧ qAh w w' g none := by
 have HI := am hI
 have HB := am hB
 have HFN := am hfn
 have hgl := hI.lt
 obtain ⟨_, h1, h2, h3, v, hb, hr⟩ := hI
 have c1 : w.cell? ⟨g, 1, none⟩ = some (.int .i64 0) := (qAa hb 1).trans rfl
 clear hb hr hB h1 h2 h3 hfn
 go_enter_defers Try.func70, Try.ntmps70
 have HB3 := am (((Below.refl w.heap.size w).alloc (Nat.le_refl _) (.cells #[.pointer (some ⟨g, 0, none⟩)] 59)).alloc (by simp) (.cells #[.int .i64 0] 3))
 have H2 : qAb (((w.alloc (.cells #[.pointer (some ⟨g, 0, none⟩)] 59)).alloc (.cells #[.int .i64 0] 3)).heap[w.heap.size]? = some (.cells #[.pointer (some ⟨g, 0, none⟩)] 59 (0, 0))) := ⟨qAG (heap_alloc_new w _) _⟩
 have H3 : qAb (((w.alloc (.cells #[.pointer (some ⟨g, 0, none⟩)] 59)).alloc (.cells #[.int .i64 0] 3)).heap[w.heap.size + 1]? = some (.cells #[.int .i64 0] 3 (0, 0))) := ⟨by simpa using heap_alloc_new (w.alloc (.cells #[.pointer (some ⟨g, 0, none⟩)] 59)) (.cells #[.int .i64 0] 3)⟩
 go_wp2_with (go_at_call 71; refine (HFN.out _ HB3.out ((HI.out.alloc _).alloc _) (qAi (qAi HB.out _) _)).mono ?_; rintro e w4 ⟨rfl, hi, hbw, hk⟩)
 refine leaves_cons (f := 108) (args := #[.pointer (some ⟨w.heap.size + 1, 0, none⟩), .pointer (some ⟨w.heap.size, 0, none⟩)]) (by simp) (by simp [go_sem]) ?_
 have hv4 : w4.heap[w.heap.size + 1]? = some (.cells #[.int .i64 0] 3 (0, 0)) := (hk.2 _ (qAt H3.out) (by omega) (by simp)).trans H3.out
 have hq4 : w4.heap[w.heap.size]? = some (.cells #[.pointer (some ⟨g, 0, none⟩)] 59 (0, 0)) := (hk.2 _ (qAt H2.out) (by omega) (by simp)).trans H2.out
 obtain ⟨_, _, _, _, v4, hg4, _⟩ := id hi
 refine (qDM (w.heap.size + 1) g w.heap.size (.int .i64 0) k v4 [] _ ((qAa hv4 0).trans rfl) (qAg hv4 0) ((qAa hq4 0).trans rfl) hg4 (by omega) (by omega)).mono ?_
 rintro e u' w'' ⟨rfl, rfl, rfl⟩
 have HI5 := am ((hi.behind (p := ⟨w.heap.size + 1, 0, none⟩) (by show g < w.heap.size + 1; omega) (.int .i64 0)).set_e k)
 have HB5 := am (qAs (g := g) (j := 1) (v := .int .i64 k) (qAs (g := w.heap.size + 1) (j := 0) (v := .int .i64 0) hbw (Nat.le_trans HB.out.size (Nat.le_succ _))) HI.out.ge)
 have HK5 := am (qAh.set_ (qCg (j := 0) HB3.out hk (Nat.le_succ _) (.int .i64 0)) 1 (.int .i64 k))
 have hvc := qAu (g := w.heap.size + 1) (p := ⟨g, 1, none⟩) (qBU hv4 0 (.int .i64 0)) (by show w.heap.size + 1 ≠ g; omega) (.int .i64 k)
 have hres := (qAa hvc 0).trans rfl
 clear hvc
 exact ⟨.int .i64 0, by simp [results, Try.results70, go_sem, hres], rfl, HI5.out, HB5.out, HK5.out⟩
def qAI.f (s0_0 : List Int) (s0_1 : Int) (s0_2 : Int) : Option (Int × Int × Int) :=
 some (if s0_2 ≠ 0 then (0, s0_1, s0_2) else if s0_1 + 4 ≤ s0_0.length then (if num4 s0_0 s0_1 ≤ 2147483647 then (num4 s0_0 s0_1, s0_1 + 4, 0) else (0, s0_1 + 4, 42)) else (0, s0_1, 40))
theorem qAI.calls (g : Nat) (s0_0 : List Int) (s0_1 : Int) (s0_2 : Int) (r1 : Int) (r2 : Int) (r3 : Int) (w0 w : World) (hI : qAd w0 w g s0_0 s0_1 s0_2) (hB : Below w0.heap.size w0 w) (h : qAI.f s0_0 s0_1 s0_2 = some (r1, r2, r3)) :
  Calls Try.prog 23 #[.pointer (some ⟨g, 0, none⟩)] w fun e w' => e = .returned (.int .i64 r1) ∧ qAd w0 w' g s0_0 r2 r3 ∧ Below w0.heap.size w0 w' ∧ qAh w w' g none := by
 have HI := am (hI.alloc (.cells #[.pointer (some ⟨g, 0, none⟩)] 59))
 have HB := am (qAi hB (.cells #[.pointer (some ⟨g, 0, none⟩)] 59))
 have HK := am (qAT (qAh.refl w g none) (.cells #[.pointer (some ⟨g, 0, none⟩)] 59))
 have hq : (w.alloc (.cells #[.pointer (some ⟨g, 0, none⟩)] 59)).cell? ⟨w.heap.size, 0, none⟩ = some (.pointer (some ⟨g, 0, none⟩)) := (qAa (heap_alloc_new w _) 0).trans rfl
 have HQ : qAb (∀ W, Below (w.alloc (.cells #[.pointer (some ⟨g, 0, none⟩)] 59)).heap.size (w.alloc (.cells #[.pointer (some ⟨g, 0, none⟩)] 59)) W → W.cell? ⟨w.heap.size, 0, none⟩ = some (.pointer (some ⟨g, 0, none⟩))) := ⟨fun W hW => (hW.cell (p := ⟨w.heap.size, 0, none⟩) (by simp)).trans hq⟩
 clear hq
 have h0 : 0 ≤ s0_1 := hI.2.1
 unfold qAI.f at h
 injection h with h
 have HF : qAb (Calls Try.prog 70 #[.pointer (some ⟨g, 0, none⟩), .func (.func 71) #[] #[.pointer (some ⟨w.heap.size, 0, none⟩)]] (w.alloc (.cells #[.pointer (some ⟨g, 0, none⟩)] 59)) fun e w' => e = .returned (.int .i64 r1) ∧ qAd w0 w' g s0_0 r2 r3 ∧ Below w0.heap.size w0 w' ∧ qAh w w' g none) := by
  by_cases he : s0_2 ≠ 0
  ·rw [if_pos he] at h
   simp only [Prod.mk.injEq] at h
   obtain ⟨rfl, rfl, rfl⟩ := h
   exact ⟨(qD3 _ g s0_0 _ _ w0 _ he HI.out HB.out).mono fun e' w' ⟨h1, h2, h3, h4⟩ => ⟨h1, h2, h3, HK.out.trans h4 (.inl rfl)⟩⟩
  rw [if_neg he] at h
  simp only [Decidable.not_not] at he
  subst he
  by_cases hlt : s0_1 + 4 ≤ s0_0.length
  rotate_left
  ·rw [if_neg hlt] at h
   simp only [Prod.mk.injEq] at h
   obtain ⟨rfl, rfl, rfl⟩ := h
   exact ⟨(qCD w.heap.size g s0_0 _ _ _ w0 _ HI.out HB.out (fun W h1 h2 h3 => int_fn_pan _ g _ _ W (HQ.out W h1) ((qEp g s0_0 _ _ w0 W (by omega) h2 h3).mono fun e w' h => ⟨h.1, h⟩))).mono fun e' w' ⟨h1, h2, h3, h4⟩ => ⟨h1, h2, h3, HK.out.trans h4 (.inl rfl)⟩⟩
  rw [if_pos hlt] at h
  by_cases hv : num4 s0_0 s0_1 ≤ 2147483647
  ·rw [if_pos hv] at h
   simp only [Prod.mk.injEq] at h
   obtain ⟨rfl, rfl, rfl⟩ := h
   exact ⟨(guarded_int_ok w.heap.size g s0_0 _ _ _ w0 _ HI.out HB.out (fun W h1 h2 h3 => int_fn_ret _ g _ _ W (HQ.out W h1) ((qEq g s0_0 _ _ w0 W hlt hv h2 h3).mono fun e w' h => ⟨h.1, h⟩))).mono fun e' w' ⟨h1, h2, h3, h4⟩ => ⟨h1, h2, h3, HK.out.trans h4 (.inl rfl)⟩⟩
  rw [if_neg hv] at h
  simp only [Prod.mk.injEq] at h
  obtain ⟨rfl, rfl, rfl⟩ := h
  exact ⟨(qCD w.heap.size g s0_0 _ _ _ w0 _ HI.out HB.out (fun W h1 h2 h3 => int_fn_pan _ g _ _ W (HQ.out W h1) ((rd_int_big g s0_0 _ _ w0 W hlt (by omega) h2 h3).mono fun e w' h => ⟨h.1, h⟩))).mono fun e' w' ⟨h1, h2, h3, h4⟩ => ⟨h1, h2, h3, HK.out.trans h4 (.inl rfl)⟩⟩
 clear h hI hB h0
 go_enter Try.func23, Try.ntmps23
 go_wp2_with (go_at_call 70; refine HF.out.mono ?_; rintro e w' ⟨rfl, hi, hb, hk⟩; have HI2 := am hi; have HB2 := am hb; have HK2 := am hk; clear hi hb hk)
 go_ret
 exact ⟨rfl, HI2.out, HB2.out, HK2.out⟩
end Q
end
section
namespace Q
open Go.RowKit YA YC YB
attribute [local go_sem] qAS min2_int qBa min_two max_three min_three max_four min_four
theorem rd_next_zero (g : Nat) (f0 : List Int) (p e : Int) (w0 w : World) (hI : qAd w0 w g f0 p e) :
  Calls Try.prog 69 #[.pointer (some ⟨g, 0, none⟩), .int .i64 0] w fun e' w' => ∃ A c v, e' = .returned (.slice A 0 c) ∧ qAd w0 w' g f0 p e ∧ w' = w.setCell ⟨g, 0, none⟩ v := by
 have HI := am hI
 obtain ⟨_, h1, h2, h3, v, hb, hr⟩ := hI
 have hlen : (f0.drop p.toNat).length = f0.length - p.toNat := List.length_drop
 have HR := am hr
 obtain ⟨A, c, rfl⟩ := hr.form
 have c0 : w.cell? ⟨g, 0, none⟩ = some _ := (qAa hb 0).trans rfl
 have f0z := qAg hb 0
 obtain ⟨m, hm⟩ : ∃ m, m = (f0.drop p.toNat).length := ⟨_, rfl⟩
 have hml : m ≤ 9223372036854775807 := by omega
 rw [← hm] at c0
 have HS : qAb (qAd w0 (w.setCell ⟨g, 0, none⟩ (.slice A m c)) g f0 p e) := ⟨HI.out.set_b h1 h2 (by rw [hm]; exact HR.out)⟩
 have hcap : m ≤ c ∨ m = 0 := by
  rcases HR.out with ⟨hz, _⟩ | ⟨gb, o, c', cells, _, _, hv, _, hcl, _⟩
  ·right; rw [hm, hz]; rfl
  injection hv with _ _ hc; subst hc; left; omega
 clear hr hb hlen hm
 cases A with
 | none =>
  go_enter Try.func69, Try.ntmps69
  go_wp2
  go_ret
  exact ⟨none, c, _, rfl, HS.out, rfl⟩
 | some ad =>
  go_enter Try.func69, Try.ntmps69
  go_wp2
  go_ret
  exact ⟨some ad, c, _, rfl, HS.out, rfl⟩
theorem qEo (g : Nat) (f0 : List Int) (p e most : Int) (w0 w : World) (hlt : p + 4 ≤ f0.length) (hv : num4 f0 p ≤ 2147483647) (hm : num4 f0 p ≤ mx most 0) (hI : qAd w0 w g f0 p e) (hB : Below w0.heap.size w0 w) :
  Calls Try.prog 100 #[.pointer (some ⟨g, 0, none⟩), .int .i64 most] w fun e' w' => e' = .returned (.int .i64 (num4 f0 p)) ∧ qAd w0 w' g f0 (p + 4) e ∧ Below w0.heap.size w0 w' ∧ qAh w w' g none := by
 have HF := am (qEq g f0 p e w0 w hlt hv hI hB)
 have hm1 : most < 0 → decide (0 < num4 f0 p) = false := fun h => by unfold mx at hm; rw [if_pos h] at hm; simp; omega
 have hm2 : ¬ most < 0 → decide (most < num4 f0 p) = false := fun h => by unfold mx at hm; rw [if_neg h] at hm; simp; omega
 generalize num4 f0 p = x at *
 clear hI hB hlt hm
 by_cases hz : most < 0
 all_goals first | have hm' := hm1 hz | have hm' := hm2 hz
 all_goals clear hm1 hm2
 all_goals go_enter Try.func100, Try.ntmps100
 all_goals go_wp2_with (go_at_call 72; refine HF.out.mono ?_; rintro e' w' ⟨rfl, hi, hb, hk⟩; have HI := am hi; have HB := am hb; have HK := am hk; clear hi hb hk)
 all_goals go_ret
 all_goals exact ⟨rfl, HI.out, HB.out, HK.out⟩
theorem rd_count_big (g : Nat) (f0 : List Int) (p e most : Int) (w0 w : World) (hlt : p + 4 ≤ f0.length) (hv : num4 f0 p ≤ 2147483647) (hm : mx most 0 < num4 f0 p) (hI : qAd w0 w g f0 p e) (hB : Below w0.heap.size w0 w) :
  Calls Try.prog 100 #[.pointer (some ⟨g, 0, none⟩), .int .i64 most] w fun e' w' => e' = .panicked [{ v := .iface 179 (.int .i64 3), recovered := false }] ∧ qAd w0 w' g f0 (p + 4) e ∧ Below w0.heap.size w0 w' ∧ qAh w w' g none := by
 have HF := am (qEq g f0 p e w0 w hlt hv hI hB)
 have hm1 : most < 0 → decide (0 < num4 f0 p) = true := fun h => by unfold mx at hm; rw [if_pos h] at hm; simp; omega
 have hm2 : ¬ most < 0 → decide (most < num4 f0 p) = true := fun h => by unfold mx at hm; rw [if_neg h] at hm; simp; omega
 generalize num4 f0 p = x at *
 clear hI hB hlt hm
 by_cases hz : most < 0
 all_goals first | have hm' := hm1 hz | have hm' := hm2 hz
 all_goals clear hm1 hm2
 all_goals go_enter Try.func100, Try.ntmps100
 all_goals go_wp2_with (go_at_call 72; refine HF.out.mono ?_; rintro e' w' ⟨rfl, hi, hb, hk⟩; have HI := am hi; have HB := am hb; have HK := am hk; clear hi hb hk)
 all_goals exact ⟨rfl, rfl, HI.out, HB.out, HK.out⟩
theorem qDE (g : Nat) (most : Int) (c : List PanicEntry) (R : World → Prop) (w : World)
  (h : Calls Try.prog 72 #[.pointer (some ⟨g, 0, none⟩)] w fun e w' => e = .panicked c ∧ R w') :
  Calls Try.prog 100 #[.pointer (some ⟨g, 0, none⟩), .int .i64 most] w fun e w' => e = .panicked c ∧ R w' := by
 have H := am h
 clear h
 go_enter Try.func100, Try.ntmps100
 go_wp2_with (go_at_call 72; refine H.out.mono ?_; rintro e w' ⟨rfl, hR⟩; have HR := am hR; clear hR)
 exact ⟨rfl, rfl, HR.out⟩
end Q
end
section
namespace Q
open Go.RowKit YA YC YB
theorem cl_info_bytes : (Try.prog.info? 5).map (fun i => (i.zero, i.size, i.bytes)) = some (some (.int .u8 0), 1, 1) := by kernel_rfl
def qAQ.f (l0 : List Int) : Option (List Int) := if l0.length ≤ 4294967296 then some l0 else none
theorem qAQ.calls (A0 : Option Addr) (c0 : Nat) (l0 : List Int) (r : List Int) (w : World) (hr0 : Kd.C (Kd.int .u8) w A0 l0.length l0) (hc0 : l0.length ≤ c0) (h : qAQ.f l0 = some r) :
  Calls Try.prog 66 #[.slice A0 l0.length c0] w fun e w' => ∃ v0_ : Value, e = .returned (v0_) ∧ Kd.R (Kd.int .u8) 5 w' w.heap.size (fun _ => True) v0_ r ∧ Below w.heap.size w w' := by
 unfold qAQ.f at h
 split at h
 case isFalse => cases h
 rename_i hl
 injection h with h
 subst h
 have HC := am hr0
 have HL := am hl
 clear hr0 hc0
 obtain ⟨n, hn⟩ : ∃ n, n = l0.length := ⟨_, rfl⟩
 cases A0 with
 | none =>
  have h0 : l0 = [] := by
   rcases Nat.eq_zero_or_pos l0.length with h | h
   ·exact List.length_eq_zero_iff.1 h
   obtain ⟨ad, had, _⟩ := HC.out.2.2 h; cases had
  subst h0
  have hq := Lib.run_eql_slice_nil (P := Try.prog) w 22 5 none 0 c0 0 0 Try.underlying22
  clear hn HL hl
  go_enter Try.func66, Try.ntmps66
  go_wp2
  go_ret
  exact ⟨_, rfl, Kd.R_nil _ _ _ _ _, Below.refl _ _⟩
 | some a =>
  obtain ⟨i0, hi, hz0, hz1, hz2⟩ := info_parts cl_info_bytes
  have hq := Lib.run_eql_slice_nil (P := Try.prog) w 22 5 (some a) n c0 0 0 Try.underlying22
  have hown : (w.alloc (.cells #[] 5)).ownsRow w.heap.size 5 1 (.slice (some ⟨w.heap.size, 0, none⟩) 0 0) 0 [] := World.ownsRow_made w #[] 0 (Nat.le_refl _) (by unfold maxLen; omega) rfl
  rw [← hn]
  have HN := am hn
  by_cases h0 : n = 0
  ·have h1 : l0 = [] := List.length_eq_zero_iff.1 (by omega)
   subst h0; subst h1
   clear hn HL hl
   go_enter Try.func66, Try.ntmps66
   go_wp2_with (at_builtin; refine Base.wpList_append_zero rfl _ _ 22 rfl w.heap.size 5 i0 1 Try.underlying22 hi _ _ _ rfl hown (some a) c0 rfl ?_)
   go_ret
   exact ⟨_, rfl, ⟨fun _ _ => trivial, [], hown, Reps.none _ _⟩, (Below.refl _ _).alloc (Nat.le_refl _) _⟩
  have hnews : ∀ j u, (encs (Value.int .u8) l0)[j]? = some u → (w.alloc (.cells #[] 5)).cell? (a.add j) = some u := fun j u hu => by
   obtain ⟨ad, had, hcell⟩ := HC.out.2.2 (by omega)
   cases had
   have hj : j < l0.length := by have := (List.getElem?_eq_some_iff.1 hu).1; rwa [qC0] at this
   obtain ⟨c, hcl, hK, hcc⟩ := hcell j _ (List.getElem?_eq_getElem hj)
   obtain rfl : c = [Value.int .u8 l0[j]] := hK
   have h2 := hcc 0 _ rfl
   rw [show j * (Kd.int .u8).sz + 0 = j from Nat.mul_one j] at h2
   have hu' : u = Value.int .u8 l0[j] := by
    have := (List.getElem?_eq_some_iff.1 hu).2
    rw [← this]; simp [encs]
   rw [hu']
   exact (((Below.refl w.heap.size w).alloc (Nat.le_refl _) _).cell (World.block_lt_of_cell? w _ h2)).trans h2
  have HNW := am hnews
  clear hnews hn hl
  go_enter Try.func66, Try.ntmps66
  go_wp2_with (at_builtin; refine wpList_append_lies _ rfl _ _ 22 rfl w.heap.size 5 i0 (.int .u8 0) 1 1 Try.underlying22 hi hz0 hz1 hz2 rfl (by decide) _ _ _ rfl hown a n c0 (encs (Value.int .u8) l0) rfl ?c9 HNW.out ?c2 ?c0 ?c3 ?c4 ?c5 _ rfl ?_)
  case c9 => rw [qC0, HN.out]; omega
  case c2 => intro u hu; obtain ⟨y, _, rfl⟩ := List.mem_map.1 hu; rfl
  case c0 => omega
  case c3 => have := HN.out; have := HL.out; unfold maxLen; omega
  case c4 => have := HN.out; have := HL.out; omega
  case c5 => simp
  intro g cap w1 hown' hgrow hgg hlt
  have H1 : qAb (w1.ownsRow w.heap.size 5 1 (.slice (some ⟨g, 0, none⟩) n cap) n (encs (Value.int .u8) l0)) := ⟨by simpa using hown'⟩
  have H2 : qAb (Below w.heap.size w w1) := ⟨((Below.refl _ _).alloc (Nat.le_refl _) _).grown hgrow (by simp) (fun j hj => (hown.lt j hj).1)⟩
  clear hown' hgrow hgg hlt hown
  go_wp2
  go_ret
  exact ⟨.slice (some ⟨g, 0, none⟩) n cap, by simp, Kd.R_of_own (by rw [← HN.out]; exact H1.out) (fun _ _ => trivial), H2.out⟩
theorem drop_take_len (f0 : List Int) (p : Int) (n : Nat) (h0 : 0 ≤ p) (h : p + n ≤ f0.length) : ((f0.drop p.toNat).take n).length = n := by rw [List.length_take, List.length_drop]; omega
theorem rd_next_any (g : Nat) (f0 : List Int) (p e : Int) (n : Nat) (w0 w : World) (hle : p + n ≤ f0.length) (hI : qAd w0 w g f0 p e) :
  Calls Try.prog 69 #[.pointer (some ⟨g, 0, none⟩), .int .i64 n] w fun e' w' => ∃ A c v, e' = .returned (.slice A n c) ∧ n ≤ c ∧ Kd.C (Kd.int .u8) w' A n ((f0.drop p.toNat).take n) ∧ qAd w0 w' g f0 (p + n) e ∧ w' = w.setCell ⟨g, 0, none⟩ v := by
 rcases Nat.eq_zero_or_pos n with rfl | hn
 ·refine (rd_next_zero g f0 p e w0 w hI).mono ?_
  rintro e' w' ⟨A, c, v, he, hi, hw⟩
  exact ⟨A, c, v, he, Nat.zero_le _, by rw [List.take_zero]; exact ⟨rfl, by decide, fun h => absurd h (Nat.lt_irrefl _)⟩, by simpa using hi, hw⟩
 ·exact qCv g f0 p e n w0 w hn hle hI
theorem clone_n (A : Option Addr) (n c : Nat) (l : List Int) (w : World) (hl : l.length = n) (hC : Kd.C (Kd.int .u8) w A n l) (hc : n ≤ c) (hn : n ≤ 4294967296) :
  Calls Try.prog 66 #[.slice A n c] w fun e w' => ∃ A' c', e = .returned (.slice A' n c') ∧ Kd.R (Kd.int .u8) 5 w' w.heap.size (fun _ => True) (.slice A' n c') l ∧ Below w.heap.size w w' := by
 subst hl
 refine (qAQ.calls A c l l w hC hc (by unfold qAQ.f; rw [if_pos hn])).mono ?_
 rintro e w' ⟨v, rfl, hR, hb⟩
 obtain ⟨A', c', rfl⟩ := Kd.R_slice hR
 exact ⟨A', c', rfl, hR, hb⟩
theorem qB4 {W W1 : World} {g b : Nat} {v : Value} (hk : qAh W W1 g none) (hc : W.cell? ⟨b, 0, none⟩ = some v) (hb : b ≠ g) : W1.cell? ⟨b, 0, none⟩ = some v := by
 have hl := World.block_lt_of_cell? W _ hc
 have := hk.2 b hl hb (by simp)
 unfold World.cell? at hc ⊢
 simpa [this] using hc
theorem raw_fn_ok (b1 b2 g n : Nat) (f0 : List Int) (p e most : Int) (w0 w : World) (hq : w.cell? ⟨b1, 0, none⟩ = some (.pointer (some ⟨g, 0, none⟩))) (hq2 : w.cell? ⟨b2, 0, none⟩ = some (.int .i64 most)) (hn1 : b1 ≠ g) (hn2 : b2 ≠ g)
  (hlt : p + 4 ≤ f0.length) (hv : num4 f0 p ≤ 2147483647) (hm : num4 f0 p ≤ mx most 0) (hn : num4 f0 p = n) (hle : p + 4 + n ≤ f0.length) (hI : qAd w0 w g f0 p e) (hB : Below w0.heap.size w0 w) :
  Calls Try.prog 99 #[.pointer (some ⟨b1, 0, none⟩), .pointer (some ⟨b2, 0, none⟩)] w fun e' w' => ∃ A c, e' = .returned (.slice A n c) ∧ Kd.R (Kd.int .u8) 5 w' w.heap.size (fun _ => True) (.slice A n c) ((f0.drop (p + 4).toNat).take n) ∧ qAd w0 w' g f0 (p + 4 + n) e ∧ Below w0.heap.size w0 w' ∧ qAh w w' g none := by
 have h0 := hI.2.1
 have HL := am (drop_take_len f0 (p + 4) n (by omega) hle)
 have HF : qAb (∀ W, qAh w W g none → qAd w0 W g f0 p e → Below w0.heap.size w0 W → Calls Try.prog 100 #[.pointer (some ⟨g, 0, none⟩), .int .i64 most] W fun e' w' => e' = .returned (.int .i64 (n : Int)) ∧ qAd w0 w' g f0 (p + 4) e ∧ Below w0.heap.size w0 w' ∧ qAh W w' g none) := ⟨fun W _ h1 h2 => hn ▸ qEo g f0 p e most w0 W hlt hv hm h1 h2⟩
 have HLE := am hle
 have HI := am hI
 have HB := am hB
 have hnm : n ≤ 2147483647 := by omega
 clear hI hB hlt hv hm hn hle h0
 go_enter Try.func99, Try.ntmps99
 go_wp2_with fail
 go_region_held3 (fun W => W.cell? ⟨b1, 0, none⟩ = some (.pointer (some ⟨g, 0, none⟩)) ∧ W.cell? ⟨b2, 0, none⟩ = some (.int .i64 most))
  (first | go_keep | exact ⟨hq, hq2⟩ | exact ⟨qB4 HK1.out hq hn1, qB4 HK1.out hq2 hn2⟩ | exact ⟨qB4 HK2.out hq hn1, qB4 HK2.out hq2 hn2⟩ | exact ⟨qB4 HK3.out hq hn1, qB4 HK3.out hq2 hn2⟩)
  (first
    | (go_at_call 100; refine (HF.out _ (qBy (qAh.refl _ _ _)) HI.out.drew (qAL HB.out)).mono ?_; rintro e' w1 ⟨rfl, hi, hb, hk⟩; have HI1 := am hi; have HB1 := am hb; have HK1 := am (qAh.trans (qBy (qAh.refl w g none)) hk (.inl rfl)); clear hi hb hk)
    | (go_at_call 69; refine (rd_next_any g f0 (p + 4) e n w0 _ HLE.out HI1.out).mono ?_; rintro e' w2 ⟨A, c, v, rfl, hc, hC, hi, hw⟩; have HI2 := am hi; have HB2 := am (hw ▸ qAs (g := g) (j := 0) (v := v) HB1.out HI1.out.ge); have HK2 := am (HK1.out.trans (hw ▸ qAh.set_ (qAh.refl w1 g none) 0 v) (.inl rfl)); have HC2 := am hC; have HCC := am hc; clear hi hw hC hc)
    | (go_at_call 66; refine (clone_n A n c _ _ HL.out HC2.out HCC.out (by omega)).mono ?_; rintro e' w3 ⟨A3, c3, rfl, hR, hb⟩; have HR3 := am hR; have HBW3 := am hb; have HK3 := am (qAh.trans HK2.out (qAh.of_below hb g none) (.inl rfl)); clear hR hb))
 go_wp2
 go_ret
 exact ⟨A3, c3, rfl, Kd.R_lower HR3.out HK2.out.1, HI2.out.below HBW3.out, qAJ HB2.out HB2.out.size HBW3.out, HK3.out⟩
theorem raw_fn_short (b1 b2 g n : Nat) (f0 : List Int) (p e most : Int) (w0 w : World) (hq : w.cell? ⟨b1, 0, none⟩ = some (.pointer (some ⟨g, 0, none⟩))) (hq2 : w.cell? ⟨b2, 0, none⟩ = some (.int .i64 most)) (hn1 : b1 ≠ g) (_hn2 : b2 ≠ g)
  (hlt : p + 4 ≤ f0.length) (hv : num4 f0 p ≤ 2147483647) (hm : num4 f0 p ≤ mx most 0) (hn : num4 f0 p = n) (hle : f0.length < p + 4 + n) (hI : qAd w0 w g f0 p e) (hB : Below w0.heap.size w0 w) :
  Calls Try.prog 99 #[.pointer (some ⟨b1, 0, none⟩), .pointer (some ⟨b2, 0, none⟩)] w fun e' w' => e' = .panicked [{ v := .iface 179 (.int .i64 40), recovered := false }] ∧ qAd w0 w' g f0 (p + 4) e ∧ Below w0.heap.size w0 w' ∧ qAh w w' g none := by
 have HF : qAb (∀ W, qAh w W g none → qAd w0 W g f0 p e → Below w0.heap.size w0 W → Calls Try.prog 100 #[.pointer (some ⟨g, 0, none⟩), .int .i64 most] W fun e' w' => e' = .returned (.int .i64 (n : Int)) ∧ qAd w0 w' g f0 (p + 4) e ∧ Below w0.heap.size w0 w' ∧ qAh W w' g none) := ⟨fun W _ h1 h2 => hn ▸ qEo g f0 p e most w0 W hlt hv hm h1 h2⟩
 have HLE := am hle
 have HI := am hI
 have HB := am hB
 clear hI hB hlt hv hm hn hle
 go_enter Try.func99, Try.ntmps99
 go_wp2_with fail
 go_region_dies
 all_goals (go_at_call 100; refine (HF.out _ (qBy (qAh.refl _ _ _)) HI.out.drew (qAL HB.out)).mono ?_; rintro e' w1 ⟨rfl, hi, hb, hk⟩; have HI1 := am hi; have HB1 := am hb; have hk' := qAh.trans (qBy (qAh.refl w g none)) hk (.inl rfl); have HK1 := am hk'; have q1 := qB4 hk' hq hn1; clear hi hb hk hk')
 all_goals (rename_i hK; refine hK _ _ ?_; clear hK hq hq2)
 all_goals first
  | (change wpAny _ _ _ _ 3 (mK 7 15) _ _; refine wpAny_ready (rs := [4]) (by kernel_rfl) (by simp) ?_; refine AllReady.cons rfl (fun K2 hK2 => ?_) AllReady.nil; go_simp; refine (qBZ g f0 (p + 4) e n w0 _ HLE.out HI1.out).mono ?_; rintro e' w2 ⟨rfl, rfl⟩; exact ⟨rfl, rfl, HI1.out, HB1.out, HK1.out⟩)
  | (change wpAny _ _ _ _ 4 (mK 7 14) _ _; refine wpAny_ready (rs := [0]) (by kernel_rfl) (by simp) ?_; refine AllReady.cons rfl (fun K3 hK3 => ?_) AllReady.nil; go_simp; refine hK3 _ _ ?_; clear hK3 K3; change wpAny _ _ _ _ 3 (mK 7 15) _ _; refine wpAny_ready (rs := [4]) (by kernel_rfl) (by simp) ?_; refine AllReady.cons rfl (fun K2 hK2 => ?_) AllReady.nil; go_simp; refine (qBZ g f0 (p + 4) e n w0 _ HLE.out HI1.out).mono ?_; rintro e' w2 ⟨rfl, rfl⟩; exact ⟨rfl, rfl, HI1.out, HB1.out, HK1.out⟩)
theorem qD9 (b1 b2 g : Nat) (f0 : List Int) (p p' e most : Int) (c : List PanicEntry) (w0 w : World) (hq : w.cell? ⟨b1, 0, none⟩ = some (.pointer (some ⟨g, 0, none⟩))) (hq2 : w.cell? ⟨b2, 0, none⟩ = some (.int .i64 most))
  (hI : qAd w0 w g f0 p e) (hB : Below w0.heap.size w0 w)
  (hf : ∀ W, qAd w0 W g f0 p e → Below w0.heap.size w0 W → Calls Try.prog 100 #[.pointer (some ⟨g, 0, none⟩), .int .i64 most] W fun e' w' => e' = .panicked c ∧ qAd w0 w' g f0 p' e ∧ Below w0.heap.size w0 w' ∧ qAh W w' g none) :
  Calls Try.prog 99 #[.pointer (some ⟨b1, 0, none⟩), .pointer (some ⟨b2, 0, none⟩)] w fun e' w' => e' = .panicked c ∧ qAd w0 w' g f0 p' e ∧ Below w0.heap.size w0 w' ∧ qAh w w' g none := by
 have HF := am hf
 have HI := am hI
 have HB := am hB
 clear hI hB hf
 go_enter Try.func99, Try.ntmps99
 go_wp2_with fail
 go_region_dies
 all_goals (go_at_call 100; refine (HF.out _ HI.out.drew (qAL HB.out)).mono ?_; rintro e' w1 ⟨rfl, hi, hb, hk⟩; exact ⟨rfl, rfl, hi, hb, qAh.trans (qBy (qAh.refl w g none)) hk (.inl rfl)⟩)
theorem qDL (p q : Addr) (w : World) :
  CallsD Try.prog 115 #[.pointer (some p), .pointer (some q)] .returning w fun e u' w' => e = .returned (.tuple #[]) ∧ u' = .returning ∧ w' = w := by
 refine callsD_of_wpS Try.func115 rfl fun c₀ cs hu => ?_
 apply wpS_seq
 apply wpS_region
 simp [wpOpsS, go_sem, recoverD, hu, Try.ntmps115, Exit.thenS]
 refine wpS_of_wp (qCi fun Q' hQ => ?_)
 have HQ := am hQ
 clear hQ
 rw [show ((#[Value.pointer (some p), Value.pointer (some q)] : Array Value) ++ (Array.replicate 15 undef).setIfInBounds 4 Value.nilIface) = #[.pointer (some p), .pointer (some q), undef, undef, undef, undef, .nilIface, undef, undef, undef, undef, undef, undef, undef, undef, undef, undef] from rfl]
 go_wp2
 refine HQ.out _ _ _ ?_
 cases c₀
 simp_all [bodyPostS, results, Try.results115]
theorem qDb (bv g bq : Nat) (x : Value) (k : Int) (v : Value) (older : List PanicEntry) (w : World) (hp : w.cell? ⟨bv, 0, none⟩ = some x) (hz : w.frozen? ⟨bv, 0, none⟩ = false) (hq : w.cell? ⟨bq, 0, none⟩ = some (.pointer (some ⟨g, 0, none⟩))) (hg : w.heap[g]? = some (.cells #[v, .int .i64 0] 144 (0, 0))) (hpg : bv ≠ g) (hpq : bv ≠ bq) :
  CallsD Try.prog 115 #[.pointer (some ⟨bv, 0, none⟩), .pointer (some ⟨bq, 0, none⟩)] (.panicking ({ v := .iface 179 (.int .i64 k), recovered := false } :: older)) w fun e u' w' =>
   e = .returned (.tuple #[]) ∧ u' = .panicking ({ v := .iface 179 (.int .i64 k), recovered := true } :: older) ∧ w' = (w.setCell ⟨bv, 0, none⟩ (.slice none 0 0)).setCell ⟨g, 1, none⟩ (.int .i64 k) := by
 have hta : ∀ (v : Value) (W : World), (Instr.typeAssert (.iface 179 v) 20 179 true).run Try.prog W = .ok (.tuple #[v, .bool true]) W := fun v W => by rfl
 have c1 : (w.setCell ⟨bv, 0, none⟩ (.slice none 0 0)).cell? ⟨g, 1, none⟩ = some (.int .i64 0) := (World.cell?_setCell_other _ _ _ _ (by intro e; injection e with e; exact hpg e)).trans ((qAa hg 1).trans rfl)
 have f1 : (w.setCell ⟨bv, 0, none⟩ (.slice none 0 0)).frozen? ⟨g, 1, none⟩ = false := (World.frozen?_setCell _ _ _ _).trans (qAg hg 1)
 have q1 : (w.setCell ⟨bv, 0, none⟩ (.slice none 0 0)).cell? ⟨bq, 0, none⟩ = some (.pointer (some ⟨g, 0, none⟩)) := (World.cell?_setCell_other _ _ _ _ (by intro e; injection e with e; exact hpq e)).trans hq
 refine callsD_of_wpS Try.func115 rfl fun c₀ cs hu => ?_
 apply wpS_seq
 apply wpS_region
 simp [wpOpsS, go_sem, recoverD, hu, Try.ntmps115, Exit.thenS]
 refine wpS_of_wp (qCi fun Q' hQ => ?_)
 have HQ := am hQ
 clear hQ
 rw [show ((#[Value.pointer (some ⟨bv, 0, none⟩), Value.pointer (some ⟨bq, 0, none⟩)] : Array Value) ++ (Array.replicate 15 undef).setIfInBounds 4 (Value.iface 179 (.int .i64 k))) = #[.pointer (some ⟨bv, 0, none⟩), .pointer (some ⟨bq, 0, none⟩), undef, undef, undef, undef, .iface 179 (.int .i64 k), undef, undef, undef, undef, undef, undef, undef, undef, undef, undef] from rfl]
 go_wp2
 refine HQ.out _ _ _ ?_
 cases c₀
 simp_all [bodyPostS, results, Try.results115]
theorem qCX (F : Value) (g : Nat) (f0 : List Int) (p e : Int) (w0 w : World) (he : e ≠ 0) (hI : qAd w0 w g f0 p e) (hB : Below w0.heap.size w0 w) :
  Calls Try.prog 98 #[.pointer (some ⟨g, 0, none⟩), F] w fun e' w' => e' = .returned (.slice none 0 0) ∧ qAd w0 w' g f0 p e ∧ Below w0.heap.size w0 w' ∧ qAh w w' g none := by
 have HI := am hI
 have HB := am hB
 have hgl := hI.lt
 obtain ⟨_, h1, h2, h3, v, hb, hr⟩ := hI
 have c1 : w.cell? ⟨g, 1, none⟩ = some (.int .i64 e) := (qAa hb 1).trans rfl
 have hb0 : (e != 0) = true := bne_iff_ne.mpr he
 clear hb hr hB h1 h2 h3 he
 go_enter_defers Try.func98, Try.ntmps98
 go_wp2
 exact ⟨.slice none 0 0, by simp [results, Try.results98, go_sem], rfl, (HI.out.alloc _).alloc _, qAi (qAi HB.out _) _, qAT (qAT (qAh.refl _ _ _) _) _⟩
theorem guarded_raw_ok (b1 b2 g : Nat) (f0 : List Int) (p p' : Int) (n : Nat) (bs : List Int) (w0 w : World) (hI : qAd w0 w g f0 p 0) (hB : Below w0.heap.size w0 w)
  (hfn : ∀ W, Below w.heap.size w W → qAd w0 W g f0 p 0 → Below w0.heap.size w0 W → Calls Try.prog 99 #[.pointer (some ⟨b1, 0, none⟩), .pointer (some ⟨b2, 0, none⟩)] W fun e w' => ∃ A c, e = .returned (.slice A n c) ∧ Kd.R (Kd.int .u8) 5 w' W.heap.size (fun _ => True) (.slice A n c) bs ∧ qAd w0 w' g f0 p' 0 ∧ Below w0.heap.size w0 w' ∧ qAh W w' g none) :
  Calls Try.prog 98 #[.pointer (some ⟨g, 0, none⟩), .func (.func 99) #[] #[.pointer (some ⟨b1, 0, none⟩), .pointer (some ⟨b2, 0, none⟩)]] w fun e w' => ∃ A c, e = .returned (.slice A n c) ∧ Kd.R (Kd.int .u8) 5 w' w.heap.size (fun _ => True) (.slice A n c) bs ∧ qAd w0 w' g f0 p' 0 ∧ Below w0.heap.size w0 w' ∧ qAh w w' g none := by
 have HI := am hI
 have HB := am hB
 have HFN := am hfn
 have hgl := hI.lt
 obtain ⟨_, h1, h2, h3, v, hb, hr⟩ := hI
 have c1 : w.cell? ⟨g, 1, none⟩ = some (.int .i64 0) := (qAa hb 1).trans rfl
 clear hb hr hB h1 h2 h3 hfn
 go_enter_defers Try.func98, Try.ntmps98
 have HB3 := am (((Below.refl w.heap.size w).alloc (Nat.le_refl _) (.cells #[.pointer (some ⟨g, 0, none⟩)] 59)).alloc (by simp) (.cells #[.slice none 0 0] 22))
 have H3 : qAb (((w.alloc (.cells #[.pointer (some ⟨g, 0, none⟩)] 59)).alloc (.cells #[.slice none 0 0] 22)).heap[w.heap.size + 1]? = some (.cells #[.slice none 0 0] 22 (0, 0))) := ⟨by simpa using heap_alloc_new (w.alloc (.cells #[.pointer (some ⟨g, 0, none⟩)] 59)) (.cells #[.slice none 0 0] 22)⟩
 go_wp2_with (go_at_call 99; refine (HFN.out _ HB3.out ((HI.out.alloc _).alloc _) (qAi (qAi HB.out _) _)).mono ?_; rintro e w4 ⟨A, c, rfl, hR, hi, hbw, hk⟩; have hv4 : w4.heap[w.heap.size + 1]? = some (.cells #[.slice none 0 0] 22 (0, 0)) := (hk.2 _ (qAt H3.out) (by omega) (by simp)).trans H3.out; have v4 : w4.cell? ⟨w.heap.size + 1, 0, none⟩ = some (.slice none 0 0) := (qAa hv4 0).trans rfl; have z4 := qAg hv4 0; have HI4 := am (hi.behind (p := ⟨w.heap.size + 1, 0, none⟩) (by show g < w.heap.size + 1; omega) (.slice A n c)); have HK4 := am (qCg (j := 0) HB3.out hk (Nat.le_succ _) (.slice A n c)); have HV4 := am hv4; have HB4 := am (qAs (g := w.heap.size + 1) (j := 0) (v := .slice A n c) hbw (Nat.le_trans HB.out.size (Nat.le_succ _))); have HR4 := am (Kd.R_set (Kd.R_lower hR HB3.out.size) hv4 (by decide) 0 (.slice A n c)); clear hi hk hv4 hbw hR)
 refine leaves_cons (f := 115) (args := #[.pointer (some ⟨w.heap.size + 1, 0, none⟩), .pointer (some ⟨w.heap.size, 0, none⟩)]) (by simp) (by simp [go_sem]) ?_
 refine (qDL _ _ _).mono ?_
 rintro e u' w'' ⟨rfl, rfl, rfl⟩
 have hvc : (w4.setCell ⟨w.heap.size + 1, 0, none⟩ (.slice A n c)).heap[w.heap.size + 1]? = some (.cells #[.slice A n c] 22 (0, 0)) := by simpa using qBU HV4.out 0 (.slice A n c)
 have hres := (qAa hvc 0).trans rfl
 exact ⟨.slice A n c, by simp [results, Try.results98, go_sem, hres], A, c, rfl, HR4.out, HI4.out, HB4.out, HK4.out⟩
theorem qBH (b1 b2 g : Nat) (f0 : List Int) (p p' : Int) (k : Int) (w0 w : World) (hI : qAd w0 w g f0 p 0) (hB : Below w0.heap.size w0 w)
  (hfn : ∀ W, Below w.heap.size w W → qAd w0 W g f0 p 0 → Below w0.heap.size w0 W → Calls Try.prog 99 #[.pointer (some ⟨b1, 0, none⟩), .pointer (some ⟨b2, 0, none⟩)] W fun e w' => e = .panicked [{ v := .iface 179 (.int .i64 k), recovered := false }] ∧ qAd w0 w' g f0 p' 0 ∧ Below w0.heap.size w0 w' ∧ qAh W w' g none) :
  Calls Try.prog 98 #[.pointer (some ⟨g, 0, none⟩), .func (.func 99) #[] #[.pointer (some ⟨b1, 0, none⟩), .pointer (some ⟨b2, 0, none⟩)]] w fun e w' => e = .returned (.slice none 0 0) ∧ qAd w0 w' g f0 p' k ∧ Below w0.heap.size w0 w' ∧ qAh w w' g none := by
 have HI := am hI
 have HB := am hB
 have HFN := am hfn
 have hgl := hI.lt
 obtain ⟨_, h1, h2, h3, v, hb, hr⟩ := hI
 have c1 : w.cell? ⟨g, 1, none⟩ = some (.int .i64 0) := (qAa hb 1).trans rfl
 clear hb hr hB h1 h2 h3 hfn
 go_enter_defers Try.func98, Try.ntmps98
 have HB3 := am (((Below.refl w.heap.size w).alloc (Nat.le_refl _) (.cells #[.pointer (some ⟨g, 0, none⟩)] 59)).alloc (by simp) (.cells #[.slice none 0 0] 22))
 have H2 : qAb (((w.alloc (.cells #[.pointer (some ⟨g, 0, none⟩)] 59)).alloc (.cells #[.slice none 0 0] 22)).heap[w.heap.size]? = some (.cells #[.pointer (some ⟨g, 0, none⟩)] 59 (0, 0))) := ⟨qAG (heap_alloc_new w _) _⟩
 have H3 : qAb (((w.alloc (.cells #[.pointer (some ⟨g, 0, none⟩)] 59)).alloc (.cells #[.slice none 0 0] 22)).heap[w.heap.size + 1]? = some (.cells #[.slice none 0 0] 22 (0, 0))) := ⟨by simpa using heap_alloc_new (w.alloc (.cells #[.pointer (some ⟨g, 0, none⟩)] 59)) (.cells #[.slice none 0 0] 22)⟩
 go_wp2_with (go_at_call 99; refine (HFN.out _ HB3.out ((HI.out.alloc _).alloc _) (qAi (qAi HB.out _) _)).mono ?_; rintro e w4 ⟨rfl, hi, hbw, hk⟩)
 refine leaves_cons (f := 115) (args := #[.pointer (some ⟨w.heap.size + 1, 0, none⟩), .pointer (some ⟨w.heap.size, 0, none⟩)]) (by simp) (by simp [go_sem]) ?_
 have hv4 : w4.heap[w.heap.size + 1]? = some (.cells #[.slice none 0 0] 22 (0, 0)) := (hk.2 _ (qAt H3.out) (by omega) (by simp)).trans H3.out
 have hq4 : w4.heap[w.heap.size]? = some (.cells #[.pointer (some ⟨g, 0, none⟩)] 59 (0, 0)) := (hk.2 _ (qAt H2.out) (by omega) (by simp)).trans H2.out
 obtain ⟨_, _, _, _, v4, hg4, _⟩ := id hi
 refine (qDb (w.heap.size + 1) g w.heap.size (.slice none 0 0) k v4 [] _ ((qAa hv4 0).trans rfl) (qAg hv4 0) ((qAa hq4 0).trans rfl) hg4 (by omega) (by omega)).mono ?_
 rintro e u' w'' ⟨rfl, rfl, rfl⟩
 have HI5 := am ((hi.behind (p := ⟨w.heap.size + 1, 0, none⟩) (by show g < w.heap.size + 1; omega) (.slice none 0 0)).set_e k)
 have HB5 := am (qAs (g := g) (j := 1) (v := .int .i64 k) (qAs (g := w.heap.size + 1) (j := 0) (v := .slice none 0 0) hbw (Nat.le_trans HB.out.size (Nat.le_succ _))) HI.out.ge)
 have HK5 := am (qAh.set_ (qCg (j := 0) HB3.out hk (Nat.le_succ _) (.slice none 0 0)) 1 (.int .i64 k))
 have hvc := qAu (g := w.heap.size + 1) (p := ⟨g, 1, none⟩) (qBU hv4 0 (.slice none 0 0)) (by show w.heap.size + 1 ≠ g; omega) (.int .i64 k)
 have hres := (qAa hvc 0).trans rfl
 clear hvc
 exact ⟨.slice none 0 0, by simp [results, Try.results98, go_sem, hres], rfl, HI5.out, HB5.out, HK5.out⟩
def qAO.f (s0_0 : List Int) (s0_1 : Int) (s0_2 : Int) (a1 : Int) : Option (List Int × Int × Int) :=
 some (if s0_2 ≠ 0 then ([], s0_1, s0_2) else if s0_1 + 4 ≤ s0_0.length then (if num4 s0_0 s0_1 ≤ 2147483647 then (if num4 s0_0 s0_1 ≤ mx a1 0 then (if s0_1 + 4 + num4 s0_0 s0_1 ≤ s0_0.length then ((s0_0.drop (s0_1 + 4).toNat).take (num4 s0_0 s0_1).toNat, s0_1 + 4 + num4 s0_0 s0_1, 0) else ([], s0_1 + 4, 40)) else ([], s0_1 + 4, 3)) else ([], s0_1 + 4, 42)) else ([], s0_1, 40))
theorem qAO.calls (g : Nat) (s0_0 : List Int) (s0_1 : Int) (s0_2 : Int) (a1 : Int) (r1 : List Int) (r2 : Int) (r3 : Int) (w0 w : World) (hI : qAd w0 w g s0_0 s0_1 s0_2) (hB : Below w0.heap.size w0 w) (h : qAO.f s0_0 s0_1 s0_2 a1 = some (r1, r2, r3)) :
  Calls Try.prog 52 #[.pointer (some ⟨g, 0, none⟩), .int .i64 a1] w fun e w' => ∃ v0_ : Value, e = .returned (v0_) ∧ Kd.R (Kd.int .u8) 5 w' w.heap.size (fun _ => True) v0_ r1 ∧ qAd w0 w' g s0_0 r2 r3 ∧ Below w0.heap.size w0 w' ∧ qAh w w' g none := by
 have h0 : 0 ≤ s0_1 := hI.2.1
 have hgl := hI.lt
 have HI := am ((hI.alloc (.cells #[.pointer (some ⟨g, 0, none⟩)] 59)).alloc (.cells #[.int .i64 a1] 3))
 have HB := am (qAi (qAi hB (.cells #[.pointer (some ⟨g, 0, none⟩)] 59)) (.cells #[.int .i64 a1] 3))
 have HK := am (qAT (qAT (qAh.refl w g none) (.cells #[.pointer (some ⟨g, 0, none⟩)] 59)) (.cells #[.int .i64 a1] 3))
 obtain ⟨W1, hW1⟩ : ∃ W1, W1 = (w.alloc (.cells #[.pointer (some ⟨g, 0, none⟩)] 59)).alloc (.cells #[.int .i64 a1] 3) := ⟨_, rfl⟩
 have hq : W1.cell? ⟨w.heap.size, 0, none⟩ = some (.pointer (some ⟨g, 0, none⟩)) := by rw [hW1]; exact (qAa (qAG (heap_alloc_new w _) _) 0).trans rfl
 have hq2 : W1.cell? ⟨w.heap.size + 1, 0, none⟩ = some (.int .i64 a1) := by rw [hW1]; exact (qAa (by simpa using heap_alloc_new (w.alloc (.cells #[.pointer (some ⟨g, 0, none⟩)] 59)) (.cells #[.int .i64 a1] 3)) 0).trans rfl
 rw [← hW1] at HI HB HK
 have HQ : qAb (∀ W, Below W1.heap.size W1 W → W.cell? ⟨w.heap.size, 0, none⟩ = some (.pointer (some ⟨g, 0, none⟩))) := ⟨fun W hW => (hW.cell (World.block_lt_of_cell? W1 _ hq)).trans hq⟩
 have HQ2 : qAb (∀ W, Below W1.heap.size W1 W → W.cell? ⟨w.heap.size + 1, 0, none⟩ = some (.int .i64 a1)) := ⟨fun W hW => (hW.cell (World.block_lt_of_cell? W1 _ hq2)).trans hq2⟩
 have HW1 := am hW1
 have hs1 : w.heap.size ≤ W1.heap.size := HK.out.1
 clear hq hq2 hW1
 unfold qAO.f at h
 injection h with h
 have HF : qAb (Calls Try.prog 98 #[.pointer (some ⟨g, 0, none⟩), .func (.func 99) #[] #[.pointer (some ⟨w.heap.size, 0, none⟩), .pointer (some ⟨w.heap.size + 1, 0, none⟩)]] W1 fun e w' => ∃ v0_ : Value, e = .returned (v0_) ∧ Kd.R (Kd.int .u8) 5 w' w.heap.size (fun _ => True) v0_ r1 ∧ qAd w0 w' g s0_0 r2 r3 ∧ Below w0.heap.size w0 w' ∧ qAh w w' g none) := by
  have lift : ∀ {e : Ending} {w' : World} {q : Int}, (e = .returned (.slice none 0 0) ∧ qAd w0 w' g s0_0 r2 q ∧ Below w0.heap.size w0 w' ∧ qAh W1 w' g none) → r1 = [] → r3 = q → ∃ v0_ : Value, e = .returned (v0_) ∧ Kd.R (Kd.int .u8) 5 w' w.heap.size (fun _ => True) v0_ r1 ∧ qAd w0 w' g s0_0 r2 r3 ∧ Below w0.heap.size w0 w' ∧ qAh w w' g none := by
   rintro e w' q ⟨h1, h2, h3, h4⟩ rfl rfl
   exact ⟨_, h1, Kd.R_nil _ _ _ _ _, h2, h3, HK.out.trans h4 (.inl rfl)⟩
  by_cases he : s0_2 ≠ 0
  ·rw [if_pos he] at h
   simp only [Prod.mk.injEq] at h
   obtain ⟨rfl, rfl, rfl⟩ := h
   exact ⟨(qCX _ g s0_0 _ _ w0 _ he HI.out HB.out).mono fun e' w' h => lift h rfl rfl⟩
  rw [if_neg he] at h
  simp only [Decidable.not_not] at he
  subst he
  by_cases hlt : s0_1 + 4 ≤ s0_0.length
  rotate_left
  ·rw [if_neg hlt] at h
   simp only [Prod.mk.injEq] at h
   obtain ⟨rfl, rfl, rfl⟩ := h
   exact ⟨(qBH w.heap.size (w.heap.size + 1) g s0_0 _ _ _ w0 _ HI.out HB.out (fun W h1 h2 h3 => qD9 _ _ g s0_0 _ _ _ a1 _ w0 W (HQ.out W h1) (HQ2.out W h1) h2 h3 (fun W' k1 k2 => qDE g a1 _ _ W' (qEp g s0_0 _ _ w0 W' (by omega) k1 k2)))).mono fun e' w' h => lift h rfl rfl⟩
  rw [if_pos hlt] at h
  by_cases hv : num4 s0_0 s0_1 ≤ 2147483647
  rotate_left
  ·rw [if_neg hv] at h
   simp only [Prod.mk.injEq] at h
   obtain ⟨rfl, rfl, rfl⟩ := h
   exact ⟨(qBH w.heap.size (w.heap.size + 1) g s0_0 _ _ _ w0 _ HI.out HB.out (fun W h1 h2 h3 => qD9 _ _ g s0_0 _ _ _ a1 _ w0 W (HQ.out W h1) (HQ2.out W h1) h2 h3 (fun W' k1 k2 => qDE g a1 _ _ W' (rd_int_big g s0_0 _ _ w0 W' hlt (by omega) k1 k2)))).mono fun e' w' h => lift h rfl rfl⟩
  rw [if_pos hv] at h
  by_cases hm : num4 s0_0 s0_1 ≤ mx a1 0
  rotate_left
  ·rw [if_neg hm] at h
   simp only [Prod.mk.injEq] at h
   obtain ⟨rfl, rfl, rfl⟩ := h
   exact ⟨(qBH w.heap.size (w.heap.size + 1) g s0_0 _ _ _ w0 _ HI.out HB.out (fun W h1 h2 h3 => qD9 _ _ g s0_0 _ _ _ a1 _ w0 W (HQ.out W h1) (HQ2.out W h1) h2 h3 (fun W' k1 k2 => rd_count_big g s0_0 _ _ a1 w0 W' hlt hv (by omega) k1 k2))).mono fun e' w' h => lift h rfl rfl⟩
  rw [if_pos hm] at h
  have hx0 : 0 ≤ num4 s0_0 s0_1 := qCY _
  by_cases hle : s0_1 + 4 + num4 s0_0 s0_1 ≤ s0_0.length
  rotate_left
  ·rw [if_neg hle] at h
   simp only [Prod.mk.injEq] at h
   obtain ⟨rfl, rfl, rfl⟩ := h
   exact ⟨(qBH w.heap.size (w.heap.size + 1) g s0_0 _ _ _ w0 _ HI.out HB.out (fun W h1 h2 h3 => raw_fn_short _ _ g (num4 s0_0 s0_1).toNat s0_0 _ _ a1 w0 W (HQ.out W h1) (HQ2.out W h1) (by omega) (by omega) hlt hv hm (by omega) (by omega) h2 h3)).mono fun e' w' h => lift h rfl rfl⟩
  rw [if_pos hle] at h
  simp only [Prod.mk.injEq] at h
  obtain ⟨rfl, rfl, rfl⟩ := h
  have hn : num4 s0_0 s0_1 = ((num4 s0_0 s0_1).toNat : Int) := by omega
  refine ⟨(guarded_raw_ok w.heap.size (w.heap.size + 1) g s0_0 _ (s0_1 + 4 + num4 s0_0 s0_1) (num4 s0_0 s0_1).toNat ((s0_0.drop (s0_1 + 4).toNat).take (num4 s0_0 s0_1).toNat) w0 _ HI.out HB.out (fun W h1 h2 h3 => ?_)).mono fun e' w' ⟨A, c, h1, h2, h3, h4, h5⟩ => ⟨_, h1, Kd.R_lower h2 hs1, h3, h4, HK.out.trans h5 (.inl rfl)⟩⟩
  refine (raw_fn_ok w.heap.size (w.heap.size + 1) g (num4 s0_0 s0_1).toNat s0_0 _ _ a1 w0 W (HQ.out W h1) (HQ2.out W h1) (by omega) (by omega) hlt hv hm hn (by omega) h2 h3).mono ?_
  rintro e w' ⟨A, c, k1, k2, k3, k4⟩
  exact ⟨A, c, k1, k2, by rwa [← hn] at k3, k4⟩
 rw [HW1.out] at HF
 clear h hI hB h0 HQ HQ2 HI HB HK hs1 HW1
 go_enter Try.func52, Try.ntmps52
 go_wp2_with (go_at_call 98; refine HF.out.mono ?_; rintro e w' ⟨v0, rfl, hR, hi, hb, hk⟩; have HR2 := am hR; have HI2 := am hi; have HB2 := am hb; have HK2 := am hk; clear hR hi hb hk)
 go_ret
 exact ⟨v0, rfl, HR2.out, HI2.out, HB2.out, HK2.out⟩
theorem RdB.of_R {W : World} {b0 g base : Nat} {bs : List Int} {v : Value} (h : Kd.R (Kd.int .u8) 5 W base (fun _ => True) v bs) (h0 : b0 ≤ base) (hg : W.heap.size ≤ g) : RdB W b0 g bs v := by
 rcases Nat.eq_zero_or_pos bs.length with hz | hp
 ·obtain ⟨A, c, hv⟩ := Kd.R_slice h
  exact .inl ⟨List.length_eq_zero_iff.1 hz, A, c, by rw [hv, hz]⟩
 obtain ⟨A, c, hv, hcl, hC⟩ := Kd.R_reads h
 obtain ⟨inner, hown⟩ := Kd.R_own h
 rcases hown.2 with ⟨hv2, _⟩ | ⟨gb, cap, cur, hv2, hb, hcur, _⟩
 ·rw [hv] at hv2; injection hv2 with _ h2 _; omega
 rw [hv] at hv2; injection hv2 with h1 _ h3; subst h1; subst h3
 refine .inr ⟨gb, 0, c, cur, by omega, Nat.lt_of_lt_of_le (qAt hcur) hg, hv, hp, hcl, hcur, fun j y hj => ?_⟩
 obtain ⟨ad, had, hcell⟩ := hC.2.2 hp
 cases had
 obtain ⟨cs, _, hK, hcc⟩ := hcell j y hj
 obtain rfl : cs = [Value.int .u8 y] := hK
 have h2 := hcc 0 _ rfl
 rw [show j * (Kd.int .u8).sz + 0 = j from Nat.mul_one j, add_zero_block] at h2
 rw [Nat.zero_add, ← qAa hcur]; exact h2
def qCb.f (l0 : List Int) : Option (List Int × Int × Int) := if l0.length ≤ 4294967296 then some (l0, 0, 0) else none
theorem qCb.calls (A0 : Option Addr) (c0 : Nat) (l0 : List Int) (r1 : List Int) (r2 : Int) (r3 : Int) (w0 w : World) (hB : Below w0.heap.size w0 w) (hr0 : Kd.C (Kd.int .u8) w0 A0 l0.length l0) (hc0 : l0.length ≤ c0) (h : qCb.f l0 = some (r1, r2, r3)) :
  Calls Try.prog 19 #[.slice A0 l0.length c0] w fun e w' => ∃ g_ : Nat, e = .returned (.pointer (some ⟨g_, 0, none⟩)) ∧ qAd w0 w' g_ r1 r2 r3 ∧ Below w0.heap.size w0 w' ∧ Below w.heap.size w w' := by
 unfold qCb.f at h
 split at h
 case isFalse => cases h
 rename_i hl
 simp only [Option.some.injEq, Prod.mk.injEq] at h
 obtain ⟨rfl, rfl, rfl⟩ := h
 have HB := am hB
 have HCL := am (qAQ.calls A0 c0 l0 l0 w (Kd.C_below hr0 hB) hc0 (by unfold qAQ.f; rw [if_pos hl]))
 have HL := am hl
 clear hB hr0 hc0 hl
 have hu := Try.underlying144
 go_enter Try.func19, Try.ntmps19
 go_wp2_with (go_at_call 66; refine HCL.out.mono ?_; rintro e w1 ⟨v, rfl, hR, hb⟩; obtain ⟨A1, c1, ev⟩ := Kd.R_slice hR; subst ev; have HR := am hR; have HB1 := am hb; clear hR hb)
 go_ret
 refine ⟨w1.heap.size, rfl, ⟨Nat.le_trans HB.out.size HB1.out.size, Int.le_refl 0, by omega, by have := HL.out; omega, .slice A1 l0.length c1, by simpa using heap_alloc_new w1 (.cells #[.slice A1 l0.length c1, .int .i64 0] 144), ?_⟩, ?_, ?_⟩
 ·exact (RdB.of_R HR.out HB.out.size (Nat.le_refl _)).move fun gb cells hc => (qAi (Below.refl _ _) _).block gb (qAt hc)
 ·exact qAi (qAJ HB.out HB.out.size HB1.out) _
 ·exact qAi HB1.out _
end Q
end
section
namespace Q
open Go.RowKit YA YC YB
open Val Ins
def okT (t : Int) : Bool := decide (1 ≤ t ∧ t ≤ 3)
theorem okT_true {t : Int} (h1 : 1 ≤ t) (h2 : t ≤ 3) : okT t = true := by unfold okT; simp [h1, h2]
theorem okT_false {t : Int} (h : t < 1 ∨ 3 < t) : okT t = false := by unfold okT; simp; omega
theorem any_hit {α : Type} (p : α → Bool) (l : List α) (k : Nat) (x : α) (hx : l[k]? = some x) (h : p x = true) : l.any p = true :=
 List.any_eq_true.2 ⟨x, List.mem_of_getElem? hx, h⟩
theorem any_miss {α : Type} (p : α → Bool) (l : List α) (h : ∀ (j : Nat) (x : α), l[j]? = some x → p x = false) : l.any p = false := by
 rw [List.any_eq_false]
 intro x hx
 obtain ⟨j, hj⟩ := List.getElem?_of_mem hx
 rw [h j x hj]; decide
def IdxPost (b : Bool) (W0 : World) (e : Ending) (w' : World) : Prop := ∃ i : Int, e = .returned (.int .i64 i) ∧ (0 ≤ i ↔ b = true) ∧ Below W0.heap.size W0 w'
theorem qBE {α : Type} (l : List α) (d : α) (k : Nat) (h : k < l.length) : l[k]? = some (l.getD k d) := by rw [List.getD_eq_getElem?_getD, List.getElem?_eq_getElem h]; rfl
def okS (x : S115) : Bool := okI x.f0 x.f1 x.f2.f0 x.f2.f1
def u64S (x : S115) : Bool := decide (0 ≤ x.f2.f1 ∧ x.f2.f1 < 18446744073709551616)
theorem u64S_U {x : S115} (h : u64S x = true) : U64 x.f2.f1 := by
 have h := of_decide_eq_true (p := 0 ≤ x.f2.f1 ∧ x.f2.f1 < 18446744073709551616) h
 exact ⟨h.1, by omega⟩
end Q
end
section
namespace Clone
open Go.RowKit Base
def RowPost (E : TypeId) (size n : Nat) (xs : List Value) (w : World) (e : Ending) (w' : World) : Prop :=
 ∃ x, e = .returned x ∧ w'.ownsRow w.heap.size E size x n xs ∧ Below w.heap.size w w'
theorem info_bytes : (Try.prog.info? 5).map (fun i => (i.zero, i.size, i.bytes)) = some (some (.int .u8 0), 1, 1) := by kernel_rfl
theorem bytes_nil (n c : Nat) (w : World) : Calls Try.prog 66 #[.slice none n c] w fun e w' => e = .returned (.slice none 0 0) ∧ w = w' := by
 have hq := Lib.run_eql_slice_nil (P := Try.prog) w 22 5 none n c 0 0 Try.underlying22
 go_enter Try.func66, Try.ntmps66
 go_wp2
 go_ret
 exact ⟨rfl, rfl⟩
theorem bytes_zero (a : Addr) (c : Nat) (w : World) : Calls Try.prog 66 #[.slice (some a) 0 c] w (RowPost 5 1 0 [] w) := by
 obtain ⟨i0, hi, hz0, hz1, hz2⟩ := info_parts info_bytes
 have hq := Lib.run_eql_slice_nil (P := Try.prog) w 22 5 (some a) 0 c 0 0 Try.underlying22
 have hown : (w.alloc (.cells #[] 5)).ownsRow w.heap.size 5 1 (.slice (some ⟨w.heap.size, 0, none⟩) 0 0) 0 [] := World.ownsRow_made w #[] 0 (Nat.le_refl _) (by unfold maxLen; omega) rfl
 go_enter Try.func66, Try.ntmps66
 go_wp2_with (at_builtin; refine wpList_append_zero rfl _ _ 22 rfl w.heap.size 5 i0 1 Try.underlying22 hi _ _ _ rfl hown (some a) c rfl ?_)
 go_ret
 exact ⟨_, rfl, hown, (Below.refl _ _).alloc (Nat.le_refl _) _⟩
theorem bytes_some (b o n c : Nat) (xs : List Value) (w : World) (h0 : 0 < n) (hl : xs.length = n * 1) (h1 : ∀ u ∈ xs, u.oneCell' = true)
  (hc : ∀ j u, xs[j]? = some u → w.cell? ⟨b, o + j, none⟩ = some u) (hb : b < w.heap.size) (hn : n ≤ 400000000) :
  Calls Try.prog 66 #[.slice (some ⟨b, o, none⟩) n c] w (RowPost 5 1 n xs w) := by
 obtain ⟨i0, hi, hz0, hz1, hz2⟩ := info_parts info_bytes
 have hq := Lib.run_eql_slice_nil (P := Try.prog) w 22 5 (some ⟨b, o, none⟩) n c 0 0 Try.underlying22
 have hown : (w.alloc (.cells #[] 5)).ownsRow w.heap.size 5 1 (.slice (some ⟨w.heap.size, 0, none⟩) 0 0) 0 [] := World.ownsRow_made w #[] 0 (Nat.le_refl _) (by unfold maxLen; omega) rfl
 have hnews : ∀ j u, xs[j]? = some u → (w.alloc (.cells #[] 5)).cell? ((⟨b, o, none⟩ : Addr).add j) = some u := fun j u hu => by
  have hadd : (⟨b, o, none⟩ : Addr).add j = ⟨b, o + j, none⟩ := by unfold Addr.add; split <;> simp_all
  rw [hadd, World.cell?_alloc_past _ _ _ hb]; exact hc j u hu
 have HN := hid hnews
 have HL := hid hl
 clear hnews hl hc
 go_enter Try.func66, Try.ntmps66
 go_wp2_with (at_builtin; refine wpList_append_lies _ rfl _ _ 22 rfl w.heap.size 5 i0 (.int .u8 0) 1 1 Try.underlying22 hi hz0 hz1 hz2 rfl (by decide) _ _ _ rfl hown ⟨b, o, none⟩ n c xs rfl ?c9 HN.out ?c2 ?c0 ?c3 ?c4 ?c5 _ rfl ?_)
 case c9 => exact HL.out
 case c2 => exact h1
 case c0 => exact h0
 case c3 => unfold maxLen; omega
 case c4 => omega
 case c5 => simp
 intro g cap w1 hown' hgrow hgg hlt
 have H1 : Hid (w1.ownsRow w.heap.size 5 1 (.slice (some ⟨g, 0, none⟩) n cap) n xs ∧ Below w.heap.size w w1) := hid ⟨hown', ((Below.refl _ _).alloc (Nat.le_refl _) _).grown hgrow (by simp) (fun j hj => (hown.lt j hj).1)⟩
 clear hown' hgrow hgg hlt hown
 go_wp2
 go_ret
 exact ⟨_, by simp, H1.out.1, H1.out.2⟩
end Clone
end
section
namespace Wr2
open Go.RowKit Base Wr Clone
theorem bv_one (bs : List Int) : ∀ u ∈ bv bs, u.oneCell' = true := by
 intro u hu; unfold bv at hu; obtain ⟨y, _, rfl⟩ := List.mem_map.1 hu; rfl
theorem bytes_any (p : Nat) (v : Value) (bs : List Int) (w : World) (h : WrSt w p v bs) (hl : bs.length ≤ 400000000) :
  Calls Try.prog 36 #[.pointer (some ⟨p, 0, none⟩)] w (RowPost 5 1 bs.length (bv bs) w) := by
 have hcl : Calls Try.prog 66 #[v] w (RowPost 5 1 bs.length (bv bs) w) := by
  rcases h.own.2 with ⟨rfl, h0⟩ | ⟨g, cap, cur, rfl, _, hg, _⟩
  ·have e0 : bs = [] := List.length_eq_zero_iff.1 h0
   subst e0
   exact (bytes_nil 0 0 w).mono fun e w' ⟨he, hw⟩ => ⟨_, he, hw ▸ World.ownsRow_nil _ _ _ _, hw ▸ Below.refl _ _⟩
  by_cases h0 : bs.length = 0
  ·have e0 : bs = [] := List.length_eq_zero_iff.1 h0
   subst e0
   exact bytes_zero _ cap w
  refine bytes_some g 0 bs.length cap (bv bs) w (by omega) (by rw [qCB]; omega) (bv_one bs) (fun j u hu => ?_) (Array.getElem?_eq_some_iff.1 hg).1 hl
  have hc := h.own.cells rfl j u hu
  have hadd : (⟨g, 0, none⟩ : Addr).add j = ⟨g, j, none⟩ := by unfold Addr.add; split <;> simp_all
  rw [hadd] at hc
  rw [Nat.zero_add]; exact hc
 have HC := hid hcl
 have hc := h.cell
 clear hcl h
 go_enter Try.func36, Try.ntmps36
 go_wp2_with fail
 refine HC.out.mono ?_
 rintro e w2 ⟨x, rfl, h2, h3⟩
 have H2 := hid h2
 have H3 := hid h3
 clear h2 h3
 go_wp2
 go_ret
 exact ⟨x, rfl, H2.out, H3.out⟩
end Wr2
end
section
namespace Q
open Go.RowKit YA YC YB
open Val Ins Wr Enc
structure WK (wd : World) (p : Nat) (W : World) (v : Value) (bs : List Int) : Prop where
 st : WrSt W p v bs
 below : Below wd.heap.size wd W
 hp : wd.heap.size ≤ p
 hv : ∀ k, v.ownBlock = some k → wd.heap.size ≤ k
theorem WK.step {wd W W' : World} {p : Nat} {v v' : Value} {bs bs' : List Int} (h : WK wd p W v bs) (h1 : WrSt W' p v' bs') (h2 : qBx p W v W' v') : WK wd p W' v' bs' :=
 ⟨h1, h.below.trans (h2.below h.hp h.below.size h.hv), h.hp, fun k hk => by
   rcases h2.row k hk with e | e
   · exact h.hv k e
   · exact Nat.le_trans h.below.size e⟩
theorem WK.below' {wd W W' : World} {p : Nat} {v : Value} {bs : List Int} (h : WK wd p W v bs) (hb : Below W.heap.size W W') : WK wd p W' v bs :=
 h.step (h.st.below hb) (qBx.of_below hb)
theorem WK.plt {wd W : World} {p : Nat} {v : Value} {bs : List Int} (h : WK wd p W v bs) : p < W.heap.size := World.block_lt_of_cell? W _ h.st.cell
theorem WK.vlt {wd W : World} {p : Nat} {v : Value} {bs : List Int} (h : WK wd p W v bs) : ∀ k, v.ownBlock = some k → k < W.heap.size := fun k hk => (h.st.own.lt k hk).2
theorem WK.cell {wd W W' : World} {p : Nat} {v v' : Value} {bs : List Int} (h : WK wd p W v bs) (h2 : qBx p W v W' v') {a : Addr} (ha : a.block < W.heap.size) (hp : a.block ≠ p) (hv : some a.block ≠ v.ownBlock) : W'.cell? a = W.cell? a := h2.cell ha hp hv
theorem enc_zero (A : Option Addr) (c : Nat) (w : World) : Calls Try.prog 57 #[.slice A 0 c] w fun e w' => e = .returned (.tuple #[.slice none 0 0, .int .i64 0]) ∧ w' = w := by
 go_enter Try.func57, Try.ntmps57
 go_wp2
 go_loopw [4, 12] (fun v i wr => v = .slice none 0 0 ∧ i = .int .i64 0 ∧ wr = w) (fun _ _ _ => 0)
 case atStart => exact ⟨rfl, rfl, rfl⟩
 case round =>
  obtain ⟨rfl, rfl, rfl⟩ := hrel
  go_wp2
  go_ret2
  exact ⟨rfl, rfl⟩
def toD (x : S115) : InsD := ⟨x.f0, x.f1, x.f2.f0, x.f2.f1⟩
theorem enc_ok (A : Option Addr) (c : Nat) (l : List S115) (w : World) (hr : Kd.C k115 w A l.length l) (hl : l.length ≤ 4096) (hok : l.all okS = true) (hu : l.all u64S = true) :
  Calls Try.prog 57 #[.slice A l.length c] w fun e w' => Below w.heap.size w w' ∧ ∃ r, e = .returned (.tuple #[r, .int .i64 0]) ∧ Out w.heap.size w' r (encB (l.map toD)) := by
 rcases Nat.eq_zero_or_pos l.length with h0 | hp
 ·obtain rfl := List.length_eq_zero_iff.1 h0
  exact (enc_zero A c w).mono fun e w' ⟨he, hw⟩ => ⟨hw ▸ Below.refl _ _, _, he, by simpa [encB, Out, bv] using World.ownsRow_nil _ _ _ _⟩
 ·obtain ⟨ad, had, hcell⟩ := hr.2.2 hp
  subst had
  obtain ⟨b, o, s⟩ := ad
  have hat : ∀ j x, l[j]? = some x → ∀ i u, [Value.int .i64 x.f0, .int .i64 x.f1, .int .i64 x.f2.f0, .int .u64 x.f2.f1][i]? = some u → w.cell? (Addr.add ⟨b, o, s⟩ (j * 4 + i)) = some u := fun j x hj i u hu => by
   obtain ⟨cs, _, hK, hcc⟩ := hcell j x hj
   obtain rfl := k115_open hK
   exact hcc i u hu
  obtain ⟨x0, hx0⟩ : ∃ x, l[0]? = some x := ⟨l[0], List.getElem?_eq_getElem hp⟩
  have hz := hat 0 x0 hx0 0 _ rfl
  have hlt := World.block_lt_of_cell? w _ hz
  obtain rfl : s = none := by
   cases s with
   | none => rfl
   | some k =>
    simp only [Addr.add, World.cell?] at hz
    split at hz <;> simp at hz
  have hadd : ∀ j, Addr.add ⟨b, o, none⟩ j = ⟨b, o + j, none⟩ := fun j => by by_cases hj : j = 0 <;> simp [Addr.add, hj]
  have hrow : InsRow w (.slice (some ⟨b, o, none⟩) l.length c) (l.map toD) := .inr ⟨b, o, c, by rw [List.length_map], by rw [hadd] at hlt; exact hlt, fun k x hx => by
    rw [List.getElem?_map] at hx
    obtain ⟨y, hy, rfl⟩ := Option.map_eq_some_iff.1 hx
    have g := hat k y hy
    refine ⟨?_, ?_, ?_, ?_⟩
    · have := g 0 _ rfl; rwa [hadd] at this
    · have := g 1 _ rfl; rwa [hadd, ← Nat.add_assoc] at this
    · have := g 2 _ rfl; rwa [hadd, ← Nat.add_assoc] at this
    · have := g 3 _ rfl; rwa [hadd, ← Nat.add_assoc] at this⟩
  refine (encode_any _ (l.map toD) w hrow (fun x hx => by
    obtain ⟨y, hy, rfl⟩ := List.mem_map.1 hx
    exact u64S_U (List.all_eq_true.1 hu y hy))).mono ?_
  rintro e w' ⟨hb, h⟩
  refine ⟨hb, ?_⟩
  rcases h with ⟨h, _⟩ | ⟨_, ⟨_, r, he, ho⟩ | ⟨⟨x, hx, hf⟩, _⟩⟩
  ·rw [List.length_map] at h; omega
  ·exact ⟨r, he, ho⟩
  ·obtain ⟨y, hy, rfl⟩ := List.mem_map.1 hx
   have h1 := List.all_eq_true.1 hok y hy
   have h2 : okS y = false := hf
   rw [h1] at h2; cases h2
theorem raw_out (p N0 : Nat) (r : Value) (ys : List Int) (v : Value) (bs : List Int) (w : World) (h : WrSt w p v bs) (ho : Out N0 w r ys) (hp : p < N0) (hv : ∀ k, v.ownBlock = some k → k < N0) (hl : bs.length ≤ 400000000) (hl2 : ys.length ≤ 400000000) :
  Calls Try.prog 58 #[.pointer (some ⟨p, 0, none⟩), r] w (qC6 p (bs ++ rawB ys) w v) := by
 have ho' := ho
 obtain ⟨_, ho⟩ := ho
 rcases ho with ⟨rfl, h0⟩ | ⟨g, cap, cur, rfl, hb, hh, _, _, _, hcur⟩
 ·obtain rfl : ys = [] := List.length_eq_zero_iff.1 h0
  exact raw_none p none 0 v bs w h hl
 ·rcases Nat.eq_zero_or_pos ys.length with h0 | hpos
  ·obtain rfl : ys = [] := List.length_eq_zero_iff.1 h0
   exact raw_none p _ cap v bs w h hl
  ·refine raw_some p g 0 cap ys v bs w h (qAt hh) (by omega) (fun e => by have := hv g e.symm; omega) hpos (fun j y hj => ?_) hl hl2
   have hx : cur[0 + j]? = some (Value.int .u8 y) := by
    have h1 : (bv ys)[j]? = some (Value.int .u8 y) := by unfold bv; rw [List.getElem?_map, hj]; rfl
    rw [← hcur, List.getElem?_take] at h1
    split at h1
    ·rw [Nat.zero_add, ← Array.getElem?_toList]; exact h1
    cases h1
   rw [qAa hh]; exact hx
def byB (l : List Int) : List Int := l.map (· % 256)
theorem byB_take (l : List Int) (k : Nat) (x : Int) (h : l[k]? = some x) : byB (l.take (k + 1)) = byB (l.take k) ++ [x % 256] := by
 obtain ⟨hk, he⟩ := List.getElem?_eq_some_iff.1 h
 unfold byB
 rw [List.take_succ_eq_append_getElem hk, List.map_append, he]; rfl
theorem encB_len (l : List InsD) : (encB l).length ≤ l.length * 10 := by
 induction l with
 | nil => simp [encB]
 | cons x l ih =>
  have h1 : (insB x).length ≤ 10 := by
   unfold insB
   have := widN_le x.op
   split <;> simp [be_len] <;> omega
  have h2 : encB (x :: l) = insB x ++ encB l := by simp [encB]
  rw [h2, List.length_append, List.length_cons]; omega
theorem u8w (x : Int) : IntKind.u8.wrap x = x % 256 := by simp [IntKind.wrap, IntKind.signed, IntKind.bits]
end Q
end
section
namespace Q
open Go.RowKit YA YC YB
attribute [local go_sem] qAS min2_int qBa min_two max_three min_three max_four min_four
end Q
end
section
namespace Q
open Go.RowKit YA YC YB
theorem wrap_add1 {i : Int} {n : Nat} (h0 : 0 ≤ i) (h : i < n) (hn : n ≤ 4611686018427387904) : wrap64 (i + 1) = i + 1 := by unfold wrap64; omega
theorem qB9 {α : Type} (l : List α) (d : α) (i : Int) (h0 : 0 ≤ i) (h : i < l.length) : l.drop i.toNat = l.getD i.toNat d :: l.drop (i + 1).toNat := by
 rw [show (i + 1).toNat = i.toNat + 1 from by omega, List.drop_eq_getElem_cons (by omega), List.getD_eq_getElem?_getD, List.getElem?_eq_getElem (by omega)]; rfl
def ShBox (W : World) (g : Nat) (m : Bool) (A : Option Addr) (n c : Nat) (B : Option Addr) (k d : Nat) : Prop := W.heap[g]? = some (.cells #[.bool m, .slice A n c, .slice B k d] 192 (0, 0))
theorem ShBox.set {W : World} {g : Nat} {m : Bool} {A : Option Addr} {n c : Nat} {B : Option Addr} {k d : Nat} (h : ShBox W g m A n c B k d) (A' : Option Addr) (n' c' : Nat) : ShBox (W.setCell ⟨g, 1, none⟩ (.slice A' n' c')) g m A' n' c' B k d := by
 unfold ShBox at h ⊢
 simp [World.setCell, h, Array.getElem?_modify]
theorem take_none (g : Nat) (m : Bool) (A : Option Addr) (c : Nat) (B : Option Addr) (k d : Nat) (W : World) (hg : ShBox W g m A 0 c B k d) :
  Calls Try.prog 131 #[.pointer (some ⟨g, 0, none⟩)] W fun e w' => e = .returned (.tuple #[.int .i64 0, .bool false]) ∧ w' = W := by
 have c1 : W.cell? ⟨g, 1, none⟩ = some (.slice A 0 c) := (qAa hg 1).trans rfl
 go_enter Try.func131, Try.ntmps131
 go_wp2
 go_ret2
 exact ⟨rfl, rfl⟩
theorem take_some (g : Nat) (m : Bool) (ad : Addr) (n c : Nat) (B : Option Addr) (k d : Nat) (x : Int) (W : World) (hg : ShBox W g m (some ad) (n + 1) c B k d) (hx : W.cell? (ad.add n) = some (.int .i64 x)) (hc : n + 1 ≤ c) (hn : n + 1 ≤ 4611686018427387904) :
  Calls Try.prog 131 #[.pointer (some ⟨g, 0, none⟩)] W fun e w' => e = .returned (.tuple #[.int .i64 x, .bool true]) ∧ w' = W.setCell ⟨g, 1, none⟩ (.slice (some ad) n c) := by
 have c1 : W.cell? ⟨g, 1, none⟩ = some (.slice (some ad) (n + 1) c) := (qAa hg 1).trans rfl
 have f1 := qAg hg 1
 have hz : (((n + 1 : Nat) : Int) == 0) = false := beq_eq_false_iff_ne.mpr (by omega)
 have hs : IntKind.i64.wrap (((n + 1 : Nat) : Int) - 1) = (n : Int) := by simp [IntKind.wrap, IntKind.bits, IntKind.signed]; omega
 have hgl : g < W.heap.size := qAt hg
 go_enter Try.func131, Try.ntmps131
 go_wp2
 go_ret2
 exact ⟨rfl, rfl⟩
theorem qCO : (Try.prog.info? 204).map (fun i => (i.zero, i.size, i.bytes)) = some (some (.agg #[.int .i64 0, .slice none 0 0]), 2, 32) := by kernel_rfl
theorem qCy : (Try.prog.info? 3).map (fun i => (i.zero, i.size, i.bytes)) = some (some (.int .i64 0), 1, 8) := by kernel_rfl
theorem cloneO_any (A : Option Addr) (n c : Nat) (tr : List S204) (ok : Nat → Prop) (W : World) (HF : Kd.F k204 W ok A n tr) (hn : n ≤ 2000000) :
  Calls Try.prog 129 #[.slice A n c] W fun e w' => ∃ v, e = .returned v ∧ Kd.N k204 204 w' W.heap.size (fun k => ok k ∨ W.heap.size ≤ k) v tr ∧ Below W.heap.size W w' := by
 have hlen := Kd.F_len HF
 cases A with
 | none =>
  have h0 : n = 0 := by
   rcases Nat.eq_zero_or_pos n with h | h
   ·exact h
   obtain ⟨ad, had, _⟩ := (Kd.F_now HF).2.2 h; cases had
  subst h0
  obtain rfl : tr = [] := List.length_eq_zero_iff.1 hlen
  have hq := Lib.run_eql_slice_nil (P := Try.prog) W 190 204 none 0 c 0 0 Try.underlying190
  clear HF hlen
  go_enter Try.func129, Try.ntmps129
  go_wp2
  go_ret
  exact ⟨_, rfl, Kd.N_nil _ _ _ _ _, Below.refl _ _⟩
 | some a =>
  have hq := Lib.run_eql_slice_nil (P := Try.prog) W 190 204 (some a) n c 0 0 Try.underlying190
  have hown : (W.alloc (.cells #[] 204)).ownsRow W.heap.size 204 2 (.slice (some ⟨W.heap.size, 0, none⟩) 0 0) 0 [] := World.ownsRow_made W #[] 0 (Nat.le_refl _) (by unfold maxLen; omega) rfl
  have HR : Kd.R k204 204 (W.alloc (.cells #[] 204)) W.heap.size (fun k => ok k ∨ W.heap.size ≤ k) (.slice (some ⟨W.heap.size, 0, none⟩) 0 0) [] := ⟨fun k hk => .inr (by cases hk; exact Nat.le_refl _), [], hown, Reps.none _ _⟩
  have HN := am (Kd.R_N HR)
  have HF' := am (Kd.F_alloc (Kd.F_bound HF) (.cells #[] 204))
  clear HF hown HR
  go_enter Try.func129, Try.ntmps129
  go_wp2_with (at_builtin; refine Kd.N_append_rows k204 (w0 := W) W.heap.size rfl (.tmp 5) (.tmp 6) 190 204 _ 32 rfl Try.underlying190 qCO rfl (by decide) (by decide) _ [] tr (some a) n c _ _ rfl rfl HN.out HF'.out ?h1 ?h2 ?h3 ?h4 ?h5 ?_; (case h1 => exact fun k hk => ⟨.inl hk.1, fun he => by cases he; exact absurd hk.2 (Nat.lt_irrefl _)⟩); (case h2 => intro k hk; exact .inr (by simp at hk; omega)); (case h3 => exact (Below.refl _ _).alloc (Nat.le_refl _) _); (case h4 => simp); (case h5 => simp; omega); intro v1 w1 hN hB _ _; have HN1 := am hN; have HB1 := am hB; clear hN hB)
  go_ret
  exact ⟨_, rfl, HN1.out, HB1.out⟩
theorem qCs (A : Option Addr) (c : Nat) (st : List Int) (W : World) (HC0 : Kd.C (Kd.int .i64) W A st.length st) (hn : st.length ≤ 2000000) :
  Calls Try.prog 105 #[.slice A st.length c] W fun e w' => ∃ v, e = .returned v ∧ Kd.R (Kd.int .i64) 3 w' W.heap.size (fun _ => True) v st ∧ Below W.heap.size W w' := by
 obtain ⟨n, hnn⟩ : ∃ n, n = st.length := ⟨_, rfl⟩
 rw [← hnn] at HC0 hn ⊢
 cases A with
 | none =>
  have h0 : n = 0 := by
   rcases Nat.eq_zero_or_pos n with h | h
   ·exact h
   obtain ⟨ad, had, _⟩ := HC0.2.2 h; cases had
  subst h0
  obtain rfl : st = [] := List.length_eq_zero_iff.1 hnn.symm
  have hq := Lib.run_eql_slice_nil (P := Try.prog) W 72 3 none 0 c 0 0 Try.underlying72
  clear HC0 hn hnn
  go_enter Try.func105, Try.ntmps105
  go_wp2
  go_ret
  exact ⟨_, rfl, Kd.R_nil _ _ _ _ _, Below.refl _ _⟩
 | some a =>
  have hq := Lib.run_eql_slice_nil (P := Try.prog) W 72 3 (some a) n c 0 0 Try.underlying72
  have hown : (W.alloc (.cells #[] 3)).ownsRow W.heap.size 3 1 (.slice (some ⟨W.heap.size, 0, none⟩) 0 0) 0 [] := World.ownsRow_made W #[] 0 (Nat.le_refl _) (by unfold maxLen; omega) rfl
  have HR : qAb (Kd.R (Kd.int .i64) 3 (W.alloc (.cells #[] 3)) W.heap.size (fun _ => True) (.slice (some ⟨W.heap.size, 0, none⟩) 0 0) []) := ⟨fun k hk => trivial, [], hown, Reps.none _ _⟩
  have HRR : qAb (qBf (fun x cs => cs = [Value.int .i64 x]) (Kd.int .i64).sz (W.alloc (.cells #[] 3)) (some a) n st) := ⟨Kd.C_below HC0 ((Below.refl _ _).alloc (Nat.le_refl _) _)⟩
  have HNN := am hnn
  have HN0 := am hn
  clear HC0 hown hn hnn
  go_enter Try.func105, Try.ntmps105
  go_wp2_with (at_builtin; refine Kd.R_append_rows (Kd.int .i64) (w0 := W) W.heap.size rfl (.tmp 5) (.tmp 6) 72 3 _ 8 rfl Try.underlying72 qCy rfl (by decide) (by decide) _ [] st (some a) n c _ (fun _ => False) rfl rfl HR.out HRR.out ?h0 ?h1 ?h2 ?h3 ?h4 ?h5 ?_; (case h0 => exact fun x cs h => h); (case h1 => exact fun k hk => hk.elim); (case h2 => intro k hk; exact trivial); (case h3 => exact (Below.refl _ _).alloc (Nat.le_refl _) _); (case h4 => simp); (case h5 => have := HN0.out; simp; omega); intro v1 w1 hN hB _ _; have HN1 := am hN; have HB1 := am hB; clear hN hB)
  go_ret
  exact ⟨_, rfl, HN1.out, HB1.out⟩
def qBc.f (l0 : List Int) : Option (List Int) := if l0.length ≤ 2000000 then some l0 else none
theorem qBc.calls (A0 : Option Addr) (c0 : Nat) (l0 : List Int) (r : List Int) (w : World) (hr0 : Kd.C (Kd.int .i64) w A0 l0.length l0) (hc0 : l0.length ≤ c0) (h : qBc.f l0 = some r) :
  Calls Try.prog 105 #[.slice A0 l0.length c0] w fun e w' => ∃ v0_ : Value, e = .returned (v0_) ∧ Kd.R (Kd.int .i64) 3 w' w.heap.size (fun _ => True) v0_ r ∧ Below w.heap.size w w' := by
 unfold qBc.f at h
 split at h
 ·rename_i hl
  injection h with h
  subst h
  exact qCs A0 c0 l0 w hr0 hl
 ·cases h
def qDU (m : Bool) (st : List Int) (tr : List S204) (ok2 : Nat → Prop) (W : World) (e : Ending) (w' : World) : Prop :=
 ∃ v1 v2, e = .returned (.agg #[.bool m, v1, v2]) ∧ Kd.R (Kd.int .i64) 3 w' W.heap.size (fun _ => True) v1 st ∧ Kd.N k204 204 w' W.heap.size (fun q => (ok2 q ∨ W.heap.size ≤ q) ∧ some q ≠ v1.ownBlock) v2 tr ∧ Below W.heap.size W w'
theorem qD0 (m : Bool) (A : Option Addr) (c : Nat) (st : List Int) (B : Option Addr) (k d : Nat) (tr : List S204) (ok1 ok2 : Nat → Prop) (W : World) (H1 : Kd.F (Kd.int .i64) W ok1 A st.length st) (H2 : Kd.F k204 W ok2 B k tr) (hn : st.length ≤ 2000000) (hk : k ≤ 2000000) (hnc : st.length ≤ c) :
  Calls Try.prog 119 #[.agg #[.bool m, .slice A st.length c, .slice B k d]] W (qDU m st tr ok2 W) := by
 have HC1 : qAb (∀ W', Below W.heap.size W W' → Calls Try.prog 105 #[.slice A st.length c] W' fun e w' => ∃ v, e = .returned v ∧ Kd.R (Kd.int .i64) 3 w' W'.heap.size (fun _ => True) v st ∧ Below W'.heap.size W' w') :=
  ⟨fun W' hW => qCs A c st W' (Kd.F_now (Kd.F_below H1 hW)) hn⟩
 have HC2 : qAb (∀ W', Below W.heap.size W W' → Calls Try.prog 129 #[.slice B k d] W' fun e w' => ∃ v, e = .returned v ∧ Kd.N k204 204 w' W'.heap.size (fun q => (ok2 q ∧ q < W.heap.size) ∨ W'.heap.size ≤ q) v tr ∧ Below W'.heap.size W' w') :=
  ⟨fun W' hW => cloneO_any B k d tr _ W' (Kd.F_below (Kd.F_bound H2) hW) hk⟩
 obtain ⟨n, hn'⟩ : ∃ n, n = st.length := ⟨_, rfl⟩
 rw [← hn'] at HC1 ⊢
 clear H1 H2 hn hk hnc hn'
 obtain ⟨WB, hWB⟩ : ∃ WB, WB = (W.alloc (.cells #[.bool m, .slice A n c, .slice B k d] 192)).alloc (.cells #[.bool false, .slice none 0 0, .slice none 0 0] 192) := ⟨_, rfl⟩
 have hBB : Below W.heap.size W WB := hWB ▸ ((Below.refl _ _).alloc (Nat.le_refl _) _).alloc (by simp) _
 have hz : WB.heap.size = W.heap.size + 1 + 1 := by rw [hWB]; simp
 have b0 : WB.heap[W.heap.size]? = some (.cells #[.bool m, .slice A n c, .slice B k d] 192 (0, 0)) := by rw [hWB]; exact qAe (qAU W _) (qAi (Below.refl _ _) _)
 have b1 : WB.heap[W.heap.size + 1]? = some (.cells #[.bool false, .slice none 0 0, .slice none 0 0] 192 (0, 0)) := by rw [hWB]; simpa using qAU (W.alloc (.cells #[.bool m, .slice A n c, .slice B k d] 192)) _
 have HWB := am hWB
 have HBB := am hBB
 have e0 := (qAa b0 0).trans rfl
 have e1 := (qAa b0 1).trans rfl
 have e2 := (qAa b0 2).trans rfl
 go_enter Try.func119, Try.ntmps119
 go_wp2_with fail
 rw [← hWB]
 clear hWB
 go_region_held3 (fun W' => W'.cell? ⟨W.heap.size, 0, none⟩ = some (.bool m) ∧ W'.cell? ⟨W.heap.size, 1, none⟩ = some (.slice A n c) ∧ W'.cell? ⟨W.heap.size, 2, none⟩ = some (.slice B k d))
  (first | go_keep | exact ⟨g0, g1, g2⟩ | exact ⟨f0, f1, f2⟩ | exact ⟨e0, e1, e2⟩)
  (first
    | (go_at_call 105;
       refine (HC1.out _ (qAw HBB.out)).mono ?_;
       rintro e w1 ⟨v1, rfl, hR1, hb1⟩;
       have hb1' : Below WB.heap.size WB w1 := (qAw (Below.refl _ _)).trans hb1;
       have b0' := qAe b0 hb1';
       have b1' := qAe b1 hb1';
       have f0 := (qAa b0' 0).trans rfl;
       have f1 := (qAa b0' 1).trans rfl;
       have f2 := (qAa b0' 2).trans rfl;
       have hBB1 := Below.trans hBB (hb1'.mono (by omega));
       have HBB1 := am hBB1;
       obtain ⟨A1, c1, ev1⟩ := Kd.R_slice hR1;
       subst ev1;
       have HR1 := am hR1;
       have HB1 := am hb1';
       clear hR1 hb1 hb1' hBB1)
    | (go_at_call 129;
       refine (HC2.out _ HBB1.out).mono ?_;
       rintro e w2 ⟨v2, rfl, hN2, hb2⟩;
       have b0'' := qAe b0' hb2;
       have b1'' := qAe b1' hb2;
       have g0 := (qAa b0'' 0).trans rfl;
       have g1 := (qAa b0'' 1).trans rfl;
       have g2 := (qAa b0'' 2).trans rfl;
       have hcz0 := (qAa b1'' 0).trans rfl;
       have hcz1 := (qAa b1'' 1).trans rfl;
       have hcz2 := (qAa b1'' 2).trans rfl;
       have hfz0 := qAg b1'' 0;
       have hfz1 := qAg b1'' 1;
       have hfz2 := qAg b1'' 2;
       obtain ⟨A2, c2, ev2⟩ := Kd.N_slice hN2;
       subst ev2;
       have HN2 := am hN2;
       have HB2 := am hb2;
       clear hN2 hb2))
 have hv1a := Kd.R_base HR1.out
 have hv1b := Kd.R_lt HR1.out
 have hz' : WB.drew.heap.size = W.heap.size + 1 + 1 := hz
 have hs2 := HB2.out.size
 have hs1 : W.heap.size + 1 < w1.heap.size := by
  rcases Nat.lt_or_ge (W.heap.size + 1) w1.heap.size with h | h
  ·exact h
  rw [Array.getElem?_eq_none h] at b1'; cases b1'
 go_wp2
 refine bodyPost_ret (results_cell_row rfl _ _ (W.heap.size + 1) 192 #[.bool m, .slice A1 st.length c1, .slice A2 tr.length c2] (0, 0) _ rfl (by refine qAx (cs := #[.bool m, .slice A1 st.length c1, .slice none 0 0]) ?_ 2 _ rfl; refine qAx (cs := #[.bool m, .slice none 0 0, .slice none 0 0]) ?_ 1 _ rfl; refine qAx (cs := #[.bool false, .slice none 0 0, .slice none 0 0]) ?_ 0 _ rfl; exact b1'') Try.underlying192 rfl (by kernel_rfl)) rfl ?_
 generalize hWf : ((w2.setCell _ _).setCell _ _).setCell _ _ = Wf
 have hE : ∀ q, q ≠ W.heap.size + 1 → Wf.heap[q]? = w2.heap[q]? := fun q hq => by
  rw [← hWf, Below.heap_setCell _ _ _ _ hq, Below.heap_setCell _ _ _ _ hq, Below.heap_setCell _ _ _ _ hq]
 have hBf : Below W.heap.size W Wf := by
  rw [← hWf]
  exact qAs (qAs (qAs (HBB1.out.trans (HB2.out.mono (by omega))) (by simp)) (by simp)) (by simp)
 refine ⟨_, _, rfl, ?_, ?_, hBf⟩
 ·have h1 := Kd.R_lower (Kd.R_below (Kd.R_bound HR1.out) HB2.out) (show W.heap.size ≤ WB.drew.heap.size by omega)
  exact Kd.R_mono (Kd.R_step h1 (fun q hq _ => hE q (by omega))) (fun _ _ => trivial)
 ·have h2 := Kd.N_lower HN2.out (show W.heap.size ≤ w1.heap.size by omega)
  refine Kd.N_mono (Kd.N_step h2 (fun q hq _ => hE q (by omega))) (fun q hq => ⟨?_, fun he => ?_⟩)
  ·rcases hq with h | h
   ·exact .inl h.1
   ·exact .inr (by omega)
  ·have := hv1a q he.symm; have := hv1b q he.symm; omega
def Fr (W w' : World) (S : Nat → Prop) : Prop := Below 0 W w' ∧ Kept W w' S
theorem below_zero {n : Nat} {W W' : World} (h : Below n W W') : Below 0 W W' := h.mono (Nat.zero_le _)
theorem Fr.refl (W : World) (S : Nat → Prop) : Fr W W S := ⟨Below.refl _ _, Kept.refl _ _⟩
theorem Fr.of_below {W W' : World} {S : Nat → Prop} (h : Below W.heap.size W W') : Fr W W' S := ⟨below_zero h, Kept.of_below h S⟩
theorem Fr.then_ {W W1 W2 : World} {S S1 : Nat → Prop} (h : Fr W W1 S) (k : Fr W1 W2 S1) (hs : ∀ q, S1 q → S q ∨ W.heap.size ≤ q) : Fr W W2 S := ⟨h.1.trans k.1, h.2.then_ k.2 hs⟩
theorem Fr.trans {W W1 W2 : World} {S : Nat → Prop} (h : Fr W W1 S) (k : Fr W1 W2 S) : Fr W W2 S := h.then_ k (fun _ h => .inl h)
theorem Fr.mono {W W1 : World} {S S' : Nat → Prop} (h : Fr W W1 S) (hs : ∀ q, S q → S' q) : Fr W W1 S' := ⟨h.1, h.2.mono hs⟩
theorem Fr.set {W W1 : World} {S : Nat → Prop} (h : Fr W W1 S) {p : Addr} (hp : S p.block ∨ W.heap.size ≤ p.block) (u : Value) : Fr W (W1.setCell p u) S :=
 ⟨h.1.setCell (Nat.zero_le _) u, by
   refine ⟨Nat.le_trans h.2.1 (by simp [World.setCell]), fun i hi hn => ?_⟩
   rw [Below.heap_setCell _ _ _ _ (fun e => by subst e; rcases hp with hp | hp; exact hn hp; omega)]
   exact h.2.2 i hi hn⟩
theorem Fr.size {W W1 : World} {S : Nat → Prop} (h : Fr W W1 S) : W.heap.size ≤ W1.heap.size := h.2.1
theorem Fr.blk {W W1 : World} {S : Nat → Prop} (h : Fr W W1 S) {q : Nat} {o : Obj} (hq : W.heap[q]? = some o) (hn : ¬ S q) : W1.heap[q]? = some o := by
 have hlt : q < W.heap.size := (Array.getElem?_eq_some_iff.1 hq).1
 rw [h.2.2 q hlt hn]; exact hq
theorem Fr.cell {W W1 : World} {S : Nat → Prop} (h : Fr W W1 S) {p : Addr} {v : Value} (hc : W.cell? p = some v) (hn : ¬ S p.block) : W1.cell? p = some v :=
 (World.cell?_of_block (h.2.2 p.block (World.block_lt_of_cell? W p hc) hn)).trans hc
theorem qA4 {W : World} {p : Addr} {v : Value} (o : Obj) (hc : W.cell? p = some v) : (W.alloc o).cell? p = some v :=
 (Below.cell (qAi (Below.refl _ _) o) (World.block_lt_of_cell? W p hc)).trans hc
theorem qA0 {W : World} {p : Addr} {v : Value} (hc : W.cell? p = some v) (c : Addr) (u : Value) (hne : p.block ≠ c.block) : (W.setCell c u).cell? p = some v :=
 (World.cell?_setCell_other _ _ _ _ (fun e => hne (congrArg Addr.block e.symm))).trans hc
theorem qAK {W : World} {S : Nat → Prop} {p : Addr} {v : Value} {g : Nat} (hc : W.cell? p = some v) (j : Nat) (u : Value) (hn : ¬ S p.block) (hg : S g) : (W.setCell ⟨g, j, none⟩ u).cell? p = some v :=
 qA0 hc _ _ (fun e => hn (by rw [e]; exact hg))
theorem Fr.below {W W1 : World} {S : Nat → Prop} {n : Nat} (h : Fr W W1 S) (hs : ∀ q, S q → n ≤ q) (hn : n ≤ W.heap.size) : Below n W W1 :=
 ⟨h.1.os, h.1.tape, h.1.output, h.2.1, fun k hk => h.2.2 k (by omega) (fun e => by have := hs k e; omega)⟩
def ShV (W : World) (g : Nat) (m : Bool) (st : List Int) (tr : List S204) (S okT : Nat → Prop) (v1 v2 : Value) : Prop :=
 W.heap[g]? = some (.cells #[.bool m, v1, v2] 192 (0, 0)) ∧ S g ∧ Kd.N (Kd.int .i64) 3 W 0 (fun q => S q ∧ q ≠ g) v1 st ∧ (∀ k, v2.ownBlock = some k → S k) ∧ Kd.N k204 204 W 0 (fun q => (S q ∨ okT q) ∧ q ≠ g ∧ some q ≠ v1.ownBlock) v2 tr
def ShO (W : World) (g : Nat) (m : Bool) (st : List Int) (tr : List S204) (S okT : Nat → Prop) : Prop := ∃ v1 v2, ShV W g m st tr S okT v1 v2
theorem ShO.below {W W' : World} {g : Nat} {m : Bool} {st : List Int} {tr : List S204} {S okT : Nat → Prop} (h : ShO W g m st tr S okT) (hb : Below W.heap.size W W') : ShO W' g m st tr (fun q => (S q ∧ q < W.heap.size) ∨ W'.heap.size ≤ q) okT := by
 obtain ⟨v1, v2, hg, h0, h1, h2, h3⟩ := h
 have h4 := Kd.N_lt h3
 refine ⟨v1, v2, qAe hg hb, .inl ⟨h0, qAt hg⟩, ?_, fun k hk => .inl ⟨h2 k hk, h4 k hk⟩, ?_⟩
 ·exact Kd.N_mono (Kd.N_below (Kd.N_bound h1) hb) (fun q hq => ⟨.inl ⟨hq.1.1, hq.2⟩, hq.1.2⟩)
 refine Kd.N_mono (Kd.N_below (Kd.N_bound h3) hb) (fun q hq => ⟨?_, hq.1.2⟩)
 rcases hq.1.1 with h | h
 ·exact .inl (.inl ⟨h, hq.2⟩)
 exact .inr h
theorem ShO.mono {W : World} {g : Nat} {m : Bool} {st : List Int} {tr : List S204} {S S' okT okT' : Nat → Prop} (h : ShO W g m st tr S okT) (hs : ∀ q, S q → S' q) (hk : ∀ q, okT q → okT' q) : ShO W g m st tr S' okT' := by
 obtain ⟨v1, v2, hg, h0, h1, h2, h3⟩ := h
 refine ⟨v1, v2, hg, hs _ h0, Kd.N_mono h1 (fun q hq => ⟨hs _ hq.1, hq.2⟩), fun k hk => hs _ (h2 k hk), Kd.N_mono h3 (fun q hq => ⟨?_, hq.2⟩)⟩
 rcases hq.1 with h | h
 ·exact .inl (hs _ h)
 exact .inr (hk _ h)
theorem ShO.lt {W : World} {g : Nat} {m : Bool} {st : List Int} {tr : List S204} {S okT : Nat → Prop} (h : ShO W g m st tr S okT) : g < W.heap.size := by
 obtain ⟨v1, v2, hg, _⟩ := h
 exact qAt hg
def topV (st : List Int) : Value := .tuple #[.int .i64 (st.getLast?.getD 0), .bool st.getLast?.isSome]
theorem qCE {W : World} {A : Option Addr} {n : Nat} {xs : List Int} (h : Kd.C (Kd.int .i64) W A n xs) (i : Nat) (hi : i < n) : ∃ ad, A = some ad ∧ W.cell? (ad.add i) = some (.int .i64 (xs.getD i 0)) := by
 obtain ⟨ad, c, e, _, hK, hc0⟩ := Kd.C_get h (0 : Int) (i : Int) (by omega) (by omega)
 obtain rfl : c = [Value.int .i64 (xs.getD i 0)] := hK
 refine ⟨ad, e, ?_⟩
 have h2 := hc0 0 _ rfl
 rwa [show ((i : Int).toNat * (Kd.int .i64).sz + 0) = i from Nat.mul_one i] at h2
theorem take_o {g : Nat} {m : Bool} {st : List Int} {tr : List S204} {S okT : Nat → Prop} {W : World} (H : ShO W g m st tr S okT) (hl : st.length ≤ 2000000) :
  Calls Try.prog 131 #[.pointer (some ⟨g, 0, none⟩)] W fun e w' => e = .returned (topV st) ∧ ShO w' g m st.dropLast tr S okT ∧ Fr W w' S := by
 obtain ⟨v1, v2, hg, hb, hN1, hSv, hN2⟩ := H
 obtain ⟨A, c, rfl⟩ := Kd.N_slice hN1
 obtain ⟨B, d, rfl⟩ := Kd.N_slice hN2
 rcases List.eq_nil_or_concat st with rfl | ⟨l, x, rfl⟩
 ·refine (take_none g m A c B tr.length d W hg).mono ?_
  rintro e w' ⟨rfl, rfl⟩
  exact ⟨rfl, ⟨_, _, hg, hb, hN1, hSv, hN2⟩, Fr.refl _ _⟩
 ·rw [List.concat_eq_append] at *
  have hn : (l ++ [x]).length = l.length + 1 := by simp
  obtain ⟨q, cap, hq, _⟩ := Kd.N_form hN1 (by omega)
  injection hq with hqA hqn hqc
  subst hqA
  have hC := Kd.N_reads' hN1
  obtain ⟨ad, had, hcell⟩ := qCE hC.2.2 l.length (by omega)
  injection had with had
  subst had
  have hx : (l ++ [x]).getD l.length 0 = x := by simp
  rw [hx] at hcell
  rw [hn] at hg
  refine (take_some g m ⟨q, 0, none⟩ l.length c B tr.length d x W hg hcell (by omega) (by omega)).mono ?_
  rintro e w' ⟨rfl, rfl⟩
  refine ⟨by simp [topV], ⟨.slice (some ⟨q, 0, none⟩) l.length c, .slice B tr.length d, ?_, hb, ?_, hSv, ?_⟩, Fr.set (Fr.refl _ _) (.inl hb) _⟩
  ·exact ShBox.set hg (some ⟨q, 0, none⟩) l.length c
  ·have := Kd.N_take hN1 (m := l.length) (by omega)
   rw [show (l ++ [x]).take l.length = l from by simp] at this
   rw [show (l ++ [x]).dropLast = l from by simp]
   exact Kd.N_far this (fun _ hk => hk.2) _
  ·exact Kd.N_far hN2 (fun _ hk => hk.2.1) _
def qBw (t : Int) (st : List Int) : Bool := st.getLast? == some t
theorem qDD {g : Nat} {m : Bool} {st : List Int} {tr : List S204} {S okT : Nat → Prop} {W : World} (t : Int) (H : ShO W g m st tr S okT) (hl : st.length ≤ 2000000) :
  Calls Try.prog 127 #[.pointer (some ⟨g, 0, none⟩), .int .i64 t] W fun e w' => e = .returned (.bool (qBw t st)) ∧ ShO w' g m st.dropLast tr S okT ∧ Fr W w' S := by
 have HT := am (take_o H hl)
 have hgl : g < W.heap.size := H.lt
 clear H hl
 obtain ⟨x, hx⟩ : ∃ x, x = st.getLast?.getD 0 := ⟨_, rfl⟩
 obtain ⟨b, hb⟩ : ∃ b, b = st.getLast?.isSome := ⟨_, rfl⟩
 obtain ⟨sd, hsd⟩ : ∃ sd, sd = st.dropLast := ⟨_, rfl⟩
 have hr : qBw t st = (b && (x == t)) := by
  rw [hb, hx]
  unfold qBw
  cases st.getLast? <;> simp
 unfold topV at HT
 rw [hr]
 rw [← hx, ← hb, ← hsd] at HT
 rw [← hsd]
 clear hr hx hb hsd
 go_enter Try.func127, Try.ntmps127
 go_wp2_with (go_at_call 131; refine HT.out.mono ?_; rintro e w1 ⟨rfl, hS1, hb1⟩; have HS1 := am hS1; have HB1 := am hb1; clear hS1 hb1)
 all_goals (go_ret; exact ⟨by simp_all, HS1.out, HB1.out⟩)
section
variable {ops : Array Oper} {rest : List Oper} {o : Oper} {a : Act} {Q : Exit → Act → World → Prop} {Kc : Act → World → Prop}
theorem push_done {W w3 : World} {g : Nat} {m : Bool} {st st' : List Int} {tr : List S204} {S okT : Nat → Prop} {v1 v2 v3 : Value} (H : ShV W g m st tr S okT v1 v2) (hN : Kd.N (Kd.int .i64) 3 w3 0 (fun q => S q ∧ q ≠ g) v3 st') (hB : Below 0 W w3) (hgr : W.grownBy w3 v1.ownBlock) (hat : v3.ownBlock = v1.ownBlock ∨ ∃ b, v3.ownBlock = some b ∧ W.heap.size ≤ b) :
  w3.heap[g]? = some (.cells #[.bool m, v1, v2] 192 (0, 0)) ∧ Fr W w3 S ∧ ShO (w3.setCell ⟨g, 1, none⟩ v3) g m st' tr S okT ∧ Fr W (w3.setCell ⟨g, 1, none⟩ v3) S := by
 obtain ⟨hg, h0, h1, h2, h3⟩ := H
 have hlt := qAt hg
 have hne : some g ≠ v1.ownBlock := fun e => (h1.1 g e.symm).2 rfl
 have hg3 : w3.heap[g]? = some (.cells #[.bool m, v1, v2] 192 (0, 0)) := (hgr.block g hlt hne).trans hg
 have hfr : Fr W w3 S := ⟨hB, hgr.size, fun i hi hn => hgr.block i hi (fun e => hn (h1.1 i e.symm).1)⟩
 refine ⟨hg3, hfr, ⟨v3, v2, qAx (cs := #[.bool m, v1, v2]) hg3 1 _ rfl, h0, Kd.N_far hN (fun _ hk => hk.2) _, h2, ?_⟩, Fr.set hfr (.inl h0) _⟩
 have h4 := Kd.N_after (Kd.N_mono h3 (fun q hq => show ((S q ∨ okT q) ∧ q ≠ g) ∧ some q ≠ v1.ownBlock from ⟨⟨hq.1, hq.2.1⟩, hq.2.2⟩)) hgr hat
 exact Kd.N_mono (Kd.N_far h4 (fun q hk => hk.1.2) _) (fun q hq => ⟨hq.1.1, hq.1.2, hq.2⟩)
theorem qDA {W : World} {g : Nat} {m : Bool} {st : List Int} {tr : List S204} {S okT : Nat → Prop} {v1 v2 : Value} (H : ShV W g m st tr S okT v1 v2) (y : Int) (hgd : o.guard = none) (s x : Operand)
  (ho : o.op = .call { callee := .builtin .append, args := #[s, x], argTypes := #[72, 72] }) (hs : a.eval s = v1) (hx : a.eval x = .slice (some ⟨W.heap.size, 0, none⟩) 1 1) (hfr : ∀ k, W.heap.size ≤ k → S k) (hl : st.length ≤ 2000000)
  (h : ∀ A3 c3 w3, w3.heap[g]? = some (.cells #[.bool m, v1, v2] 192 (0, 0)) → Fr W w3 S → ShO (w3.setCell ⟨g, 1, none⟩ (.slice A3 (st.length + 1) c3)) g m (st ++ [y]) tr S okT → Fr W (w3.setCell ⟨g, 1, none⟩ (.slice A3 (st.length + 1) c3)) S → wpList Try.prog ops Q rest (a.put o.dst (.slice A3 (st.length + 1) c3)) w3) :
  wpList Try.prog ops Q (o :: rest) a (W.alloc (.cells #[.int .i64 y] 3)) := by
 refine Kd.N_append (Kd.int .i64) (w0 := W) 0 hgd s x 72 3 _ 8 ho Try.underlying72 qCy rfl (by decide) (by decide) v1 st y [.int .i64 y] (fun q => S q ∧ q ≠ g) (fun _ => False) hs hx (fun _ _ => rfl) (fun _ h => h.elim) (fun k hk => ⟨hfr k hk, fun e => by have := qAt H.1; omega⟩) H.2.2.1 (Below.refl _ _) (Nat.zero_le _) (by omega) ?_
 intro v3 w3 hN hB hgr hat
 obtain ⟨h5, h5b, h6, h7⟩ := push_done H hN hB hgr hat
 obtain ⟨A3, c3, rfl⟩ := Kd.N_slice hN
 rw [show (st ++ [y]).length = st.length + 1 by simp] at *
 exact h A3 c3 w3 h5 h5b h6 h7
theorem qAW {W : World} {g : Nat} {m : Bool} {st : List Int} {tr : List S204} {S okT : Nat → Prop} {v1 v2 : Value} (H : ShV W g m st tr S okT v1 v2) (y : Int) (hw : Region.wanted o (yielded ops a.tmps) = true) (s x : Operand)
  (ho : o.op = .call { callee := .builtin .append, args := #[s, x], argTypes := #[72, 72] }) (hs : a.eval s = v1) (hx : a.eval x = .slice (some ⟨W.heap.size, 0, none⟩) 1 1) (hfr : ∀ k, W.heap.size ≤ k → S k) (hl : st.length ≤ 2000000)
  (h : ∀ A3 c3 w3, w3.heap[g]? = some (.cells #[.bool m, v1, v2] 192 (0, 0)) → Fr W w3 S → ShO (w3.setCell ⟨g, 1, none⟩ (.slice A3 (st.length + 1) c3)) g m (st ++ [y]) tr S okT → Fr W (w3.setCell ⟨g, 1, none⟩ (.slice A3 (st.length + 1) c3)) S → Kc (a.put o.dst (.slice A3 (st.length + 1) c3)) w3) :
  if Region.wanted o (yielded ops a.tmps) = true then Oper.wp Try.prog o a (W.alloc (.cells #[.int .i64 y] 3)) Kc Q else Kc (a.put o.dst undef) (W.alloc (.cells #[.int .i64 y] 3)) := by
 refine Kd.N_append_step (Kd.int .i64) (w0 := W) 0 hw s x 72 3 _ 8 ho Try.underlying72 qCy rfl (by decide) (by decide) v1 st y [.int .i64 y] (fun q => S q ∧ q ≠ g) (fun _ => False) hs hx (fun _ _ => rfl) (fun _ h => h.elim) (fun k hk => ⟨hfr k hk, fun e => by have := qAt H.1; omega⟩) H.2.2.1 (Below.refl _ _) (Nat.zero_le _) (by omega) ?_
 intro v3 w3 hN hB hgr hat
 obtain ⟨h5, h5b, h6, h7⟩ := push_done H hN hB hgr hat
 obtain ⟨A3, c3, rfl⟩ := Kd.N_slice hN
 rw [show (st ++ [y]).length = st.length + 1 by simp] at *
 exact h A3 c3 w3 h5 h5b h6 h7
end
end Q
end
section
namespace Ty1
open Go.RowKit
theorem qAv (a : Int) (w : World) (h1 : 1 ≤ a) (h2 : a ≤ 3) : Calls Try.prog 121 #[.int .i64 a] w fun e w' => e = .returned (.bool true) ∧ w = w' := by
 have hb : decide (1 ≤ a) = true := decide_eq_true h1
 have hc : decide (a ≤ 3) = true := decide_eq_true h2
 go_enter Try.func121, Try.ntmps121
 go_wp2
 go_ret
 exact ⟨rfl, rfl⟩
theorem valued_no (a : Int) (w : World) (h : a < 1 ∨ 3 < a) : Calls Try.prog 121 #[.int .i64 a] w fun e w' => e = .returned (.bool false) ∧ w = w' := by
 rcases h with h | h
 ·have hb : decide (1 ≤ a) = false := decide_eq_false (by omega)
  go_enter Try.func121, Try.ntmps121
  go_wp2
  go_ret
  exact ⟨rfl, rfl⟩
 have hb : decide (1 ≤ a) = true := decide_eq_true (by omega)
 have hc : decide (a ≤ 3) = false := decide_eq_false (by omega)
 go_enter Try.func121, Try.ntmps121
 go_wp2
 go_ret
 exact ⟨rfl, rfl⟩
theorem unary_arg (op t : Int) (w : World) (h : op < 1 ∨ 4 < op) : Calls Try.prog 136 #[.int .i64 op, .int .i64 t] w fun e w' => e = .returned (.tuple #[.int .i64 0, .int .i64 1]) ∧ w = w' := by
 rcases h with h | h
 ·have hb : decide (op < 1) = true := decide_eq_true h
  go_enter Try.func136, Try.ntmps136
  go_wp2
  go_ret2
  exact ⟨rfl, rfl⟩
 have hb : decide (op < 1) = false := decide_eq_false (by omega)
 have hc : decide (4 < op) = true := decide_eq_true h
 go_enter Try.func136, Try.ntmps136
 go_wp2
 go_ret2
 exact ⟨rfl, rfl⟩
theorem unary_type (op t : Int) (w : World) (h1 : 1 ≤ op) (h2 : op ≤ 4) (h : t < 1 ∨ 3 < t) : Calls Try.prog 136 #[.int .i64 op, .int .i64 t] w fun e w' => e = .returned (.tuple #[.int .i64 0, .int .i64 22]) ∧ w = w' := by
 have hb : decide (op < 1) = false := decide_eq_false (by omega)
 have hc : decide (4 < op) = false := decide_eq_false (by omega)
 go_enter Try.func136, Try.ntmps136
 go_wp2_with (go_at_call 121; refine (valued_no _ _ h).mono ?_; rintro e w' ⟨rfl, rfl⟩)
 go_ret2
 exact ⟨rfl, rfl⟩
theorem big_1 (w : World) : (Instr.index 222 (.agg #[.int .i64 0, .int .i64 0, .int .i64 0, .int .i64 0, .int .i64 0, .int .i64 1, .int .i64 2, .int .i64 0, .int .i64 0, .int .i64 0, .int .i64 0, .int .i64 3, .int .i64 0, .int .i64 0, .int .i64 1, .int .i64 0, .int .i64 0, .int .i64 2, .int .i64 0, .int .i64 0]) (.int .i64 1)).run Try.prog w = .ok (.agg #[.int .i64 0, .int .i64 1, .int .i64 2, .int .i64 0]) w := by kernel_rfl
theorem big_2 (w : World) : (Instr.index 222 (.agg #[.int .i64 0, .int .i64 0, .int .i64 0, .int .i64 0, .int .i64 0, .int .i64 1, .int .i64 2, .int .i64 0, .int .i64 0, .int .i64 0, .int .i64 0, .int .i64 3, .int .i64 0, .int .i64 0, .int .i64 1, .int .i64 0, .int .i64 0, .int .i64 2, .int .i64 0, .int .i64 0]) (.int .i64 2)).run Try.prog w = .ok (.agg #[.int .i64 0, .int .i64 0, .int .i64 0, .int .i64 3]) w := by kernel_rfl
theorem big_3 (w : World) : (Instr.index 222 (.agg #[.int .i64 0, .int .i64 0, .int .i64 0, .int .i64 0, .int .i64 0, .int .i64 1, .int .i64 2, .int .i64 0, .int .i64 0, .int .i64 0, .int .i64 0, .int .i64 3, .int .i64 0, .int .i64 0, .int .i64 1, .int .i64 0, .int .i64 0, .int .i64 2, .int .i64 0, .int .i64 0]) (.int .i64 3)).run Try.prog w = .ok (.agg #[.int .i64 0, .int .i64 0, .int .i64 1, .int .i64 0]) w := by kernel_rfl
theorem big_4 (w : World) : (Instr.index 222 (.agg #[.int .i64 0, .int .i64 0, .int .i64 0, .int .i64 0, .int .i64 0, .int .i64 1, .int .i64 2, .int .i64 0, .int .i64 0, .int .i64 0, .int .i64 0, .int .i64 3, .int .i64 0, .int .i64 0, .int .i64 1, .int .i64 0, .int .i64 0, .int .i64 2, .int .i64 0, .int .i64 0]) (.int .i64 4)).run Try.prog w = .ok (.agg #[.int .i64 0, .int .i64 2, .int .i64 0, .int .i64 0]) w := by kernel_rfl
theorem row_1_1 (w : World) : (Instr.index 221 (.agg #[.int .i64 0, .int .i64 1, .int .i64 2, .int .i64 0]) (.int .i64 1)).run Try.prog w = .ok (.int .i64 1) w := by kernel_rfl
theorem row_1_2 (w : World) : (Instr.index 221 (.agg #[.int .i64 0, .int .i64 1, .int .i64 2, .int .i64 0]) (.int .i64 2)).run Try.prog w = .ok (.int .i64 2) w := by kernel_rfl
theorem row_1_3 (w : World) : (Instr.index 221 (.agg #[.int .i64 0, .int .i64 1, .int .i64 2, .int .i64 0]) (.int .i64 3)).run Try.prog w = .ok (.int .i64 0) w := by kernel_rfl
theorem row_2_1 (w : World) : (Instr.index 221 (.agg #[.int .i64 0, .int .i64 0, .int .i64 0, .int .i64 3]) (.int .i64 1)).run Try.prog w = .ok (.int .i64 0) w := by kernel_rfl
theorem row_2_2 (w : World) : (Instr.index 221 (.agg #[.int .i64 0, .int .i64 0, .int .i64 0, .int .i64 3]) (.int .i64 2)).run Try.prog w = .ok (.int .i64 0) w := by kernel_rfl
theorem row_2_3 (w : World) : (Instr.index 221 (.agg #[.int .i64 0, .int .i64 0, .int .i64 0, .int .i64 3]) (.int .i64 3)).run Try.prog w = .ok (.int .i64 3) w := by kernel_rfl
theorem row_3_1 (w : World) : (Instr.index 221 (.agg #[.int .i64 0, .int .i64 0, .int .i64 1, .int .i64 0]) (.int .i64 1)).run Try.prog w = .ok (.int .i64 0) w := by kernel_rfl
theorem row_3_2 (w : World) : (Instr.index 221 (.agg #[.int .i64 0, .int .i64 0, .int .i64 1, .int .i64 0]) (.int .i64 2)).run Try.prog w = .ok (.int .i64 1) w := by kernel_rfl
theorem row_3_3 (w : World) : (Instr.index 221 (.agg #[.int .i64 0, .int .i64 0, .int .i64 1, .int .i64 0]) (.int .i64 3)).run Try.prog w = .ok (.int .i64 0) w := by kernel_rfl
theorem row_4_1 (w : World) : (Instr.index 221 (.agg #[.int .i64 0, .int .i64 2, .int .i64 0, .int .i64 0]) (.int .i64 1)).run Try.prog w = .ok (.int .i64 2) w := by kernel_rfl
theorem row_4_2 (w : World) : (Instr.index 221 (.agg #[.int .i64 0, .int .i64 2, .int .i64 0, .int .i64 0]) (.int .i64 2)).run Try.prog w = .ok (.int .i64 0) w := by kernel_rfl
theorem row_4_3 (w : World) : (Instr.index 221 (.agg #[.int .i64 0, .int .i64 2, .int .i64 0, .int .i64 0]) (.int .i64 3)).run Try.prog w = .ok (.int .i64 0) w := by kernel_rfl
theorem unary_1_1 (w : World) : Calls Try.prog 136 #[.int .i64 1, .int .i64 1] w fun e w' => e = .returned (.tuple #[.int .i64 1, .int .i64 0]) ∧ w = w' := by
 have hbig := big_1
 have hrow := row_1_1
 go_enter Try.func136, Try.ntmps136
 go_wp2_with (go_at_call 121; refine (qAv _ _ (by omega) (by omega)).mono ?_; rintro e w' ⟨rfl, rfl⟩)
 go_ret2
 exact ⟨rfl, rfl⟩
theorem unary_1_2 (w : World) : Calls Try.prog 136 #[.int .i64 1, .int .i64 2] w fun e w' => e = .returned (.tuple #[.int .i64 2, .int .i64 0]) ∧ w = w' := by
 have hbig := big_1
 have hrow := row_1_2
 go_enter Try.func136, Try.ntmps136
 go_wp2_with (go_at_call 121; refine (qAv _ _ (by omega) (by omega)).mono ?_; rintro e w' ⟨rfl, rfl⟩)
 go_ret2
 exact ⟨rfl, rfl⟩
theorem unary_1_3 (w : World) : Calls Try.prog 136 #[.int .i64 1, .int .i64 3] w fun e w' => e = .returned (.tuple #[.int .i64 0, .int .i64 22]) ∧ w = w' := by
 have hbig := big_1
 have hrow := row_1_3
 go_enter Try.func136, Try.ntmps136
 go_wp2_with (go_at_call 121; refine (qAv _ _ (by omega) (by omega)).mono ?_; rintro e w' ⟨rfl, rfl⟩)
 go_ret2
 exact ⟨rfl, rfl⟩
theorem unary_2_1 (w : World) : Calls Try.prog 136 #[.int .i64 2, .int .i64 1] w fun e w' => e = .returned (.tuple #[.int .i64 0, .int .i64 22]) ∧ w = w' := by
 have hbig := big_2
 have hrow := row_2_1
 go_enter Try.func136, Try.ntmps136
 go_wp2_with (go_at_call 121; refine (qAv _ _ (by omega) (by omega)).mono ?_; rintro e w' ⟨rfl, rfl⟩)
 go_ret2
 exact ⟨rfl, rfl⟩
theorem unary_2_2 (w : World) : Calls Try.prog 136 #[.int .i64 2, .int .i64 2] w fun e w' => e = .returned (.tuple #[.int .i64 0, .int .i64 22]) ∧ w = w' := by
 have hbig := big_2
 have hrow := row_2_2
 go_enter Try.func136, Try.ntmps136
 go_wp2_with (go_at_call 121; refine (qAv _ _ (by omega) (by omega)).mono ?_; rintro e w' ⟨rfl, rfl⟩)
 go_ret2
 exact ⟨rfl, rfl⟩
theorem unary_2_3 (w : World) : Calls Try.prog 136 #[.int .i64 2, .int .i64 3] w fun e w' => e = .returned (.tuple #[.int .i64 3, .int .i64 0]) ∧ w = w' := by
 have hbig := big_2
 have hrow := row_2_3
 go_enter Try.func136, Try.ntmps136
 go_wp2_with (go_at_call 121; refine (qAv _ _ (by omega) (by omega)).mono ?_; rintro e w' ⟨rfl, rfl⟩)
 go_ret2
 exact ⟨rfl, rfl⟩
theorem unary_3_1 (w : World) : Calls Try.prog 136 #[.int .i64 3, .int .i64 1] w fun e w' => e = .returned (.tuple #[.int .i64 0, .int .i64 22]) ∧ w = w' := by
 have hbig := big_3
 have hrow := row_3_1
 go_enter Try.func136, Try.ntmps136
 go_wp2_with (go_at_call 121; refine (qAv _ _ (by omega) (by omega)).mono ?_; rintro e w' ⟨rfl, rfl⟩)
 go_ret2
 exact ⟨rfl, rfl⟩
theorem unary_3_2 (w : World) : Calls Try.prog 136 #[.int .i64 3, .int .i64 2] w fun e w' => e = .returned (.tuple #[.int .i64 1, .int .i64 0]) ∧ w = w' := by
 have hbig := big_3
 have hrow := row_3_2
 go_enter Try.func136, Try.ntmps136
 go_wp2_with (go_at_call 121; refine (qAv _ _ (by omega) (by omega)).mono ?_; rintro e w' ⟨rfl, rfl⟩)
 go_ret2
 exact ⟨rfl, rfl⟩
theorem unary_3_3 (w : World) : Calls Try.prog 136 #[.int .i64 3, .int .i64 3] w fun e w' => e = .returned (.tuple #[.int .i64 0, .int .i64 22]) ∧ w = w' := by
 have hbig := big_3
 have hrow := row_3_3
 go_enter Try.func136, Try.ntmps136
 go_wp2_with (go_at_call 121; refine (qAv _ _ (by omega) (by omega)).mono ?_; rintro e w' ⟨rfl, rfl⟩)
 go_ret2
 exact ⟨rfl, rfl⟩
theorem unary_4_1 (w : World) : Calls Try.prog 136 #[.int .i64 4, .int .i64 1] w fun e w' => e = .returned (.tuple #[.int .i64 2, .int .i64 0]) ∧ w = w' := by
 have hbig := big_4
 have hrow := row_4_1
 go_enter Try.func136, Try.ntmps136
 go_wp2_with (go_at_call 121; refine (qAv _ _ (by omega) (by omega)).mono ?_; rintro e w' ⟨rfl, rfl⟩)
 go_ret2
 exact ⟨rfl, rfl⟩
theorem unary_4_2 (w : World) : Calls Try.prog 136 #[.int .i64 4, .int .i64 2] w fun e w' => e = .returned (.tuple #[.int .i64 0, .int .i64 22]) ∧ w = w' := by
 have hbig := big_4
 have hrow := row_4_2
 go_enter Try.func136, Try.ntmps136
 go_wp2_with (go_at_call 121; refine (qAv _ _ (by omega) (by omega)).mono ?_; rintro e w' ⟨rfl, rfl⟩)
 go_ret2
 exact ⟨rfl, rfl⟩
theorem unary_4_3 (w : World) : Calls Try.prog 136 #[.int .i64 4, .int .i64 3] w fun e w' => e = .returned (.tuple #[.int .i64 0, .int .i64 22]) ∧ w = w' := by
 have hbig := big_4
 have hrow := row_4_3
 go_enter Try.func136, Try.ntmps136
 go_wp2_with (go_at_call 121; refine (qAv _ _ (by omega) (by omega)).mono ?_; rintro e w' ⟨rfl, rfl⟩)
 go_ret2
 exact ⟨rfl, rfl⟩
def unary (op t : Int) : Int × Int :=
 if op < 1 ∨ 4 < op then (0, 1)
 else if t < 1 ∨ 3 < t then (0, 22)
 else if op = 1 ∧ t = 1 then (1, 0)
 else if op = 1 ∧ t = 2 then (2, 0)
 else if op = 2 ∧ t = 3 then (3, 0)
 else if op = 3 ∧ t = 2 then (1, 0)
 else if op = 4 ∧ t = 1 then (2, 0)
 else (0, 22)
theorem unary_any (op t : Int) (w : World) : Calls Try.prog 136 #[.int .i64 op, .int .i64 t] w fun e w' => e = .returned (.tuple #[.int .i64 (unary op t).1, .int .i64 (unary op t).2]) ∧ w = w' := by
 by_cases h : op < 1 ∨ 4 < op
 ·have e : unary op t = (0, 1) := by unfold unary; rw [if_pos h]
  rw [e]
  exact unary_arg op t w h
 by_cases k : t < 1 ∨ 3 < t
 ·have e : unary op t = (0, 22) := by unfold unary; rw [if_neg h, if_pos k]
  rw [e]
  exact unary_type op t w (by omega) (by omega) k
 have ho : op = 1 ∨ op = 2 ∨ op = 3 ∨ op = 4 := by omega
 have ht : t = 1 ∨ t = 2 ∨ t = 3 := by omega
 rcases ho with rfl | rfl | rfl | rfl <;> rcases ht with rfl | rfl | rfl
 ·exact unary_1_1 w
 ·exact unary_1_2 w
 ·exact unary_1_3 w
 ·exact unary_2_1 w
 ·exact unary_2_2 w
 ·exact unary_2_3 w
 ·exact unary_3_1 w
 ·exact unary_3_2 w
 ·exact unary_3_3 w
 ·exact unary_4_1 w
 ·exact unary_4_2 w
 exact unary_4_3 w
end Ty1
end
section
namespace Ty2
open Go.RowKit Ty1
def binary (op a b : Int) : Int × Int :=
 if op < 1 ∨ 13 < op then (0, 1)
 else if a ≠ b ∨ (a < 1 ∨ 3 < a) then (0, 22)
 else if op ≤ 4 then (if a = 3 then (0, 22) else (a, 0))
 else if op = 5 then (if a = 1 then (1, 0) else (0, 22))
 else if op ≤ 7 then (3, 0)
 else if op ≤ 11 then (if a = 3 then (0, 22) else (3, 0))
 else (if a = 3 then (3, 0) else (0, 22))
theorem binary_arg (op a b : Int) (w : World) (h : op < 1 ∨ 13 < op) : Calls Try.prog 137 #[.int .i64 op, .int .i64 a, .int .i64 b] w fun e w' => e = .returned (.tuple #[.int .i64 0, .int .i64 1]) ∧ w = w' := by
 rcases h with h | h
 ·have hb : decide (op < 1) = true := decide_eq_true h
  go_enter Try.func137, Try.ntmps137
  go_wp2
  go_ret2
  exact ⟨rfl, rfl⟩
 have hb : decide (op < 1) = false := decide_eq_false (by omega)
 have hc : decide (13 < op) = true := decide_eq_true h
 go_enter Try.func137, Try.ntmps137
 go_wp2
 go_ret2
 exact ⟨rfl, rfl⟩
theorem binary_ne (op a b : Int) (w : World) (h1 : 1 ≤ op) (h2 : op ≤ 13) (h : a ≠ b) : Calls Try.prog 137 #[.int .i64 op, .int .i64 a, .int .i64 b] w fun e w' => e = .returned (.tuple #[.int .i64 0, .int .i64 22]) ∧ w = w' := by
 have hb : decide (op < 1) = false := decide_eq_false (by omega)
 have hc : decide (13 < op) = false := decide_eq_false (by omega)
 have hd : (a != b) = true := bne_iff_ne.mpr h
 go_enter Try.func137, Try.ntmps137
 go_wp2
 go_ret2
 exact ⟨rfl, rfl⟩
theorem binary_type (op a : Int) (w : World) (h1 : 1 ≤ op) (h2 : op ≤ 13) (h : a < 1 ∨ 3 < a) : Calls Try.prog 137 #[.int .i64 op, .int .i64 a, .int .i64 a] w fun e w' => e = .returned (.tuple #[.int .i64 0, .int .i64 22]) ∧ w = w' := by
 have hb : decide (op < 1) = false := decide_eq_false (by omega)
 have hc : decide (13 < op) = false := decide_eq_false (by omega)
 have hd : (a != a) = false := by simp
 go_enter Try.func137, Try.ntmps137
 go_wp2_with (go_at_call 121; refine (valued_no _ _ h).mono ?_; rintro e w' ⟨rfl, rfl⟩)
 go_ret2
 exact ⟨rfl, rfl⟩
theorem binary_1_1 (w : World) : Calls Try.prog 137 #[.int .i64 1, .int .i64 1, .int .i64 1] w fun e w' => e = .returned (.tuple #[.int .i64 1, .int .i64 0]) ∧ w = w' := by
 go_enter Try.func137, Try.ntmps137
 go_wp2_with (go_at_call 121; refine (qAv _ _ (by omega) (by omega)).mono ?_; rintro e w' ⟨rfl, rfl⟩)
 go_ret2
 exact ⟨rfl, rfl⟩
theorem binary_1_2 (w : World) : Calls Try.prog 137 #[.int .i64 1, .int .i64 2, .int .i64 2] w fun e w' => e = .returned (.tuple #[.int .i64 2, .int .i64 0]) ∧ w = w' := by
 go_enter Try.func137, Try.ntmps137
 go_wp2_with (go_at_call 121; refine (qAv _ _ (by omega) (by omega)).mono ?_; rintro e w' ⟨rfl, rfl⟩)
 go_ret2
 exact ⟨rfl, rfl⟩
theorem binary_1_3 (w : World) : Calls Try.prog 137 #[.int .i64 1, .int .i64 3, .int .i64 3] w fun e w' => e = .returned (.tuple #[.int .i64 0, .int .i64 22]) ∧ w = w' := by
 go_enter Try.func137, Try.ntmps137
 go_wp2_with (go_at_call 121; refine (qAv _ _ (by omega) (by omega)).mono ?_; rintro e w' ⟨rfl, rfl⟩)
 go_ret2
 exact ⟨rfl, rfl⟩
theorem binary_2_1 (w : World) : Calls Try.prog 137 #[.int .i64 2, .int .i64 1, .int .i64 1] w fun e w' => e = .returned (.tuple #[.int .i64 1, .int .i64 0]) ∧ w = w' := by
 go_enter Try.func137, Try.ntmps137
 go_wp2_with (go_at_call 121; refine (qAv _ _ (by omega) (by omega)).mono ?_; rintro e w' ⟨rfl, rfl⟩)
 go_ret2
 exact ⟨rfl, rfl⟩
theorem binary_2_2 (w : World) : Calls Try.prog 137 #[.int .i64 2, .int .i64 2, .int .i64 2] w fun e w' => e = .returned (.tuple #[.int .i64 2, .int .i64 0]) ∧ w = w' := by
 go_enter Try.func137, Try.ntmps137
 go_wp2_with (go_at_call 121; refine (qAv _ _ (by omega) (by omega)).mono ?_; rintro e w' ⟨rfl, rfl⟩)
 go_ret2
 exact ⟨rfl, rfl⟩
theorem binary_2_3 (w : World) : Calls Try.prog 137 #[.int .i64 2, .int .i64 3, .int .i64 3] w fun e w' => e = .returned (.tuple #[.int .i64 0, .int .i64 22]) ∧ w = w' := by
 go_enter Try.func137, Try.ntmps137
 go_wp2_with (go_at_call 121; refine (qAv _ _ (by omega) (by omega)).mono ?_; rintro e w' ⟨rfl, rfl⟩)
 go_ret2
 exact ⟨rfl, rfl⟩
theorem binary_3_1 (w : World) : Calls Try.prog 137 #[.int .i64 3, .int .i64 1, .int .i64 1] w fun e w' => e = .returned (.tuple #[.int .i64 1, .int .i64 0]) ∧ w = w' := by
 go_enter Try.func137, Try.ntmps137
 go_wp2_with (go_at_call 121; refine (qAv _ _ (by omega) (by omega)).mono ?_; rintro e w' ⟨rfl, rfl⟩)
 go_ret2
 exact ⟨rfl, rfl⟩
theorem binary_3_2 (w : World) : Calls Try.prog 137 #[.int .i64 3, .int .i64 2, .int .i64 2] w fun e w' => e = .returned (.tuple #[.int .i64 2, .int .i64 0]) ∧ w = w' := by
 go_enter Try.func137, Try.ntmps137
 go_wp2_with (go_at_call 121; refine (qAv _ _ (by omega) (by omega)).mono ?_; rintro e w' ⟨rfl, rfl⟩)
 go_ret2
 exact ⟨rfl, rfl⟩
theorem binary_3_3 (w : World) : Calls Try.prog 137 #[.int .i64 3, .int .i64 3, .int .i64 3] w fun e w' => e = .returned (.tuple #[.int .i64 0, .int .i64 22]) ∧ w = w' := by
 go_enter Try.func137, Try.ntmps137
 go_wp2_with (go_at_call 121; refine (qAv _ _ (by omega) (by omega)).mono ?_; rintro e w' ⟨rfl, rfl⟩)
 go_ret2
 exact ⟨rfl, rfl⟩
theorem binary_4_1 (w : World) : Calls Try.prog 137 #[.int .i64 4, .int .i64 1, .int .i64 1] w fun e w' => e = .returned (.tuple #[.int .i64 1, .int .i64 0]) ∧ w = w' := by
 go_enter Try.func137, Try.ntmps137
 go_wp2_with (go_at_call 121; refine (qAv _ _ (by omega) (by omega)).mono ?_; rintro e w' ⟨rfl, rfl⟩)
 go_ret2
 exact ⟨rfl, rfl⟩
theorem binary_4_2 (w : World) : Calls Try.prog 137 #[.int .i64 4, .int .i64 2, .int .i64 2] w fun e w' => e = .returned (.tuple #[.int .i64 2, .int .i64 0]) ∧ w = w' := by
 go_enter Try.func137, Try.ntmps137
 go_wp2_with (go_at_call 121; refine (qAv _ _ (by omega) (by omega)).mono ?_; rintro e w' ⟨rfl, rfl⟩)
 go_ret2
 exact ⟨rfl, rfl⟩
theorem binary_4_3 (w : World) : Calls Try.prog 137 #[.int .i64 4, .int .i64 3, .int .i64 3] w fun e w' => e = .returned (.tuple #[.int .i64 0, .int .i64 22]) ∧ w = w' := by
 go_enter Try.func137, Try.ntmps137
 go_wp2_with (go_at_call 121; refine (qAv _ _ (by omega) (by omega)).mono ?_; rintro e w' ⟨rfl, rfl⟩)
 go_ret2
 exact ⟨rfl, rfl⟩
theorem binary_5_1 (w : World) : Calls Try.prog 137 #[.int .i64 5, .int .i64 1, .int .i64 1] w fun e w' => e = .returned (.tuple #[.int .i64 1, .int .i64 0]) ∧ w = w' := by
 go_enter Try.func137, Try.ntmps137
 go_wp2_with (go_at_call 121; refine (qAv _ _ (by omega) (by omega)).mono ?_; rintro e w' ⟨rfl, rfl⟩)
 go_ret2
 exact ⟨rfl, rfl⟩
theorem binary_5_2 (w : World) : Calls Try.prog 137 #[.int .i64 5, .int .i64 2, .int .i64 2] w fun e w' => e = .returned (.tuple #[.int .i64 0, .int .i64 22]) ∧ w = w' := by
 go_enter Try.func137, Try.ntmps137
 go_wp2_with (go_at_call 121; refine (qAv _ _ (by omega) (by omega)).mono ?_; rintro e w' ⟨rfl, rfl⟩)
 go_ret2
 exact ⟨rfl, rfl⟩
theorem binary_5_3 (w : World) : Calls Try.prog 137 #[.int .i64 5, .int .i64 3, .int .i64 3] w fun e w' => e = .returned (.tuple #[.int .i64 0, .int .i64 22]) ∧ w = w' := by
 go_enter Try.func137, Try.ntmps137
 go_wp2_with (go_at_call 121; refine (qAv _ _ (by omega) (by omega)).mono ?_; rintro e w' ⟨rfl, rfl⟩)
 go_ret2
 exact ⟨rfl, rfl⟩
theorem binary_6_1 (w : World) : Calls Try.prog 137 #[.int .i64 6, .int .i64 1, .int .i64 1] w fun e w' => e = .returned (.tuple #[.int .i64 3, .int .i64 0]) ∧ w = w' := by
 go_enter Try.func137, Try.ntmps137
 go_wp2_with (go_at_call 121; refine (qAv _ _ (by omega) (by omega)).mono ?_; rintro e w' ⟨rfl, rfl⟩)
 go_ret2
 exact ⟨rfl, rfl⟩
theorem binary_6_2 (w : World) : Calls Try.prog 137 #[.int .i64 6, .int .i64 2, .int .i64 2] w fun e w' => e = .returned (.tuple #[.int .i64 3, .int .i64 0]) ∧ w = w' := by
 go_enter Try.func137, Try.ntmps137
 go_wp2_with (go_at_call 121; refine (qAv _ _ (by omega) (by omega)).mono ?_; rintro e w' ⟨rfl, rfl⟩)
 go_ret2
 exact ⟨rfl, rfl⟩
theorem binary_6_3 (w : World) : Calls Try.prog 137 #[.int .i64 6, .int .i64 3, .int .i64 3] w fun e w' => e = .returned (.tuple #[.int .i64 3, .int .i64 0]) ∧ w = w' := by
 go_enter Try.func137, Try.ntmps137
 go_wp2_with (go_at_call 121; refine (qAv _ _ (by omega) (by omega)).mono ?_; rintro e w' ⟨rfl, rfl⟩)
 go_ret2
 exact ⟨rfl, rfl⟩
theorem binary_7_1 (w : World) : Calls Try.prog 137 #[.int .i64 7, .int .i64 1, .int .i64 1] w fun e w' => e = .returned (.tuple #[.int .i64 3, .int .i64 0]) ∧ w = w' := by
 go_enter Try.func137, Try.ntmps137
 go_wp2_with (go_at_call 121; refine (qAv _ _ (by omega) (by omega)).mono ?_; rintro e w' ⟨rfl, rfl⟩)
 go_ret2
 exact ⟨rfl, rfl⟩
theorem binary_7_2 (w : World) : Calls Try.prog 137 #[.int .i64 7, .int .i64 2, .int .i64 2] w fun e w' => e = .returned (.tuple #[.int .i64 3, .int .i64 0]) ∧ w = w' := by
 go_enter Try.func137, Try.ntmps137
 go_wp2_with (go_at_call 121; refine (qAv _ _ (by omega) (by omega)).mono ?_; rintro e w' ⟨rfl, rfl⟩)
 go_ret2
 exact ⟨rfl, rfl⟩
theorem binary_7_3 (w : World) : Calls Try.prog 137 #[.int .i64 7, .int .i64 3, .int .i64 3] w fun e w' => e = .returned (.tuple #[.int .i64 3, .int .i64 0]) ∧ w = w' := by
 go_enter Try.func137, Try.ntmps137
 go_wp2_with (go_at_call 121; refine (qAv _ _ (by omega) (by omega)).mono ?_; rintro e w' ⟨rfl, rfl⟩)
 go_ret2
 exact ⟨rfl, rfl⟩
theorem binary_8_1 (w : World) : Calls Try.prog 137 #[.int .i64 8, .int .i64 1, .int .i64 1] w fun e w' => e = .returned (.tuple #[.int .i64 3, .int .i64 0]) ∧ w = w' := by
 go_enter Try.func137, Try.ntmps137
 go_wp2_with (go_at_call 121; refine (qAv _ _ (by omega) (by omega)).mono ?_; rintro e w' ⟨rfl, rfl⟩)
 go_ret2
 exact ⟨rfl, rfl⟩
theorem binary_8_2 (w : World) : Calls Try.prog 137 #[.int .i64 8, .int .i64 2, .int .i64 2] w fun e w' => e = .returned (.tuple #[.int .i64 3, .int .i64 0]) ∧ w = w' := by
 go_enter Try.func137, Try.ntmps137
 go_wp2_with (go_at_call 121; refine (qAv _ _ (by omega) (by omega)).mono ?_; rintro e w' ⟨rfl, rfl⟩)
 go_ret2
 exact ⟨rfl, rfl⟩
theorem binary_8_3 (w : World) : Calls Try.prog 137 #[.int .i64 8, .int .i64 3, .int .i64 3] w fun e w' => e = .returned (.tuple #[.int .i64 0, .int .i64 22]) ∧ w = w' := by
 go_enter Try.func137, Try.ntmps137
 go_wp2_with (go_at_call 121; refine (qAv _ _ (by omega) (by omega)).mono ?_; rintro e w' ⟨rfl, rfl⟩)
 go_ret2
 exact ⟨rfl, rfl⟩
theorem binary_9_1 (w : World) : Calls Try.prog 137 #[.int .i64 9, .int .i64 1, .int .i64 1] w fun e w' => e = .returned (.tuple #[.int .i64 3, .int .i64 0]) ∧ w = w' := by
 go_enter Try.func137, Try.ntmps137
 go_wp2_with (go_at_call 121; refine (qAv _ _ (by omega) (by omega)).mono ?_; rintro e w' ⟨rfl, rfl⟩)
 go_ret2
 exact ⟨rfl, rfl⟩
theorem binary_9_2 (w : World) : Calls Try.prog 137 #[.int .i64 9, .int .i64 2, .int .i64 2] w fun e w' => e = .returned (.tuple #[.int .i64 3, .int .i64 0]) ∧ w = w' := by
 go_enter Try.func137, Try.ntmps137
 go_wp2_with (go_at_call 121; refine (qAv _ _ (by omega) (by omega)).mono ?_; rintro e w' ⟨rfl, rfl⟩)
 go_ret2
 exact ⟨rfl, rfl⟩
theorem binary_9_3 (w : World) : Calls Try.prog 137 #[.int .i64 9, .int .i64 3, .int .i64 3] w fun e w' => e = .returned (.tuple #[.int .i64 0, .int .i64 22]) ∧ w = w' := by
 go_enter Try.func137, Try.ntmps137
 go_wp2_with (go_at_call 121; refine (qAv _ _ (by omega) (by omega)).mono ?_; rintro e w' ⟨rfl, rfl⟩)
 go_ret2
 exact ⟨rfl, rfl⟩
theorem binary_10_1 (w : World) : Calls Try.prog 137 #[.int .i64 10, .int .i64 1, .int .i64 1] w fun e w' => e = .returned (.tuple #[.int .i64 3, .int .i64 0]) ∧ w = w' := by
 go_enter Try.func137, Try.ntmps137
 go_wp2_with (go_at_call 121; refine (qAv _ _ (by omega) (by omega)).mono ?_; rintro e w' ⟨rfl, rfl⟩)
 go_ret2
 exact ⟨rfl, rfl⟩
theorem binary_10_2 (w : World) : Calls Try.prog 137 #[.int .i64 10, .int .i64 2, .int .i64 2] w fun e w' => e = .returned (.tuple #[.int .i64 3, .int .i64 0]) ∧ w = w' := by
 go_enter Try.func137, Try.ntmps137
 go_wp2_with (go_at_call 121; refine (qAv _ _ (by omega) (by omega)).mono ?_; rintro e w' ⟨rfl, rfl⟩)
 go_ret2
 exact ⟨rfl, rfl⟩
theorem binary_10_3 (w : World) : Calls Try.prog 137 #[.int .i64 10, .int .i64 3, .int .i64 3] w fun e w' => e = .returned (.tuple #[.int .i64 0, .int .i64 22]) ∧ w = w' := by
 go_enter Try.func137, Try.ntmps137
 go_wp2_with (go_at_call 121; refine (qAv _ _ (by omega) (by omega)).mono ?_; rintro e w' ⟨rfl, rfl⟩)
 go_ret2
 exact ⟨rfl, rfl⟩
theorem binary_11_1 (w : World) : Calls Try.prog 137 #[.int .i64 11, .int .i64 1, .int .i64 1] w fun e w' => e = .returned (.tuple #[.int .i64 3, .int .i64 0]) ∧ w = w' := by
 go_enter Try.func137, Try.ntmps137
 go_wp2_with (go_at_call 121; refine (qAv _ _ (by omega) (by omega)).mono ?_; rintro e w' ⟨rfl, rfl⟩)
 go_ret2
 exact ⟨rfl, rfl⟩
theorem binary_11_2 (w : World) : Calls Try.prog 137 #[.int .i64 11, .int .i64 2, .int .i64 2] w fun e w' => e = .returned (.tuple #[.int .i64 3, .int .i64 0]) ∧ w = w' := by
 go_enter Try.func137, Try.ntmps137
 go_wp2_with (go_at_call 121; refine (qAv _ _ (by omega) (by omega)).mono ?_; rintro e w' ⟨rfl, rfl⟩)
 go_ret2
 exact ⟨rfl, rfl⟩
theorem binary_11_3 (w : World) : Calls Try.prog 137 #[.int .i64 11, .int .i64 3, .int .i64 3] w fun e w' => e = .returned (.tuple #[.int .i64 0, .int .i64 22]) ∧ w = w' := by
 go_enter Try.func137, Try.ntmps137
 go_wp2_with (go_at_call 121; refine (qAv _ _ (by omega) (by omega)).mono ?_; rintro e w' ⟨rfl, rfl⟩)
 go_ret2
 exact ⟨rfl, rfl⟩
theorem binary_12_1 (w : World) : Calls Try.prog 137 #[.int .i64 12, .int .i64 1, .int .i64 1] w fun e w' => e = .returned (.tuple #[.int .i64 0, .int .i64 22]) ∧ w = w' := by
 go_enter Try.func137, Try.ntmps137
 go_wp2_with (go_at_call 121; refine (qAv _ _ (by omega) (by omega)).mono ?_; rintro e w' ⟨rfl, rfl⟩)
 go_ret2
 exact ⟨rfl, rfl⟩
theorem binary_12_2 (w : World) : Calls Try.prog 137 #[.int .i64 12, .int .i64 2, .int .i64 2] w fun e w' => e = .returned (.tuple #[.int .i64 0, .int .i64 22]) ∧ w = w' := by
 go_enter Try.func137, Try.ntmps137
 go_wp2_with (go_at_call 121; refine (qAv _ _ (by omega) (by omega)).mono ?_; rintro e w' ⟨rfl, rfl⟩)
 go_ret2
 exact ⟨rfl, rfl⟩
theorem binary_12_3 (w : World) : Calls Try.prog 137 #[.int .i64 12, .int .i64 3, .int .i64 3] w fun e w' => e = .returned (.tuple #[.int .i64 3, .int .i64 0]) ∧ w = w' := by
 go_enter Try.func137, Try.ntmps137
 go_wp2_with (go_at_call 121; refine (qAv _ _ (by omega) (by omega)).mono ?_; rintro e w' ⟨rfl, rfl⟩)
 go_ret2
 exact ⟨rfl, rfl⟩
theorem binary_13_1 (w : World) : Calls Try.prog 137 #[.int .i64 13, .int .i64 1, .int .i64 1] w fun e w' => e = .returned (.tuple #[.int .i64 0, .int .i64 22]) ∧ w = w' := by
 go_enter Try.func137, Try.ntmps137
 go_wp2_with (go_at_call 121; refine (qAv _ _ (by omega) (by omega)).mono ?_; rintro e w' ⟨rfl, rfl⟩)
 go_ret2
 exact ⟨rfl, rfl⟩
theorem binary_13_2 (w : World) : Calls Try.prog 137 #[.int .i64 13, .int .i64 2, .int .i64 2] w fun e w' => e = .returned (.tuple #[.int .i64 0, .int .i64 22]) ∧ w = w' := by
 go_enter Try.func137, Try.ntmps137
 go_wp2_with (go_at_call 121; refine (qAv _ _ (by omega) (by omega)).mono ?_; rintro e w' ⟨rfl, rfl⟩)
 go_ret2
 exact ⟨rfl, rfl⟩
theorem binary_13_3 (w : World) : Calls Try.prog 137 #[.int .i64 13, .int .i64 3, .int .i64 3] w fun e w' => e = .returned (.tuple #[.int .i64 3, .int .i64 0]) ∧ w = w' := by
 go_enter Try.func137, Try.ntmps137
 go_wp2_with (go_at_call 121; refine (qAv _ _ (by omega) (by omega)).mono ?_; rintro e w' ⟨rfl, rfl⟩)
 go_ret2
 exact ⟨rfl, rfl⟩
theorem binary_any (op a b : Int) (w : World) : Calls Try.prog 137 #[.int .i64 op, .int .i64 a, .int .i64 b] w fun e w' => e = .returned (.tuple #[.int .i64 (binary op a b).1, .int .i64 (binary op a b).2]) ∧ w = w' := by
 by_cases h : op < 1 ∨ 13 < op
 ·have e : binary op a b = (0, 1) := by unfold binary; rw [if_pos h]
  rw [e]
  exact binary_arg op a b w h
 by_cases hne : a ≠ b
 ·have e : binary op a b = (0, 22) := by unfold binary; rw [if_neg h, if_pos (Or.inl hne)]
  rw [e]
  exact binary_ne op a b w (by omega) (by omega) hne
 obtain rfl : a = b := by omega
 by_cases k : a < 1 ∨ 3 < a
 ·have e : binary op a a = (0, 22) := by unfold binary; rw [if_neg h, if_pos (Or.inr k)]
  rw [e]
  exact binary_type op a w (by omega) (by omega) k
 have ho : op = 1 ∨ op = 2 ∨ op = 3 ∨ op = 4 ∨ op = 5 ∨ op = 6 ∨ op = 7 ∨ op = 8 ∨ op = 9 ∨ op = 10 ∨ op = 11 ∨ op = 12 ∨ op = 13 := by omega
 have ht : a = 1 ∨ a = 2 ∨ a = 3 := by omega
 rcases ho with rfl | rfl | rfl | rfl | rfl | rfl | rfl | rfl | rfl | rfl | rfl | rfl | rfl <;> rcases ht with rfl | rfl | rfl
 ·exact binary_1_1 w
 ·exact binary_1_2 w
 ·exact binary_1_3 w
 ·exact binary_2_1 w
 ·exact binary_2_2 w
 ·exact binary_2_3 w
 ·exact binary_3_1 w
 ·exact binary_3_2 w
 ·exact binary_3_3 w
 ·exact binary_4_1 w
 ·exact binary_4_2 w
 ·exact binary_4_3 w
 ·exact binary_5_1 w
 ·exact binary_5_2 w
 ·exact binary_5_3 w
 ·exact binary_6_1 w
 ·exact binary_6_2 w
 ·exact binary_6_3 w
 ·exact binary_7_1 w
 ·exact binary_7_2 w
 ·exact binary_7_3 w
 ·exact binary_8_1 w
 ·exact binary_8_2 w
 ·exact binary_8_3 w
 ·exact binary_9_1 w
 ·exact binary_9_2 w
 ·exact binary_9_3 w
 ·exact binary_10_1 w
 ·exact binary_10_2 w
 ·exact binary_10_3 w
 ·exact binary_11_1 w
 ·exact binary_11_2 w
 ·exact binary_11_3 w
 ·exact binary_12_1 w
 ·exact binary_12_2 w
 ·exact binary_12_3 w
 ·exact binary_13_1 w
 ·exact binary_13_2 w
 exact binary_13_3 w
end Ty2
end
section
namespace Q
open Go.RowKit YA YC YB
def qEn (op n : Int) (st : List Int) : Bool × List Int :=
 if st.getLast?.isSome = true then
  if op == 7 then
   if st.dropLast.getLast?.isSome = true then ((Ty2.binary n (st.dropLast.getLast?.getD 0) (st.getLast?.getD 0)).2 == 0, st.dropLast.dropLast ++ [(Ty2.binary n (st.dropLast.getLast?.getD 0) (st.getLast?.getD 0)).1])
   else (false, st.dropLast.dropLast)
  else ((Ty1.unary n (st.getLast?.getD 0)).2 == 0, st.dropLast ++ [(Ty1.unary n (st.getLast?.getD 0)).1])
 else (false, st.dropLast)
theorem operate_o {g : Nat} {m : Bool} {st : List Int} {tr : List S204} {S okT : Nat → Prop} {W : World} (op n ty bb : Int) (H : ShO W g m st tr S okT) (hl : st.length ≤ 2000000) (hfr : ∀ k, W.heap.size ≤ k → S k) :
  Calls Try.prog 132 #[.agg #[.int .i64 op, .int .i64 n, .int .i64 ty, .int .u64 bb], .pointer (some ⟨g, 0, none⟩)] W fun e w' => e = .returned (.bool (qEn op n st).1) ∧ ShO w' g m (qEn op n st).2 tr S okT ∧ Fr W w' S := by
 obtain ⟨x1, hx1⟩ : ∃ x, x = st.getLast?.getD 0 := ⟨_, rfl⟩
 obtain ⟨b1, hb1⟩ : ∃ b, b = st.getLast?.isSome := ⟨_, rfl⟩
 obtain ⟨st1, hst1⟩ : ∃ sd, sd = st.dropLast := ⟨_, rfl⟩
 obtain ⟨x2, hx2⟩ : ∃ x, x = st1.getLast?.getD 0 := ⟨_, rfl⟩
 obtain ⟨b2, hb2⟩ : ∃ b, b = st1.getLast?.isSome := ⟨_, rfl⟩
 obtain ⟨st2, hst2⟩ : ∃ sd, sd = st1.dropLast := ⟨_, rfl⟩
 obtain ⟨ut, hut⟩ : ∃ t, t = (Ty1.unary n x1).1 := ⟨_, rfl⟩
 obtain ⟨ue, hue⟩ : ∃ t, t = (Ty1.unary n x1).2 := ⟨_, rfl⟩
 obtain ⟨bt, hbt⟩ : ∃ t, t = (Ty2.binary n x2 x1).1 := ⟨_, rfl⟩
 obtain ⟨be, hbe⟩ : ∃ t, t = (Ty2.binary n x2 x1).2 := ⟨_, rfl⟩
 obtain ⟨rr, hrr⟩ : ∃ rr, rr = qEn op n st := ⟨_, rfl⟩
 have hr : qEn op n st = if b1 = true then (if op == 7 then (if b2 = true then (be == 0, st2 ++ [bt]) else (false, st2)) else (ue == 0, st1 ++ [ut])) else (false, st1) := by
  rw [hbe, hbt, hue, hut, hst2, hb2, hx2, hst1, hb1, hx1]; rfl
 rw [← hrr]
 rw [← hrr] at hr
 have HRR := am hr
 clear hr hrr
 have h1 : st1.length ≤ 2000000 := by rw [hst1]; simp; omega
 have h2 : st2.length ≤ 2000000 := by rw [hst2]; simp; omega
 obtain ⟨S1, hS1⟩ : ∃ S1, S1 = (fun q => (S q ∧ q < W.heap.size) ∨ (W.alloc (.cells #[.int .i64 op, .int .i64 n, .int .i64 ty, .int .u64 bb] 115)).heap.size ≤ q) := ⟨_, rfl⟩
 have hn1 : ¬ S1 W.heap.size := by rw [hS1]; simp
 have hf1 : ∀ k, W.heap.size + 1 ≤ k → S1 k := by rw [hS1]; intro k hk; simp; omega
 have hs1 : ∀ k, S1 k → S k := by rw [hS1]; intro k hk; simp at hk; rcases hk with h | h; exact h.1; exact hfr k (by omega)
 have HC1 : qAb (Calls Try.prog 131 #[.pointer (some ⟨g, 0, none⟩)] (W.alloc (.cells #[.int .i64 op, .int .i64 n, .int .i64 ty, .int .u64 bb] 115)) fun e w' => e = .returned (.tuple #[.int .i64 x1, .bool b1]) ∧ ShO w' g m st1 tr S1 okT ∧ Fr (W.alloc (.cells #[.int .i64 op, .int .i64 n, .int .i64 ty, .int .u64 bb] 115)) w' S1) :=
  ⟨by have := take_o (H.below ((Below.refl _ _).alloc (Nat.le_refl _) (.cells #[.int .i64 op, .int .i64 n, .int .i64 ty, .int .u64 bb] 115))) hl; unfold topV at this; rw [← hx1, ← hb1, ← hst1, ← hS1] at this; exact this⟩
 have HC2 : qAb (∀ W', ShO W' g m st1 tr S1 okT → Calls Try.prog 131 #[.pointer (some ⟨g, 0, none⟩)] W' fun e w' => e = .returned (.tuple #[.int .i64 x2, .bool b2]) ∧ ShO w' g m st2 tr S1 okT ∧ Fr W' w' S1) :=
  ⟨fun W' hW => by have := take_o hW h1; unfold topV at this; rw [← hx2, ← hb2, ← hst2] at this; exact this⟩
 have HU : qAb (∀ W', Calls Try.prog 136 #[.int .i64 n, .int .i64 x1] W' fun e w' => e = .returned (.tuple #[.int .i64 ut, .int .i64 ue]) ∧ W' = w') := ⟨fun W' => by rw [hut, hue]; exact Ty1.unary_any n x1 W'⟩
 have HB : qAb (∀ W', Calls Try.prog 137 #[.int .i64 n, .int .i64 x2, .int .i64 x1] W' fun e w' => e = .returned (.tuple #[.int .i64 bt, .int .i64 be]) ∧ W' = w') := ⟨fun W' => by rw [hbt, hbe]; exact Ty2.binary_any n x2 x1 W'⟩
 have HE : qAb (∀ w' st', ShO w' g m st' tr S1 okT → Fr (W.alloc (.cells #[.int .i64 op, .int .i64 n, .int .i64 ty, .int .u64 bb] 115)) w' S1 → ShO w' g m st' tr S okT ∧ Fr W w' S) :=
  ⟨fun w' st' h k => ⟨h.mono hs1 (fun _ h => h), (Fr.of_below ((Below.refl _ _).alloc (Nat.le_refl _) _)).then_ k (fun q hq => .inl (hs1 q hq))⟩⟩
 have HL1 := am h1
 have HL2 := am h2
 have HN1 := am hn1
 have HF1 := am hf1
 have hgl : g < W.heap.size := H.lt
 have HH := am H
 clear H hl h1 h2 hx1 hb1 hst1 hx2 hb2 hst2 hut hue hbt hbe hS1 hn1 hf1
 go_enter Try.func132, Try.ntmps132
 go_wp2_with (first
   | (go_at_call 131; refine HC1.out.mono ?_; clear HC1; rintro e w1 ⟨rfl, hS1, hb1⟩; have HS1 := am hS1; have HB1 := am hb1; have hbx := hb1.blk (qAU W _) HN1.out; have ea0 := (qAa hbx 0).trans rfl; have ea1 := (qAa hbx 1).trans rfl; obtain ⟨u1, u2, hV⟩ := hS1; have HV := am hV; have eg1 := (qAa hV.1 1).trans rfl; have hsz1 := hb1.size; clear hV hb1)
   | (go_at_call 131; refine (HC2.out _ HS1.out).mono ?_; clear HC2 eg1; rintro e w2 ⟨rfl, hS2, hb2⟩; have HS2 := am hS2; have HB2 := am hb2; have hbx2 := hb2.blk hbx HN1.out; have eb0 := (qAa hbx2 0).trans rfl; have eb1 := (qAa hbx2 1).trans rfl; obtain ⟨u1', u2', hV2⟩ := hS2; have HV2 := am hV2; have eg2 := (qAa hV2.1 1).trans rfl; have hsz2 := hb2.size; clear hV2 hb2)
   | (go_at_call 136; refine (HU.out _).mono ?_; rintro e w3 ⟨rfl, rfl⟩)
   | (go_at_call 137; refine (HB.out _).mono ?_; rintro e w3 ⟨rfl, rfl⟩)
   | (at_builtin; refine qDA HV2.out bt rfl _ _ rfl rfl rfl (fun k hk => HF1.out k (by simp at hsz1; omega)) HL2.out ?_; intro A3 c3 w3 h5 h5b h6 h7; have H6 := am h6; have H7 := am h7; have eg3 := (qAa h5 1).trans rfl; have ef3 := qAg h5 1; clear h5 h5b h6 h7)
   | (at_builtin; refine qDA HV.out ut rfl _ _ rfl rfl rfl (fun k hk => HF1.out k (by simp at hsz1; omega)) HL1.out ?_; intro A3 c3 w3 h5 h5b h6 h7; have H6 := am h6; have H7 := am h7; have eg3 := (qAa h5 1).trans rfl; have ef3 := qAg h5 1; clear h5 h5b h6 h7))
 ·have e1 : b1 = false := by simp_all only [Bool.not_eq_true', Bool.not_eq_false', Bool.not_eq_eq_eq_not, Bool.not_true, Bool.not_false]
  have hr := HRR.out
  subst e1
  rw [if_neg (by simp)] at hr
  subst hr
  go_ret
  exact ⟨rfl, HE.out _ _ ⟨u1, u2, HV.out⟩ HB1.out⟩
 ·have e1 : b1 = true := by simp_all only [Bool.not_eq_true', Bool.not_eq_false', Bool.not_eq_eq_eq_not, Bool.not_true, Bool.not_false]
  have e3 : b2 = false := by simp_all only [Bool.not_eq_true', Bool.not_eq_false', Bool.not_eq_eq_eq_not, Bool.not_true, Bool.not_false]
  have hr := HRR.out
  subst e1; subst e3
  rw [if_pos rfl, if_pos (by assumption), if_neg (by simp)] at hr
  subst hr
  go_ret
  exact ⟨rfl, HE.out _ _ ⟨u1', u2', HV2.out⟩ (HB1.out.trans HB2.out)⟩
 ·have e1 : b1 = true := by simp_all only [Bool.not_eq_true', Bool.not_eq_false', Bool.not_eq_eq_eq_not, Bool.not_true, Bool.not_false]
  have e3 : b2 = true := by simp_all only [Bool.not_eq_true', Bool.not_eq_false', Bool.not_eq_eq_eq_not, Bool.not_true, Bool.not_false]
  have hr := HRR.out
  subst e1; subst e3
  rw [if_pos rfl, if_pos (by assumption), if_pos rfl] at hr
  subst hr
  go_ret
  exact ⟨rfl, HE.out _ _ H6.out ((HB1.out.trans HB2.out).trans H7.out)⟩
 ·have e1 : b1 = true := by simp_all only [Bool.not_eq_true', Bool.not_eq_false', Bool.not_eq_eq_eq_not, Bool.not_true, Bool.not_false]
  have hr := HRR.out
  subst e1
  rw [if_pos rfl, if_neg (by simp_all)] at hr
  subst hr
  go_ret
  exact ⟨rfl, HE.out _ _ H6.out (HB1.out.trans H7.out)⟩
theorem ShV.drew {W : World} {g : Nat} {m : Bool} {st : List Int} {tr : List S204} {S okT : Nat → Prop} {v1 v2 : Value} (h : ShV W g m st tr S okT v1 v2) : ShV W.drew g m st tr S okT v1 v2 :=
 ⟨h.1, h.2.1, Kd.N_drew h.2.2.1, h.2.2.2.1, Kd.N_drew h.2.2.2.2⟩
theorem ShO.drew {W : World} {g : Nat} {m : Bool} {st : List Int} {tr : List S204} {S okT : Nat → Prop} (h : ShO W g m st tr S okT) : ShO W.drew g m st tr S okT := by
 obtain ⟨v1, v2, h⟩ := h
 exact ⟨v1, v2, h.drew⟩
theorem ShO.far {W : World} {g : Nat} {m : Bool} {st : List Int} {tr : List S204} {S okT : Nat → Prop} (h : ShO W g m st tr S okT) {p : Addr} (hp : ¬ S p.block) (hq : ¬ okT p.block) (u : Value) : ShO (W.setCell p u) g m st tr S okT := by
 obtain ⟨v1, v2, hg, h0, h1, h2, h3⟩ := h
 refine ⟨v1, v2, (Below.heap_setCell _ _ _ _ (fun e => hp (e ▸ h0))).trans hg, h0, Kd.N_far h1 (fun q hk e => hp (e ▸ hk.1)) _, h2, Kd.N_far h3 (fun q hk e => ?_) _⟩
 rcases hk.1 with h | h
 ·exact hp (e ▸ h)
 exact hq (e ▸ h)
structure PB (b g : Nat) (fv pv iv : Array Value) (lv : Array Value) (W : World) : Prop where
 f : W.heap[b]? = some (.cells fv 77 (0, 0))
 p : W.heap[b + 1]? = some (.cells pv 135 (0, 0))
 i : W.heap[b + 1 + 1]? = some (.cells iv 115 (0, 0))
 s : W.heap[b + 1 + 1 + 1]? = some (.cells #[.pointer (some ⟨g, 0, none⟩)] 206 (0, 0))
 r : W.heap[b + 1 + 1 + 1 + 1]? = some (.cells #[.bool false] 4 (0, 0))
 l : W.heap[b + 1 + 1 + 1 + 1 + 1]? = some (.cells lv 211 (0, 0))
theorem PB.fr {b g : Nat} {fv pv iv lv : Array Value} {W W' : World} {S : Nat → Prop} (h : PB b g fv pv iv lv W) (hf : Fr W W' S) (hn : ∀ q, b ≤ q → q < b + 6 → ¬ S q) : PB b g fv pv iv lv W' :=
 ⟨hf.blk h.f (hn _ (by omega) (by omega)), hf.blk h.p (hn _ (by omega) (by omega)), hf.blk h.i (hn _ (by omega) (by omega)), hf.blk h.s (hn _ (by omega) (by omega)), hf.blk h.r (hn _ (by omega) (by omega)), hf.blk h.l (hn _ (by omega) (by omega))⟩
def plW (W : World) (g : Nat) (fv pv iv lv : Array Value) : World := ((((((W.alloc (.cells fv 77)).alloc (.cells pv 135)).alloc (.cells iv 115)).alloc (.cells #[.pointer (some ⟨g, 0, none⟩)] 206)).alloc (.cells #[.bool false] 4)).alloc (.cells lv 211))
theorem qBo (W : World) (g : Nat) (fv pv iv lv : Array Value) : (plW W g fv pv iv lv).heap.size = W.heap.size + 6 := by simp [plW]
theorem qBi (W : World) (g : Nat) (fv pv iv lv : Array Value) : Below W.heap.size W (plW W g fv pv iv lv) :=
 ((((((Below.refl _ _).alloc (by simp) _).alloc (by simp) _).alloc (by simp; omega) _).alloc (by simp; omega) _).alloc (by simp; omega) _).alloc (by simp; omega) _
theorem qB7 (W : World) (g : Nat) (fv pv iv lv : Array Value) : PB W.heap.size g fv pv iv lv (plW W g fv pv iv lv) := by
 have e : ∀ (V : World) (o o' : Obj) (k : Nat), V.heap[k]? = some o → (V.alloc o').heap[k]? = some o := fun V o o' k h => qAe h (qAi (Below.refl _ _) _)
 have n : ∀ (V : World) (o : Obj) (k : Nat), V.heap.size = k → (V.alloc o).heap[k]? = some o := fun V o k hk => hk ▸ qAU V o
 exact ⟨e _ _ _ _ (e _ _ _ _ (e _ _ _ _ (e _ _ _ _ (e _ _ _ _ (n _ _ _ (by simp)))))), e _ _ _ _ (e _ _ _ _ (e _ _ _ _ (e _ _ _ _ (n _ _ _ (by simp))))), e _ _ _ _ (e _ _ _ _ (e _ _ _ _ (n _ _ _ (by simp)))), e _ _ _ _ (e _ _ _ _ (n _ _ _ (by simp))), e _ _ _ _ (n _ _ _ (by simp)), n _ _ _ (by simp)⟩
theorem qAF {fn : Func} {p : Tmp} (h : fn.results = #[.cell p 4]) (tmps : Array Value) (w : World) (ad : Addr) (b : Bool) (hp : tmps.getD p undef = .pointer (some ad)) (hc : w.cell? ad = some (.bool b)) : (results fn tmps).run Try.prog w = .ok (.bool b) w := by
 have hp' : tmps[p]?.getD undef = .pointer (some ad) := by simpa using hp
 have hu : Try.prog.underlying 4 = some .bool := by kernel_rfl
 simp [results, h, hp', asAddr]
 go_simp
theorem qB8 {w : World} {a c : Addr} {u v x : Value} (h : w.cell? a = some x) (hne : c ≠ a) : ((w.setCell c v).setCell a u).cell? a = some u :=
 World.cell?_setCell_same _ _ _ (u := x) ((World.cell?_setCell_other _ _ _ _ hne).trans h)
end Q
end
end Go.Proofs.Ytfjpnjbinbhcfaa
