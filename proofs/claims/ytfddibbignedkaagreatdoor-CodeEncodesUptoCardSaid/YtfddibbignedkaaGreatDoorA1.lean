/- Chapter 14: the words, the contracts of code.Encode, Text and of the document's. -/
import Derived.Below
import Derived.Deep.Draws
import Derived.Deep.AppendLies
import Derived.Maps.AppendAt
import Derived.OwnWalk
import Derived.Laws.BytesArg
import Derived.Laws.MakeOwn
import Derived.Laws.OwnMore
import Derived.Deep.OwnRows
import Derived.Tactics
import Derived.Lib.ConvBytes
import Derived.Laws.Slices
import Derived.WalkKit
import Derived.KernelRfl
import Derived.RowKit3
import Derived.Deep.LoopGhost
import Derived.Deep.QuietTactic
import Derived.BigQuiet
import Derived.WideLaws
import Derived.Deep.DeepCutAuto
import Derived.Deep.CutBlock
import Derived.Deep.RegionHeld3
import Derived.Laws.Rows
import Derived.Lib.AppendStr
import Derived.ArgAppend
import Derived.Laws.IdiomCopy
import Derived.RowKit
import Derived.OrdersHeld
import Derived.Laws.BitsLemmas
import Derived.Laws.StructEq
import Derived.Test.YtfddibbignedkaaGreatDoorProg
import Derived.WalkLawsBesides
import Derived.WalkSpells
import Derived.Lib.Strings
import Derived.Laws.BitsAllLaws
import Derived.Laws.Tables
import Derived.Lib.SliceRun
set_option maxHeartbeats 8000000
set_option maxRecDepth 100000
set_option linter.unusedVariables false
set_option linter.unusedSimpArgs false
namespace Go.Proofs.YtfddibbignedkaaGreatDoor
section
namespace YA
open Go.RowKit
structure qAi (p : Prop) : Prop where mk :: (out : p)
structure qAy (w w' : World) : Prop where mk :: (out : ∃ n, w' = w.drewN n)
theorem qAi.o {p : Prop} (h : qAi p) : p := h.out
theorem qAy.o {w w' : World} (h : qAy w w') : ∃ n, w' = w.drewN n := h.out
theorem _root_.Go.Shut.o {p : Prop} (h : Shut p) : p := h
theorem qAy.refl (w : World) : qAy w w := ⟨⟨0, rfl⟩⟩
theorem qAy.step {w w' : World} (h : qAy w w') (n : Nat) : qAy w (w'.drewN n) := by
 obtain ⟨m, rfl⟩ := h
 exact ⟨⟨m + n, World.drewN_drewN ..⟩⟩
theorem qAy.below {w w' : World} (h : qAy w w') : Below w.heap.size w w' := by
 obtain ⟨n, rfl⟩ := h
 induction n with
 | zero => exact Below.refl _ _
 | succ n ih => rw [← World.drew_drewN]; exact ih.drew
def rd (xs : List Int) (i : Int) : Int := xs.getD i.toNat 0
def bt (s : ByteArray) (i : Int) : Int := if h : i.toNat < s.size then ((s[i.toNat]'h).toNat : Int) else 0
def nums (k : IntKind) (xs : List Int) : List Value := xs.map fun x => .int k x
theorem nums_append (k : IntKind) (xs ys : List Int) : nums k (xs ++ ys) = nums k xs ++ nums k ys := by simp [nums]
theorem qAb {w W : World} (h : Below w.heap.size w W) (o : Obj) : Below w.heap.size w (W.alloc o) := h.alloc h.size o
theorem qAr {B : Nat} {w W : World} (h : Below B w W) : Below B w W.drew := ⟨h.os, h.tape, h.output, h.size, h.block⟩
theorem qAa {B : Nat} {w W : World} (h : Below B w W) (n : Nat) : Below B w (W.drewN n) := ⟨h.os, h.tape, h.output, h.size, h.block⟩
theorem qBx {B : Nat} {w w1 w2 : World} (h : Below B w w1) (hB : B ≤ w1.heap.size) (k : Below w1.heap.size w1 w2) : Below B w w2 :=
 h.trans ⟨k.os, k.tape, k.output, k.size, fun i hi => k.block i (Nat.lt_of_lt_of_le hi hB)⟩
theorem pw_cell_below {w w1 : World} (h : Below w.heap.size w w1) {a : Addr} {v : Value} (hc : w.cell? a = some v) : w1.cell? a = some v := (h.cell (World.block_lt_of_cell? w a hc)).trans hc
theorem add_plain (g j : Nat) : (⟨g, 0, none⟩ : Addr).add j = ⟨g, j, none⟩ := by unfold Addr.add; split <;> simp_all
def ReadsInt (w : World) (k : IntKind) (A : Option Addr) (n : Nat) (xs : List Int) : Prop :=
 xs.length = n ∧ n ≤ 9223372036854775807 ∧ (0 < n → ∃ ad, A = some ad ∧ ∀ j, j < n → w.cell? (ad.add j) = some (.int k (xs.getD j 0)))
theorem own_nil (W : World) (base : Nat) (e : TypeId) (size : Nat) : W.ownsRow base e size (.slice none 0 0) 0 [] := ⟨by simp, .inl ⟨rfl, rfl⟩⟩
theorem qBN {w : World} {base : Nat} {e : TypeId} {size n : Nat} {v : Value} {xs : List Value} (h : w.ownsRow base e size v n xs) (k : Nat) (hk : v.ownBlock = some k) : base ≤ k := by
 rcases h.2 with ⟨rfl, _⟩ | ⟨g, cap, cur, rfl, hb, _⟩
 ·simp [Value.ownBlock] at hk
 have : g = k := by simpa [Value.ownBlock] using hk
 omega
theorem own_lt {w : World} {base : Nat} {e : TypeId} {size n : Nat} {v : Value} {xs : List Value} (h : w.ownsRow base e size v n xs) (k : Nat) (hk : v.ownBlock = some k) : k < w.heap.size := by
 rcases h.2 with ⟨rfl, _⟩ | ⟨g, cap, cur, rfl, hb, hh, _⟩
 ·simp [Value.ownBlock] at hk
 have : g = k := by simpa [Value.ownBlock] using hk
 subst this
 exact (Array.getElem?_eq_some_iff.1 hh).1
theorem own_slice {w : World} {base n : Nat} {e : TypeId} {size : Nat} {v : Value} {xs : List Value} (h : w.ownsRow base e size v n xs) : ∃ A c, v = .slice A n c := by
 rcases h.2 with ⟨rfl, rfl⟩ | ⟨g, cap, cur, rfl, _⟩
 ·exact ⟨none, 0, rfl⟩
 exact ⟨_, cap, rfl⟩
theorem qBl {P : Program} {w : World} {base n : Nat} {e' src dst e : TypeId} {v : Value} {xs : List Int} (hs : P.underlying src = some (.slice e)) (he : P.underlying e = some (.int .u8)) (hd : P.underlying dst = some .string)
  (h : w.ownsRow base e' 1 v n (nums .u8 xs)) : (convert src dst v).run P w = .ok (.string (strOfNums xs)) w := by
 have hl : xs.length = n := by have := h.1; simp [nums] at this; exact this
 rcases h.2 with ⟨rfl, rfl⟩ | ⟨g, cap, cur, rfl, _⟩
 ·obtain rfl : xs = [] := List.eq_nil_of_length_eq_zero hl
  exact run_convert_bytes_nil w src e hs he 0 0 dst hd
 ·refine run_convert_bytes_arg w src e hs he g 0 n cap xs hl (fun i hi => ?_) dst hd
  have hc := h.cells (g := g) rfl i (.int .u8 (xs.getD i 0)) (by simp [nums, List.getElem?_eq_getElem (show i < xs.length by omega), List.getD_eq_getElem?_getD])
  have ha : (⟨g, 0, none⟩ : Addr).add i = ⟨g, 0 + i, none⟩ := by unfold Addr.add; split <;> simp_all
  rwa [ha] at hc
def Reps {α : Type} (R : α → List Value → Prop) (size : Nat) (ps : List α) (cs : List Value) : Prop :=
 cs.length = ps.length * size ∧ ∀ j p, ps[j]? = some p → R p ((cs.drop (j * size)).take size)
theorem Reps.none {α : Type} (R : α → List Value → Prop) (size : Nat) : Reps R size [] [] := ⟨by simp, fun j p h => by simp at h⟩
theorem Reps.snoc {α : Type} {R : α → List Value → Prop} {size : Nat} {ps : List α} {cs c : List Value} {p : α} (h : Reps R size ps cs) (hp : R p c) (hc : c.length = size) : Reps R size (ps ++ [p]) (cs ++ c) := by
 refine ⟨by rw [List.length_append, h.1, hc, List.length_append, List.length_singleton, Nat.add_mul, Nat.one_mul], fun j q hq => ?_⟩
 rcases Nat.lt_or_ge j ps.length with hj | hj
 ·rw [List.getElem?_append_left hj] at hq
  have h1 : j * size + size ≤ cs.length := by rw [h.1, ← Nat.succ_mul]; exact Nat.mul_le_mul_right _ hj
  have h2 := h.2 j q hq
  rw [List.drop_append_of_le_length (by omega), List.take_append_of_le_length (by rw [List.length_drop]; omega)]
  exact h2
 have hj' : j = ps.length := by
  have := (List.getElem?_eq_some_iff.1 hq).1
  rw [List.length_append, List.length_singleton] at this
  omega
 subst hj'
 have hq' : p = q := by simpa using hq
 subst hq'
 rw [← h.1, List.drop_left, ← hc, List.take_length]
 exact hp
theorem Reps.imp_ {α : Type} {R R' : α → List Value → Prop} {size : Nat} {ps : List α} {cs : List Value} (h : Reps R size ps cs) (hR : ∀ p c, R p c → R' p c) : Reps R' size ps cs := ⟨h.1, fun j p hj => hR _ _ (h.2 j p hj)⟩
def qAJ {α : Type} (R : α → List Value → Prop) (size : Nat) (w : World) (A : Option Addr) (n : Nat) (ps : List α) : Prop :=
 ps.length = n ∧ n ≤ 9223372036854775807 ∧ (0 < n → ∃ ad, A = some ad ∧ ∀ j p, ps[j]? = some p → ∃ c, c.length = size ∧ R p c ∧ ∀ i u, c[i]? = some u → w.cell? (ad.add (j * size + i)) = some u)
theorem qAJ.get_ {α : Type} {R : α → List Value → Prop} {size : Nat} {w : World} {A : Option Addr} {n : Nat} {ps : List α} (h : qAJ R size w A n ps) (d : α) (i : Int) (h0 : 0 ≤ i) (h1 : i < n) :
  ∃ ad c, A = some ad ∧ c.length = size ∧ R (ps.getD i.toNat d) c ∧ ∀ j u, c[j]? = some u → w.cell? (ad.add (i.toNat * size + j)) = some u := by
 obtain ⟨ad, e, hc⟩ := h.2.2 (by omega)
 have hl : i.toNat < ps.length := by have := h.1; omega
 obtain ⟨c, hs, hr, hcell⟩ := hc i.toNat _ (List.getElem?_eq_getElem hl)
 refine ⟨ad, c, e, hs, ?_, hcell⟩
 rw [List.getD_eq_getElem?_getD, List.getElem?_eq_getElem hl]
 exact hr
theorem qAJ.imp_ {α : Type} {R R' : α → List Value → Prop} {size : Nat} {w w1 : World} {A : Option Addr} {n : Nat} {ps : List α} (h : qAJ R size w A n ps) (hb : Below w.heap.size w w1) (hR : ∀ p c, R p c → R' p c) : qAJ R' size w1 A n ps :=
 ⟨h.1, h.2.1, fun hn => by
   obtain ⟨ad, e, hc⟩ := h.2.2 hn
   refine ⟨ad, e, fun j p hj => ?_⟩
   obtain ⟨c, hs, hr, hcell⟩ := hc j p hj
   exact ⟨c, hs, hR _ _ hr, fun i u hu => pw_cell_below hb (hcell i u hu)⟩⟩
theorem own_reads_row {α : Type} {R : α → List Value → Prop} {w : World} {base n size : Nat} {e : TypeId} {v : Value} {ps : List α} {cs : List Value} (h : w.ownsRow base e size v n cs) (hR : Reps R size ps cs) (hn : ps.length = n) :
  ∃ A c, v = .slice A n c ∧ qAJ R size w A n ps := by
 rcases Nat.eq_zero_or_pos n with h0 | h0
 ·rcases h.2 with ⟨rfl, rfl⟩ | ⟨g, cap, cur, rfl, _⟩
  ·exact ⟨none, 0, rfl, hn, by omega, fun hp => absurd hp (by omega)⟩
  ·exact ⟨_, cap, rfl, hn, by omega, fun hp => absurd hp (by omega)⟩
 ·obtain ⟨g, cap, rfl, _, _⟩ := h.form h0
  have hm : n ≤ 9223372036854775807 := by
   rcases h.2 with ⟨_, h1⟩ | ⟨g', cap', cur, he, _, _, h1, h2, _⟩
   ·omega
   simp only [maxLen] at h2
   omega
  refine ⟨_, cap, rfl, hn, hm, fun _ => ⟨_, rfl, fun j p hj => ⟨(cs.drop (j * size)).take size, ?_, hR.2 j p hj, fun i u hu => ?_⟩⟩⟩
  ·have hjl := (List.getElem?_eq_some_iff.1 hj).1
   have h1 : j * size + size ≤ cs.length := by rw [hR.1, ← Nat.succ_mul]; exact Nat.mul_le_mul_right _ hjl
   rw [List.length_take, List.length_drop]
   omega
  ·refine h.cells (g := g) rfl _ u ?_
   rw [List.getElem?_take] at hu
   split at hu
   ·rw [List.getElem?_drop] at hu
    exact hu
   ·cases hu
theorem qBi (ad : Addr) (m j : Nat) (hj : 0 < j) : ad.add (m + j) = ⟨(ad.add m).block, (ad.add m).off + j, none⟩ := by
 unfold Addr.add
 by_cases hm : m = 0
 ·subst hm
  simp [Nat.ne_of_gt hj]
 simp [hm, Nat.add_assoc]
section
variable {P : Program} {ops : Array Oper} {rest : List Oper} {o : Oper} {a : Act} {Q : Exit → Act → World → Prop}
theorem qCy {w0 W : World} (base : Nat) (hgd : o.guard = none) (s x : Operand) (t e : TypeId) (z : Value) (size bytes : Nat)
  (ho : o.op = .call { callee := .builtin .append, args := #[s, x], argTypes := #[t, t] })
  (ht : P.underlying t = some (.slice e)) (hinfo : (P.info? e).map (fun i => (i.zero, i.size, i.bytes)) = some (some z, size, bytes)) (hz : z.cells.size = size) (hs0 : 0 < size) (hb0 : 0 < bytes)
  (v : Value) (n : Nat) (xs ys : List Value) (hs : a.eval s = v) (hx : a.eval x = .slice (some ⟨W.heap.size, 0, none⟩) 1 1) (hys : ys.length = size) (h1 : ∀ u ∈ ys, u.oneCell' = true)
  (HO : W.ownsRow base e size v n xs) (HB : Below base w0 W) (hbase : base ≤ W.heap.size) (hl : (n + 1) * bytes ≤ 140737488355328)
  (h : ∀ v1 w1, w1.ownsRow base e size v1 (n + 1) (xs ++ ys) → Below base w0 w1 → W.grownBy w1 v.ownBlock → (v1.ownBlock = v.ownBlock ∨ ∃ b, v1.ownBlock = some b ∧ W.heap.size ≤ b) → wpList P ops Q rest (a.put o.dst v1) w1) :
  wpList P ops Q (o :: rest) a (W.alloc (.cells ys.toArray e)) := by
 obtain ⟨i0, hi, hzz⟩ := Option.map_eq_some_iff.1 hinfo
 simp only [Prod.mk.injEq] at hzz
 obtain ⟨hz0, hz1, hz2⟩ := hzz
 have hlen : n + 1 ≤ 140737488355328 := Nat.le_trans (Nat.le_mul_of_pos_right _ hb0) hl
 refine wpList_append_own_at (W.alloc (.cells ys.toArray e)) hgd s x t ho base e i0 z size bytes ht hi hz0 hz1 hz2 hz hs0 v n xs hs (HO.alloc _) ⟨W.heap.size, 0, none⟩ 1 1 ys hx (by rw [hys]; simp)
  (by simpa using World.news_of_block (cs := ys.toArray) (t := e) (fr := (0, 0)) (heap_alloc_new W (.cells ys.toArray e))) h1 (by simp only [maxLen]; omega) hl (by simp; omega) ?_
 intro v1 w1 hown hg _ hat
 refine h v1 w1 hown ((HB.alloc hbase _).grown hg (by simp; omega) (qBN HO)) (World.grownBy.trans (World.grownBy_alloc W _ _) hg) ?_
 rcases hat with hat | hat
 ·exact .inl hat
 ·exact .inr ⟨_, hat, by simp⟩
end
theorem blk_set {w : World} {g : Nat} {t : TypeId} {cs : Array Value} (h : w.heap[g]? = some (.cells cs t (0, 0))) (i : Nat) (u : Value) : (w.setCell ⟨g, i, none⟩ u).heap[g]? = some (.cells (cs.setIfInBounds i u) t (0, 0)) := by
 simp [World.setCell, Array.getElem?_modify, h]
theorem qBf {w : World} {g : Nat} {o : Obj} (h : w.heap[g]? = some o) : g < w.heap.size := (Array.getElem?_eq_some_iff.1 h).1
theorem qAc {w : World} {g : Nat} {t : TypeId} {cs : Array Value} (h : w.heap[g]? = some (.cells cs t (0, 0))) (i : Nat) : w.cell? ⟨g, i, none⟩ = cs[i]? := cell_of_row w g i cs t (0, 0) h
theorem qAm {w : World} {g : Nat} {t : TypeId} {cs : Array Value} (h : w.heap[g]? = some (.cells cs t (0, 0))) (i : Nat) : w.frozen? ⟨g, i, none⟩ = false := by simp [World.frozen?, h]
def KeepBut (w w' : World) (g : Nat) (row : Option Nat) : Prop := w.heap.size ≤ w'.heap.size ∧ ∀ i, i < w.heap.size → i ≠ g → some i ≠ row → w'.heap[i]? = w.heap[i]?
def Ev {α : Type} (g : Nat → Option α) (r : α) : Prop := ∃ K, ∀ k, K ≤ k → g k = some r
theorem Ev.now {α : Type} (r : α) : Ev (fun _ => some r) r := ⟨0, fun _ _ => rfl⟩
theorem Ev.rounds {α : Type} {g : Nat → Option α} {r : α} (h : Ev g r) : ∃ k, g k = some r := by
 obtain ⟨K, h⟩ := h
 exact ⟨K, h K (Nat.le_refl _)⟩
theorem Ev.bind {α β : Type} {g : Nat → Option α} {f : Nat → α → Option β} {a : α} {r : β} (h : Ev g a) (k : Ev (fun n => f n a) r) : Ev (fun n => (g n).bind (f n)) r := by
 obtain ⟨K, h⟩ := h
 obtain ⟨K', k⟩ := k
 refine ⟨max K K', fun n hn => ?_⟩
 have h1 := h n (by omega)
 have h2 := k n (by omega)
 simp only [h1, Option.bind_some]
 exact h2
theorem Ev.step {α : Type} {g f : Nat → Option α} {r : α} (h : ∀ k, g (k + 1) = f k) (k : Ev f r) : Ev g r := by
 obtain ⟨K, k⟩ := k
 refine ⟨K + 1, fun n hn => ?_⟩
 obtain ⟨m, rfl⟩ : ∃ m, n = m + 1 := ⟨n - 1, by omega⟩
 rw [h]
 exact k m (by omega)
theorem Ev.congr {α : Type} {g f : Nat → Option α} {r : α} (h : ∀ k, g k = f k) (k : Ev f r) : Ev g r := by
 obtain ⟨K, k⟩ := k
 exact ⟨K, fun n hn => (h n).trans (k n hn)⟩
section
variable {P : Program} {ops : Array Oper} {o : Oper} {a : Act} {Q : Exit → Act → World → Prop} {K : Act → World → Prop}
theorem qCH {w0 W : World} (base : Nat) (hw : Region.wanted o (yielded ops a.tmps) = true) (s x : Operand) (t e : TypeId) (z : Value) (size bytes : Nat)
  (ho : o.op = .call { callee := .builtin .append, args := #[s, x], argTypes := #[t, t] })
  (ht : P.underlying t = some (.slice e)) (hinfo : (P.info? e).map (fun i => (i.zero, i.size, i.bytes)) = some (some z, size, bytes)) (hz : z.cells.size = size) (hs0 : 0 < size) (hb0 : 0 < bytes)
  (v : Value) (n : Nat) (xs ys : List Value) (hs : a.eval s = v) (hx : a.eval x = .slice (some ⟨W.heap.size, 0, none⟩) 1 1) (hys : ys.length = size) (h1 : ∀ u ∈ ys, u.oneCell' = true)
  (HO : W.ownsRow base e size v n xs) (HB : Below base w0 W) (hbase : base ≤ W.heap.size) (hl : (n + 1) * bytes ≤ 140737488355328)
  (h : ∀ v1 w1, w1.ownsRow base e size v1 (n + 1) (xs ++ ys) → Below base w0 w1 → W.grownBy w1 v.ownBlock → (v1.ownBlock = v.ownBlock ∨ ∃ b, v1.ownBlock = some b ∧ W.heap.size ≤ b) → K (a.put o.dst v1) w1) :
  if Region.wanted o (yielded ops a.tmps) = true then Oper.wp P o a (W.alloc (.cells ys.toArray e)) K Q else K (a.put o.dst undef) (W.alloc (.cells ys.toArray e)) := by
 obtain ⟨i0, hi, hzz⟩ := Option.map_eq_some_iff.1 hinfo
 simp only [Prod.mk.injEq] at hzz
 obtain ⟨hz0, hz1, hz2⟩ := hzz
 have hlen : n + 1 ≤ 140737488355328 := Nat.le_trans (Nat.le_mul_of_pos_right _ hb0) hl
 rw [if_pos hw]
 obtain ⟨v1, w1, hr, hown, hg, _, hat⟩ := run_append_own_at (P := P) (W.alloc (.cells ys.toArray e)) base t o.type e i0 z size bytes ht hi hz0 hz1 hz2 hz hs0 v n xs (HO.alloc _) ⟨W.heap.size, 0, none⟩ 1 1 ys (by rw [hys]; simp)
  (by simpa using World.news_of_block (cs := ys.toArray) (t := e) (fr := (0, 0)) (heap_alloc_new W (.cells ys.toArray e))) h1 (by simp only [maxLen]; omega) hl (by simp; omega)
 unfold Oper.wp execOp
 simp only [ho, resolve, invoke, builtin, Sem.run_bind, Sem.run_pure, Result.andThen_ok, List.map_toArray, List.map_cons, List.map_nil, hs, hx, hr]
 refine h v1 w1 hown ((HB.alloc hbase _).grown hg (by simp; omega) (qBN HO)) (World.grownBy.trans (World.grownBy_alloc W _ _) hg) ?_
 rcases hat with hat | hat
 ·exact .inl hat
 ·exact .inr ⟨_, hat, by simp⟩
end
theorem own_weaken {w : World} {base base' : Nat} {e : TypeId} {size n : Nat} {v : Value} {xs : List Value} (h : w.ownsRow base e size v n xs) (hb : base' ≤ base) : w.ownsRow base' e size v n xs := by
 obtain ⟨h1, h2⟩ := h
 refine ⟨h1, ?_⟩
 rcases h2 with h2 | ⟨g, cap, cur, rfl, hg, r⟩
 ·exact .inl h2
 exact .inr ⟨g, cap, cur, rfl, Nat.le_trans hb hg, r⟩
section
variable {α : Type} {enc : α → Value} {d : α}
def encs (enc : α → Value) (xs : List α) : List Value := xs.map enc
def rdOf (d : α) (xs : List α) (i : Int) : α := xs.getD i.toNat d
theorem qDc (xs : List α) : (encs enc xs).length = xs.length := by simp [encs]
theorem encs_get (xs : List α) (j : Nat) (h : j < xs.length) : (encs enc xs)[j]? = some (enc (xs.getD j d)) := by
 simp [encs, List.getElem?_eq_getElem h, List.getD_eq_getElem?_getD]
def ReadsOf (enc : α → Value) (d : α) (w : World) (A : Option Addr) (n : Nat) (xs : List α) : Prop :=
 xs.length = n ∧ n ≤ 9223372036854775807 ∧ (0 < n → ∃ ad, A = some ad ∧ ∀ j, j < n → w.cell? (ad.add j) = some (enc (xs.getD j d)))
theorem ReadsOf.at_ {w : World} {A : Option Addr} {n : Nat} {xs : List α} (h : ReadsOf enc d w A n xs) (i : Int) (h0 : 0 ≤ i) (h1 : i < n) : ∃ ad, A = some ad ∧ w.cell? (ad.add i.toNat) = some (enc (rdOf d xs i)) := by
 obtain ⟨ad, e, hc⟩ := h.2.2 (by omega)
 exact ⟨ad, e, hc _ (by omega)⟩
theorem own_at_of {W : World} {base g n cap : Nat} {e : TypeId} {xs : List α} (h : W.ownsRow base e 1 (.slice (some ⟨g, 0, none⟩) n cap) n (encs enc xs)) (i : Int) (h0 : 0 ≤ i) (h1 : i < n) :
  W.cell? ⟨g, i.toNat, none⟩ = some (enc (rdOf d xs i)) ∧ W.frozen? ⟨g, i.toNat, none⟩ = false := by
 have hl : xs.length = n := by have := h.1; simp [encs] at this; exact this
 constructor
 ·have hc := h.cells (g := g) rfl i.toNat _ (encs_get (d := d) xs i.toNat (by omega))
  rwa [add_plain] at hc
 ·rcases h.2 with ⟨h', _⟩ | ⟨g', cap', cur, h', _, hh, _⟩
  ·cases h'
  ·have : g = g' := by injection h' with h'; injection h' with h'; injection h' with h'
   subst this
   simp [World.frozen?, hh]
theorem own_store_of {W : World} {base g n cap : Nat} {e : TypeId} {xs : List α} (h : W.ownsRow base e 1 (.slice (some ⟨g, 0, none⟩) n cap) n (encs enc xs)) (i : Int) (x : α) :
  (W.setCell ⟨g, i.toNat, none⟩ (enc x)).ownsRow base e 1 (.slice (some ⟨g, 0, none⟩) n cap) n (encs enc (xs.set i.toNat x)) ∧ W.grownBy (W.setCell ⟨g, i.toNat, none⟩ (enc x)) (some g) := by
 have hs := h.stored i.toNat (enc x)
 have he : (encs enc xs).set i.toNat (enc x) = encs enc (xs.set i.toNat x) := by simp [encs, List.map_set]
 rwa [he] at hs
end
theorem blk_alloc {w : World} {g : Nat} {o : Obj} (h : w.heap[g]? = some o) (o' : Obj) : (w.alloc o').heap[g]? = some o := (Below.heap_alloc w o' g (qBf h)).trans h
theorem qB4 {w : World} {g : Nat} {o : Obj} (h : w.heap[g]? = some o) : w.drew.heap[g]? = some o := h
theorem qBv {w : World} {g : Nat} {o : Obj} (h : w.heap[g]? = some o) (n : Nat) : (w.drewN n).heap[g]? = some o := h
theorem qAs {w w1 : World} {g : Nat} {o : Obj} (h : w.heap[g]? = some o) (hb : Below w.heap.size w w1) : w1.heap[g]? = some o := (hb.block g (qBf h)).trans h
theorem qAF (w : World) (o : Obj) : (w.alloc o).heap[w.heap.size]? = some o := heap_alloc_new w o
theorem own_le {w : World} {base n m c size : Nat} {e : TypeId} {A : Option Addr} {xs : List Value} (h : w.ownsRow base e size (.slice A m c) n xs) : m ≤ c := by
 rcases h.2 with ⟨he, _⟩ | ⟨g, cap, cur, he, _, _, hnc, _⟩
 ·injection he with _ h2 h3
  omega
 injection he with _ h2 h3
 omega
def qCk {α : Type} (R : α → List Value → Prop) (e : TypeId) (size : Nat) (w : World) (base : Nat) (v : Value) (ps : List α) : Prop :=
 ∃ inner, w.ownsRow base e size v ps.length inner ∧ Reps R size ps inner
section
variable {α : Type} {R R' : α → List Value → Prop} {e : TypeId} {size : Nat} {w w1 : World} {base : Nat} {v : Value} {ps : List α}
theorem qCk.none_ (R : α → List Value → Prop) (e : TypeId) (size : Nat) (w : World) (base : Nat) : qCk R e size w base (.slice none 0 0) [] := ⟨[], own_nil _ _ _ _, Reps.none _ _⟩
theorem qCk.imp_ (h : qCk R e size w base v ps) (hR : ∀ p c, R p c → R' p c) : qCk R' e size w base v ps := by
 obtain ⟨inner, ho, hr⟩ := h
 exact ⟨inner, ho, hr.imp_ hR⟩
theorem qCk.reads (h : qCk R e size w base v ps) : ∃ A c, v = .slice A ps.length c ∧ ps.length ≤ c ∧ qAJ R size w A ps.length ps := by
 obtain ⟨inner, ho, hr⟩ := h
 obtain ⟨A, c, rfl, hrow⟩ := own_reads_row ho hr rfl
 exact ⟨A, c, rfl, own_le ho, hrow⟩
end
theorem qAJ.inner_ {α : Type} {R : α → List Value → Prop} {size : Nat} {w : World} {ad : Addr} {n : Nat} {ps : List α} (h : qAJ R size w (some ad) n ps) :
  ∃ inner, Reps R size ps inner ∧ ∀ j u, inner[j]? = some u → w.cell? (ad.add j) = some u := by
 have key : ∀ m, m ≤ ps.length → ∃ inner, Reps R size (ps.take m) inner ∧ ∀ j u, inner[j]? = some u → w.cell? (ad.add j) = some u := by
  intro m
  induction m with
  | zero => exact fun _ => ⟨[], Reps.none _ _, fun j u hu => by simp at hu⟩
  | succ m ih =>
   intro hm
   obtain ⟨inner, hr, hc⟩ := ih (by omega)
   obtain ⟨ad', he, hcell⟩ := h.2.2 (by have := h.1; omega)
   injection he with he
   subst he
   obtain ⟨c, hcl, hp, hcc⟩ := hcell m _ (List.getElem?_eq_getElem (show m < ps.length by omega))
   refine ⟨inner ++ c, ?_, fun j u hu => ?_⟩
   ·rw [List.take_succ_eq_append_getElem (show m < ps.length by omega)]
    exact hr.snoc hp hcl
   have hil : inner.length = m * size := by rw [hr.1, List.length_take, Nat.min_eq_left (by omega)]
   rcases Nat.lt_or_ge j inner.length with hj | hj
   ·rw [List.getElem?_append_left hj] at hu
    exact hc j u hu
   rw [List.getElem?_append_right hj] at hu
   have := hcc (j - inner.length) u hu
   rwa [hil, Nat.add_sub_cancel' (by omega)] at this
 obtain ⟨inner, hr, hc⟩ := key ps.length (Nat.le_refl _)
 rw [List.take_length] at hr
 exact ⟨inner, hr, hc⟩
structure Kd (α : Type) where
 sz : Nat
 E : List Nat
 K : World → α → List Value → Prop
 M : World → Nat → (Nat → Prop) → α → List Value → Prop
 K_len : ∀ {w x cs}, K w x cs → cs.length = sz
 K_one : ∀ {w x cs}, K w x cs → ∀ u ∈ cs, u.oneCell' = true
 K_below : ∀ {w w1 : World} {x cs}, Below w.heap.size w w1 → K w x cs → K w1 x cs
 K_of_M : ∀ {w base ok x cs}, M w base ok x cs → K w x cs
 M_mono : ∀ {w base ok ok' x cs}, (∀ k, ok k → ok' k) → M w base ok x cs → M w base ok' x cs
 M_bound : ∀ {w : World} {base ok x cs}, M w base ok x cs → M w base (fun k => ok k ∧ base ≤ k ∧ k < w.heap.size ∧ ∃ q, q ∈ E ∧ ∃ cells, w.heap[k]? = some (.cells cells q (0, 0))) x cs
 M_move : ∀ {w w1 : World} {base ok x cs}, (∀ k, ok k → w1.heap[k]? = w.heap[k]?) → M w base ok x cs → M w1 base ok x cs
 M_lower : ∀ {w base base' ok x cs}, base' ≤ base → M w base ok x cs → M w base' ok x cs
theorem own_move {w w1 : World} {base : Nat} {e : TypeId} {size n : Nat} {v : Value} {xs : List Value} (h : w.ownsRow base e size v n xs) (hm : ∀ k, v.ownBlock = some k → w1.heap[k]? = w.heap[k]?) : w1.ownsRow base e size v n xs := by
 obtain ⟨h1, h2⟩ := h
 refine ⟨h1, ?_⟩
 rcases h2 with h2 | ⟨g, cap, cur, rfl, hg, hh, r⟩
 ·exact .inl h2
 exact .inr ⟨g, cap, cur, rfl, hg, (hm g (by simp [Value.ownBlock])).trans hh, r⟩
theorem qDn {w : World} {base : Nat} {e : TypeId} {size n : Nat} {v : Value} {xs : List Value} (h : w.ownsRow base e size v n xs) (k : Nat) (hk : v.ownBlock = some k) : ∃ cells, w.heap[k]? = some (.cells cells e (0, 0)) := by
 rcases h.2 with ⟨rfl, _⟩ | ⟨g, cap, cur, rfl, hg, hh, r⟩
 ·simp [Value.ownBlock] at hk
 have : g = k := by simpa [Value.ownBlock] using hk
 subst this
 exact ⟨cur, hh⟩
namespace Kd
def C {α : Type} (d : Kd α) (w : World) (A : Option Addr) (n : Nat) (xs : List α) : Prop := qAJ (d.K w) d.sz w A n xs
def R {α : Type} (d : Kd α) (e : Nat) (w : World) (base : Nat) (ok : Nat → Prop) (v : Value) (xs : List α) : Prop :=
 (∀ k, v.ownBlock = some k → ok k) ∧ qCk (d.M w base (fun k => ok k ∧ some k ≠ v.ownBlock)) e d.sz w base v xs
section
variable {α : Type} {d : Kd α} {e : Nat} {w w1 : World} {base : Nat} {ok ok' : Nat → Prop} {v : Value} {xs : List α}
theorem C_below {A : Option Addr} {n : Nat} (h : d.C w A n xs) (hb : Below w.heap.size w w1) : d.C w1 A n xs := qAJ.imp_ h hb (fun _ _ hp => d.K_below hb hp)
theorem R_nil (d : Kd α) (e : Nat) (w : World) (base : Nat) (ok : Nat → Prop) : d.R e w base ok (.slice none 0 0) [] := ⟨fun k hk => by simp [Value.ownBlock] at hk, qCk.none_ _ _ _ _ _⟩
theorem R_mono (h : d.R e w base ok v xs) (hok : ∀ k, ok k → ok' k) : d.R e w base ok' v xs := ⟨fun k hk => hok k (h.1 k hk), h.2.imp_ (fun _ _ hp => d.M_mono (fun k hk => ⟨hok k hk.1, hk.2⟩) hp)⟩
theorem R_bound (h : d.R e w base ok v xs) : d.R e w base (fun k => ok k ∧ base ≤ k ∧ k < w.heap.size ∧ ∃ q, q ∈ e :: d.E ∧ ∃ cells, w.heap[k]? = some (.cells cells q (0, 0))) v xs := by
 obtain ⟨h0, inner, ho, hr⟩ := h
 refine ⟨fun k hk => ?_, inner, ho, hr.imp_ (fun _ _ hp => d.M_mono (fun k hk => ?_) (d.M_bound hp))⟩
 ·obtain ⟨cells, hc⟩ := qDn ho k hk
  exact ⟨h0 k hk, qBN ho k hk, own_lt ho k hk, e, List.mem_cons_self, cells, hc⟩
 obtain ⟨⟨h1, h2⟩, h3, h4, q, hq, hc⟩ := hk
 exact ⟨⟨h1, h3, h4, q, List.mem_cons_of_mem _ hq, hc⟩, h2⟩
theorem R_move (h : d.R e w base ok v xs) (hm : ∀ k, ok k → w1.heap[k]? = w.heap[k]?) : d.R e w1 base ok v xs := by
 obtain ⟨h0, inner, ho, hr⟩ := h
 exact ⟨h0, inner, own_move ho (fun k hk => hm k (h0 k hk)), hr.imp_ (fun _ _ hp => d.M_move (fun k hk => hm k hk.1) hp)⟩
theorem R_lower {base' : Nat} (h : d.R e w base ok v xs) (hb : base' ≤ base) : d.R e w base' ok v xs := by
 obtain ⟨h0, inner, ho, hr⟩ := h
 exact ⟨h0, inner, own_weaken ho hb, hr.imp_ (fun _ _ hp => d.M_lower hb hp)⟩
theorem R_step (h : d.R e w base ok v xs) (hm : ∀ k, ok k → k < w.heap.size → w1.heap[k]? = w.heap[k]?) : d.R e w1 base ok v xs :=
 R_mono (R_move (R_bound h) (fun k hk => hm k hk.1 hk.2.2.1)) (fun _ hk => hk.1)
theorem M_step {x : α} {cs : List Value} (h : d.M w base ok x cs) (hm : ∀ k, ok k → k < w.heap.size → w1.heap[k]? = w.heap[k]?) : d.M w1 base ok x cs :=
 d.M_mono (fun _ hk => hk.1) (d.M_move (fun k hk => hm k hk.1 hk.2.2.1) (d.M_bound h))
theorem R_below (h : d.R e w base ok v xs) (hb : Below w.heap.size w w1) : d.R e w1 base ok v xs := R_step h (fun k _ hk => hb.block k hk)
theorem M_below {x : α} {cs : List Value} (h : d.M w base ok x cs) (hb : Below w.heap.size w w1) : d.M w1 base ok x cs := M_step h (fun k _ hk => hb.block k hk)
theorem R_far (h : d.R e w base ok v xs) {p : Addr} (hok : ∀ k, ok k → k ≠ p.block) (u : Value) : d.R e (w.setCell p u) base ok v xs := R_step h (fun k ho _ => Below.heap_setCell w p u k (hok k ho))
theorem R_keep (h : d.R e w base ok v xs) {g : Nat} (hk : KeepBut w w1 g none) (hok : ∀ k, ok k → k ≠ g) : d.R e w1 base ok v xs := R_step h (fun k ho hlt => hk.2 k hlt (hok k ho) (by simp))
theorem R_kp {ok0 : Nat → Prop} {g : Nat} (h : d.R e w base (fun k => ok0 k ∧ k ≠ g) v xs) (hk : KeepBut w w1 g none) : d.R e w1 base ok0 v xs := R_mono (R_keep h hk fun _ h => h.2) fun _ h => h.1
theorem R_reads (h : d.R e w base ok v xs) : ∃ A c, v = .slice A xs.length c ∧ xs.length ≤ c ∧ d.C w A xs.length xs := by
 obtain ⟨A, c, he, hl, hr⟩ := qCk.reads h.2
 exact ⟨A, c, he, hl, hr.imp_ (Below.refl _ _) (fun _ _ hp => d.K_of_M hp)⟩
theorem R_slice (h : d.R e w base ok v xs) : ∃ A c, v = .slice A xs.length c := by
 obtain ⟨A, c, he, _⟩ := R_reads h
 exact ⟨A, c, he⟩
theorem R_own (h : d.R e w base ok v xs) : ∃ inner, w.ownsRow base e d.sz v xs.length inner := by
 obtain ⟨_, inner, ho, _⟩ := h
 exact ⟨inner, ho⟩
end
def qB3 {α : Type} (enc : α → Value) (h1 : ∀ x, (enc x).oneCell' = true) : Kd α where
 sz := 1
 E := []
 K := fun _ x cs => cs = [enc x]
 M := fun _ _ _ x cs => cs = [enc x]
 K_len := fun h => by rw [h]; rfl
 K_one := fun h u hu => by
  rw [h] at hu
  rw [List.mem_singleton.1 hu]
  exact h1 _
 K_below := fun _ h => h
 K_of_M := fun h => h
 M_mono := fun _ h => h
 M_bound := fun h => h
 M_move := fun _ h => h
 M_lower := fun _ h => h
def int (k : IntKind) : Kd Int := qB3 (Value.int k) (fun _ => rfl)
def bool : Kd Bool := qB3 Value.bool (fun _ => rfl)
def string : Kd ByteArray := qB3 Value.string (fun _ => rfl)
def slice {α : Type} (e : Nat) (d : Kd α) : Kd (List α) where
 sz := 1
 E := e :: d.E
 K := fun w xs cs => ∃ A c, cs = [.slice A xs.length c] ∧ xs.length ≤ c ∧ d.C w A xs.length xs
 M := fun w base ok xs cs => ∃ v, cs = [v] ∧ d.R e w base ok v xs
 K_len := by
  rintro w x cs ⟨A, c, rfl, _⟩
  rfl
 K_one := by
  rintro w x cs ⟨A, c, rfl, _⟩ u hu
  rw [List.mem_singleton.1 hu]
  rfl
 K_below := by
  rintro w w1 x cs hb ⟨A, c, rfl, hl, hr⟩
  exact ⟨A, c, rfl, hl, C_below hr hb⟩
 K_of_M := by
  rintro w base ok x cs ⟨v, rfl, h⟩
  obtain ⟨A, c, rfl, hl, hr⟩ := R_reads h
  exact ⟨A, c, rfl, hl, hr⟩
 M_mono := by
  rintro w base ok ok' x cs hok ⟨v, rfl, h⟩
  exact ⟨v, rfl, R_mono h hok⟩
 M_bound := by
  rintro w base ok x cs ⟨v, rfl, h⟩
  exact ⟨v, rfl, R_bound h⟩
 M_move := by
  rintro w w1 base ok x cs hm ⟨v, rfl, h⟩
  exact ⟨v, rfl, R_move h hm⟩
 M_lower := by
  rintro w base base' ok x cs hb ⟨v, rfl, h⟩
  exact ⟨v, rfl, R_lower h hb⟩
def pair {α β : Type} (a : Kd α) (b : Kd β) : Kd (α × β) where
 sz := a.sz + b.sz
 E := a.E ++ b.E
 K := fun w x cs => ∃ c0 c1, cs = c0 ++ c1 ∧ a.K w x.1 c0 ∧ b.K w x.2 c1
 M := fun w base ok x cs => ∃ c0 c1, cs = c0 ++ c1 ∧ a.M w base ok x.1 c0 ∧ b.M w base ok x.2 c1
 K_len := by
  rintro w x cs ⟨c0, c1, rfl, h0, h1⟩
  rw [List.length_append, a.K_len h0, b.K_len h1]
 K_one := by
  rintro w x cs ⟨c0, c1, rfl, h0, h1⟩ u hu
  rcases List.mem_append.1 hu with hu | hu
  ·exact a.K_one h0 u hu
  exact b.K_one h1 u hu
 K_below := by
  rintro w w1 x cs hb ⟨c0, c1, rfl, h0, h1⟩
  exact ⟨c0, c1, rfl, a.K_below hb h0, b.K_below hb h1⟩
 K_of_M := by
  rintro w base ok x cs ⟨c0, c1, rfl, h0, h1⟩
  exact ⟨c0, c1, rfl, a.K_of_M h0, b.K_of_M h1⟩
 M_mono := by
  rintro w base ok ok' x cs hok ⟨c0, c1, rfl, h0, h1⟩
  exact ⟨c0, c1, rfl, a.M_mono hok h0, b.M_mono hok h1⟩
 M_bound := by
  rintro w base ok x cs ⟨c0, c1, rfl, h0, h1⟩
  refine ⟨c0, c1, rfl, a.M_mono ?_ (a.M_bound h0), b.M_mono ?_ (b.M_bound h1)⟩
  ·rintro k ⟨h2, h3, h4, q, hq, hc⟩
   exact ⟨h2, h3, h4, q, List.mem_append_left _ hq, hc⟩
  rintro k ⟨h2, h3, h4, q, hq, hc⟩
  exact ⟨h2, h3, h4, q, List.mem_append_right _ hq, hc⟩
 M_move := by
  rintro w w1 base ok x cs hm ⟨c0, c1, rfl, h0, h1⟩
  exact ⟨c0, c1, rfl, a.M_move hm h0, b.M_move hm h1⟩
 M_lower := by
  rintro w base base' ok x cs hb ⟨c0, c1, rfl, h0, h1⟩
  exact ⟨c0, c1, rfl, a.M_lower hb h0, b.M_lower hb h1⟩
def iso {α β : Type} (d : Kd α) (f : β → α) : Kd β where
 sz := d.sz
 E := d.E
 K := fun w x cs => d.K w (f x) cs
 M := fun w base ok x cs => d.M w base ok (f x) cs
 K_len := d.K_len
 K_one := d.K_one
 K_below := d.K_below
 K_of_M := d.K_of_M
 M_mono := d.M_mono
 M_bound := d.M_bound
 M_move := d.M_move
 M_lower := d.M_lower
def bot {α : Type} (sz : Nat) (E : List Nat) : Kd α where
 sz := sz
 E := E
 K := fun _ _ _ => False
 M := fun _ _ _ _ _ => False
 K_len := fun h => h.elim
 K_one := fun h => h.elim
 K_below := fun _ h => h
 K_of_M := fun h => h
 M_mono := fun _ h => h
 M_bound := fun h => h
 M_move := fun _ h => h
 M_lower := fun _ h => h
def upto {α : Type} (F : Kd α → Kd α) (sz : Nat) (E : List Nat) : Nat → Kd α
 | 0 => bot sz E
 | n + 1 => F (upto F sz E n)
theorem C_get {α : Type} {d : Kd α} {w : World} {A : Option Addr} {n : Nat} {xs : List α} (h : d.C w A n xs) (z : α) (i : Int) (h0 : 0 ≤ i) (h1 : i < n) :
  ∃ ad c, A = some ad ∧ c.length = d.sz ∧ d.K w (xs.getD i.toNat z) c ∧ ∀ j u, c[j]? = some u → w.cell? (ad.add (i.toNat * d.sz + j)) = some u := qAJ.get_ h z i h0 h1
theorem R_appended {α : Type} {d : Kd α} {e base : Nat} {ok okp : Nat → Prop} {W w1 : World} {v v1 : Value} {xs : List α} {p : α} {inner cs : List Value} (h0 : ∀ k, v.ownBlock = some k → ok k) (hr : Reps (d.M W base (fun k => ok k ∧ some k ≠ v.ownBlock)) d.sz xs inner) (hp : d.M W base okp p cs) (hokp : ∀ k, okp k → ok k ∧ some k ≠ v.ownBlock) (hfresh : ∀ k, W.heap.size ≤ k → ok k)
  (hown : w1.ownsRow base e d.sz v1 (xs.length + 1) (inner ++ cs)) (hg : W.grownBy w1 v.ownBlock) (hat : v1.ownBlock = v.ownBlock ∨ ∃ b, v1.ownBlock = some b ∧ W.heap.size ≤ b) : d.R e w1 base ok v1 (xs ++ [p]) := by
 have hne : ∀ k, some k ≠ v.ownBlock → k < W.heap.size → some k ≠ v1.ownBlock := by
  intro k hk hlt
  rcases hat with hat | ⟨b, hb, hle⟩
  ·rw [hat]; exact hk
  rw [hb]
  intro he
  injection he with he
  omega
 have step : ∀ {q : α} {c : List Value} {o : Nat → Prop}, d.M W base o q c → (∀ k, o k → ok k ∧ some k ≠ v.ownBlock) → d.M w1 base (fun k => ok k ∧ some k ≠ v1.ownBlock) q c := by
  intro q c o hq ho
  have h1 := d.M_move (w1 := w1) (fun k hk => hg.block k hk.2.2.1 (ho k hk.1).2) (d.M_bound hq)
  exact d.M_mono (fun k hk => ⟨(ho k hk.1).1, hne k (ho k hk.1).2 hk.2.2.1⟩) h1
 refine ⟨fun k hk => ?_, inner ++ cs, by rw [List.length_append, List.length_singleton]; exact hown, ?_⟩
 ·rcases hat with hat | ⟨b, hb, hle⟩
  ·exact h0 k (hat ▸ hk)
  ·rw [hb] at hk
   injection hk with hk
   exact hfresh k (by omega)
 ·exact (hr.imp_ (fun _ _ hq => step hq (fun _ hk => hk))).snoc (step hp hokp) (d.K_len (d.K_of_M hp))
section
variable {P : Program} {ops : Array Oper} {rest : List Oper} {o : Oper} {a : Act} {Q : Exit → Act → World → Prop} {α : Type}
theorem R_append (d : Kd α) {w0 W : World} (base : Nat) (hgd : o.guard = none) (s x : Operand) (t e : TypeId) (z : Value) (bytes : Nat)
  (ho : o.op = .call { callee := .builtin .append, args := #[s, x], argTypes := #[t, t] })
  (ht : P.underlying t = some (.slice e)) (hinfo : (P.info? e).map (fun i => (i.zero, i.size, i.bytes)) = some (some z, d.sz, bytes)) (hz : z.cells.size = d.sz) (hs0 : 0 < d.sz) (hb0 : 0 < bytes)
  (v : Value) (xs : List α) (p : α) (cs : List Value) (ok okp : Nat → Prop) (hs : a.eval s = v) (hx : a.eval x = .slice (some ⟨W.heap.size, 0, none⟩) 1 1) (hp : d.M W base okp p cs) (hokp : ∀ k, okp k → ok k ∧ some k ≠ v.ownBlock) (hfresh : ∀ k, W.heap.size ≤ k → ok k)
  (HO : d.R e W base ok v xs) (HB : Below base w0 W) (hbase : base ≤ W.heap.size) (hl : (xs.length + 1) * bytes ≤ 140737488355328)
  (h : ∀ v1 w1, d.R e w1 base ok v1 (xs ++ [p]) → Below base w0 w1 → W.grownBy w1 v.ownBlock → (v1.ownBlock = v.ownBlock ∨ ∃ b, v1.ownBlock = some b ∧ W.heap.size ≤ b) → wpList P ops Q rest (a.put o.dst v1) w1) :
  wpList P ops Q (o :: rest) a (W.alloc (.cells cs.toArray e)) := by
 obtain ⟨h0, inner, hown, hr⟩ := HO
 refine qCy base hgd s x t e z d.sz bytes ho ht hinfo hz hs0 hb0 v xs.length inner cs hs hx (d.K_len (d.K_of_M hp)) (d.K_one (d.K_of_M hp)) hown HB hbase hl ?_
 intro v1 w1 hown1 hb1 hg1 hat1
 exact h v1 w1 (R_appended h0 hr hp hokp hfresh hown1 hg1 hat1) hb1 hg1 hat1
end
section
variable {P : Program} {ops : Array Oper} {o : Oper} {a : Act} {Q : Exit → Act → World → Prop} {Kc : Act → World → Prop} {α : Type}
theorem R_append_step (d : Kd α) {w0 W : World} (base : Nat) (hw : Region.wanted o (yielded ops a.tmps) = true) (s x : Operand) (t e : TypeId) (z : Value) (bytes : Nat)
  (ho : o.op = .call { callee := .builtin .append, args := #[s, x], argTypes := #[t, t] })
  (ht : P.underlying t = some (.slice e)) (hinfo : (P.info? e).map (fun i => (i.zero, i.size, i.bytes)) = some (some z, d.sz, bytes)) (hz : z.cells.size = d.sz) (hs0 : 0 < d.sz) (hb0 : 0 < bytes)
  (v : Value) (xs : List α) (p : α) (cs : List Value) (ok okp : Nat → Prop) (hs : a.eval s = v) (hx : a.eval x = .slice (some ⟨W.heap.size, 0, none⟩) 1 1) (hp : d.M W base okp p cs) (hokp : ∀ k, okp k → ok k ∧ some k ≠ v.ownBlock) (hfresh : ∀ k, W.heap.size ≤ k → ok k)
  (HO : d.R e W base ok v xs) (HB : Below base w0 W) (hbase : base ≤ W.heap.size) (hl : (xs.length + 1) * bytes ≤ 140737488355328)
  (h : ∀ v1 w1, d.R e w1 base ok v1 (xs ++ [p]) → Below base w0 w1 → W.grownBy w1 v.ownBlock → (v1.ownBlock = v.ownBlock ∨ ∃ b, v1.ownBlock = some b ∧ W.heap.size ≤ b) → Kc (a.put o.dst v1) w1) :
  if Region.wanted o (yielded ops a.tmps) = true then Oper.wp P o a (W.alloc (.cells cs.toArray e)) Kc Q else Kc (a.put o.dst undef) (W.alloc (.cells cs.toArray e)) := by
 obtain ⟨h0, inner, hown, hr⟩ := HO
 refine qCH base hw s x t e z d.sz bytes ho ht hinfo hz hs0 hb0 v xs.length inner cs hs hx (d.K_len (d.K_of_M hp)) (d.K_one (d.K_of_M hp)) hown HB hbase hl ?_
 intro v1 w1 hown1 hb1 hg1 hat1
 exact h v1 w1 (R_appended h0 hr hp hokp hfresh hown1 hg1 hat1) hb1 hg1 hat1
end
theorem reps_scalar {α : Type} {enc : α → Value} (xs : List α) : Reps (fun (x : α) (cs : List Value) => cs = [enc x]) 1 xs (encs enc xs) := by
 refine ⟨by simp [encs], fun j p hj => ?_⟩
 obtain ⟨hl, hp⟩ := List.getElem?_eq_some_iff.1 hj
 have hl' : j < (encs enc xs).length := by rw [qDc]; exact hl
 rw [Nat.mul_one, List.drop_eq_getElem_cons hl']
 simp [encs, hp]
theorem R_of_own {α : Type} {enc : α → Value} {h1 : ∀ x, (enc x).oneCell' = true} {e : Nat} {w : World} {base : Nat} {ok : Nat → Prop} {v : Value} {xs : List α} (ho : w.ownsRow base e 1 v xs.length (encs enc xs)) (hok : ∀ k, v.ownBlock = some k → ok k) : (qB3 enc h1).R e w base ok v xs := ⟨hok, encs enc xs, ho, reps_scalar xs⟩
theorem own_of_R {α : Type} {enc : α → Value} {h1 : ∀ x, (enc x).oneCell' = true} {e : Nat} {w : World} {base : Nat} {ok : Nat → Prop} {v : Value} {xs : List α} (h : (qB3 enc h1).R e w base ok v xs) : w.ownsRow base e 1 v xs.length (encs enc xs) := by
 obtain ⟨_, inner, ho, hr⟩ := h
 have : inner = encs enc xs := by
  apply List.ext_getElem?
  intro j
  rcases Nat.lt_or_ge j xs.length with hj | hj
  ·have h2 := hr.2 j _ (List.getElem?_eq_getElem hj)
   have hl : j < inner.length := by have := hr.1; simp [qB3] at this; omega
   have h3 : (inner.drop (j * 1)).take 1 = [enc xs[j]] := h2
   rw [Nat.mul_one, List.drop_eq_getElem_cons hl] at h3
   have h4 : inner[j] = enc xs[j] := by
    have h5 := congrArg List.head? h3
    rw [List.take_succ_cons] at h5
    exact Option.some.inj h5
   rw [List.getElem?_eq_getElem hl, h4]
   simp [encs, List.getElem?_eq_getElem hj]
  have h3 : inner.length = xs.length := by have := hr.1; simp [qB3] at this; omega
  rw [List.getElem?_eq_none (by omega), List.getElem?_eq_none (by rw [qDc]; omega)]
 rw [← this]
 exact ho
theorem reads_of_C {α : Type} {enc : α → Value} {d : α} {h1 : ∀ x, (enc x).oneCell' = true} {w : World} {A : Option Addr} {n : Nat} {xs : List α} (h : (qB3 enc h1).C w A n xs) : ReadsOf enc d w A n xs := by
 refine ⟨h.1, h.2.1, fun hn => ?_⟩
 obtain ⟨ad, e, hc⟩ := h.2.2 hn
 refine ⟨ad, e, fun j hj => ?_⟩
 have hl : j < xs.length := by have := h.1; omega
 obtain ⟨c, _, hK, hcell⟩ := hc j _ (List.getElem?_eq_getElem hl)
 have hK' : c = [enc xs[j]] := hK
 subst hK'
 have := hcell 0 _ rfl
 simpa [qB3, List.getD_eq_getElem?_getD, List.getElem?_eq_getElem hl] using this
end Kd
namespace Kd
end Kd
namespace Kd
end Kd
namespace Kd
section
variable {α β : Type} {d : Kd α} {d' : Kd β} {e e' : Nat} {w w1 W : World} {base b b' : Nat} {ok ok' okv oku : Nat → Prop} {v u : Value} {xs : List α} {ys : List β}
theorem R_alloc (h : d.R e w base ok v xs) (o : Obj) : d.R e (w.alloc o) base ok v xs := R_below h (qAb (Below.refl _ _) o)
theorem R_drew (h : d.R e w base ok v xs) : d.R e w.drew base ok v xs := R_below h (qAr (Below.refl _ _))
theorem R_drewN (h : d.R e w base ok v xs) (m : Nat) : d.R e (w.drewN m) base ok v xs := R_below h (qAa (Below.refl _ _) m)
theorem C_alloc {A : Option Addr} {n : Nat} (h : d.C w A n xs) (o : Obj) : d.C (w.alloc o) A n xs := C_below h (qAb (Below.refl _ _) o)
theorem C_drew {A : Option Addr} {n : Nat} (h : d.C w A n xs) : d.C w.drew A n xs := C_below h (qAr (Below.refl _ _))
theorem C_drewN {A : Option Addr} {n : Nat} (h : d.C w A n xs) (m : Nat) : d.C (w.drewN m) A n xs := C_below h (qAa (Below.refl _ _) m)
theorem C_nil (d : Kd α) (w : World) : d.C w none ([] : List α).length [] := ⟨rfl, by simp, fun h => absurd h (Nat.lt_irrefl 0)⟩
theorem R_reads' {A : Option Addr} {n c : Nat} (h : d.R e w base ok (.slice A n c) xs) : n = xs.length ∧ n ≤ c ∧ d.C w A xs.length xs := by
 obtain ⟨A', c', he, hl, hr⟩ := R_reads h
 injection he with h1 h2 h3
 subst h1
 exact ⟨h2, by omega, hr⟩
theorem R_lt (h : d.R e w base ok v xs) : ∀ k, v.ownBlock = some k → k < w.heap.size := by
 obtain ⟨inner, ho⟩ := R_own h
 exact own_lt ho
theorem R_base (h : d.R e w base ok v xs) : ∀ k, v.ownBlock = some k → base ≤ k := by
 obtain ⟨inner, ho⟩ := R_own h
 exact qBN ho
theorem R_form (h : d.R e w base ok v xs) (hp : 0 < xs.length) : ∃ g cap, v = .slice (some ⟨g, 0, none⟩) xs.length cap ∧ base ≤ g ∧ g < w.heap.size ∧ ∃ cells, w.heap[g]? = some (.cells cells e (0, 0)) := by
 obtain ⟨inner, ho⟩ := R_own h
 obtain ⟨g, cap, he, hb, hl⟩ := ho.form hp
 obtain ⟨cells, hc⟩ := qDn ho g (by rw [he]; simp [Value.ownBlock])
 exact ⟨g, cap, he, hb, hl, cells, hc⟩
end
section
variable {w W : World} {A : Option Addr} {n : Nat}
theorem at_int {k : IntKind} {xs : List Int} (h : (Kd.int k).C w A n xs) (i : Int) (h0 : 0 ≤ i) (h1 : i < n) : ∃ ad, A = some ad ∧ w.cell? (ad.add i.toNat) = some (.int k (rd xs i)) :=
 ReadsOf.at_ (reads_of_C (enc := Value.int k) (d := (0 : Int)) (h1 := fun _ => rfl) h) i h0 h1
variable {α : Type} {enc : α → Value} {h1 : ∀ x, (enc x).oneCell' = true} {e base g cap : Nat} {ok : Nat → Prop} {xs : List α}
theorem R_cell (d : α) (h : (qB3 enc h1).R e W base ok (.slice (some ⟨g, 0, none⟩) xs.length cap) xs) (i : Int) (h0 : 0 ≤ i) (hi : i < xs.length) : W.cell? ⟨g, i.toNat, none⟩ = some (enc (rdOf d xs i)) ∧ W.frozen? ⟨g, i.toNat, none⟩ = false := own_at_of (own_of_R h) i h0 hi
theorem R_put (h : (qB3 enc h1).R e W base ok (.slice (some ⟨g, 0, none⟩) xs.length cap) xs) (i : Int) (x : α) : (qB3 enc h1).R e (W.setCell ⟨g, i.toNat, none⟩ (enc x)) base ok (.slice (some ⟨g, 0, none⟩) xs.length cap) (xs.set i.toNat x) ∧ W.grownBy (W.setCell ⟨g, i.toNat, none⟩ (enc x)) (some g) := by
 obtain ⟨ho, hg⟩ := own_store_of (own_of_R h) i x
 exact ⟨R_of_own (by rw [List.length_set]; exact ho) h.1, hg⟩
end
section
variable {P : Program} {ops : Array Oper} {rest : List Oper} {o : Oper} {a : Act} {Q : Exit → Act → World → Prop}
theorem event_run {W w1 : World} {v : Value} (hgd : o.guard = none) (hrun : (execOp a.eval o).run P W = .ok (.value v) w1) (h : wpList P ops Q rest (a.put o.dst v) w1) : wpList P ops Q (o :: rest) a W := by
 refine wpList_plain hgd fun K hK => ?_
 unfold Oper.wp
 rw [hrun]
 exact hK _ _ h
variable {α : Type}
theorem R_lit (d : Kd α) {w0 W : World} (base e : Nat) (hgd : o.guard = none) {N : Tmp} (_hd : o.dst = some N) {xs : List α} {inner : List Value} {ok okp : Nat → Prop}
  (hrun : (execOp a.eval o).run P W = .ok (.value (.slice (some ⟨W.heap.size, 0, none⟩) xs.length xs.length)) (W.alloc (.cells inner.toArray e)))
  (hrep : Reps (d.M W base okp) d.sz xs inner) (hok : ∀ k, okp k → ok k) (hfresh : ok W.heap.size) (HB : Below base w0 W) (hbase : base ≤ W.heap.size) (hm : xs.length ≤ 9223372036854775807)
  (h : ∀ v1 w1, d.R e w1 base ok v1 xs → Below base w0 w1 → W.grownBy w1 none → (∃ b, v1.ownBlock = some b ∧ W.heap.size ≤ b) → wpList P ops Q rest (a.put o.dst v1) w1) : wpList P ops Q (o :: rest) a W := by
 refine event_run hgd hrun (h _ _ ⟨fun k hk => ?_, inner, ?_, ?_⟩ (HB.alloc hbase _) (World.grownBy_alloc W _ none) ⟨W.heap.size, by simp [Value.ownBlock], Nat.le_refl _⟩)
 ·have : W.heap.size = k := by simpa [Value.ownBlock] using hk
  subst this
  exact hfresh
 ·have h2 := World.ownsRow_lit (base := base) (e := e) (size := d.sz) W inner.toArray xs.length hbase (by simpa [maxLen] using hm) (by simpa using hrep.1)
  simpa using h2
 ·refine hrep.imp_ (fun p c hp => d.M_mono (fun k hk => ⟨hok k hk.1, fun he => ?_⟩) (M_below (d.M_bound hp) (qAb (Below.refl _ _) _)))
  have h3 : k = W.heap.size := by simpa [Value.ownBlock] using he
  have := hk.2.2.1
  omega
theorem reps_made {α : Type} {R : α → List Value → Prop} {z : Value} {size : Nat} {z0 : α} (hz : z.cells.size = size) (hs : 0 < size) (h0 : R z0 z.cells.toList) (m : Nat) : Reps R size (List.replicate m z0) (madeCells z.cells (m * size)).toList := by
 refine ⟨by simp [size_madeCells], fun j p hj => ?_⟩
 obtain ⟨hjl, hp⟩ := List.getElem?_eq_some_iff.1 hj
 have hjm : j < m := by simpa using hjl
 have hp' : z0 = p := by simpa using hp
 subst hp'
 have hle : j * size + size ≤ m * size := by rw [← Nat.succ_mul]; exact Nat.mul_le_mul_right _ hjm
 have : ((madeCells z.cells (m * size)).toList.drop (j * size)).take size = z.cells.toList := by
  apply List.ext_getElem
  ·simp [size_madeCells, hz]
   omega
  intro i h1 h2
  have hi : i < size := by rw [Array.length_toList, hz] at h2; exact h2
  have hmod : (j * size + i) % size = i := by
   rw [Nat.mul_comm, Nat.mul_add_mod]
   exact Nat.mod_eq_of_lt hi
  simp [madeCells, hz, hmod]
  rw [getElem!_pos z.cells i (by omega)]
 rw [this]
 exact h0
theorem R_make (d : Kd α) {w0 W : World} (base e : Nat) (hgd : o.guard = none) {N : Tmp} (hd : o.dst = some N) (t : TypeId) (x y : Operand) (ho : o.op = .makeSlice t x y) (n : Int) (hx : a.eval x = .int .i64 n) (hy : a.eval y = .int .i64 n)
  (ht : P.underlying t = some (.slice e)) (z : Value) (bytes : Nat) (hinfo : (P.info? e).map (fun i => (i.zero, i.size, i.bytes)) = some (some z, d.sz, bytes)) (hz : z.cells.size = d.sz) (hs0 : 0 < d.sz) (hb0 : 0 < bytes)
  (z0 : α) {ok okp : Nat → Prop} (hzero : d.M W base okp z0 z.cells.toList) (hok : ∀ k, okp k → ok k) (hfresh : ok W.heap.size) (h0 : 0 ≤ n) (hl : n.toNat * bytes ≤ 281474976710656) (HB : Below base w0 W) (hbase : base ≤ W.heap.size)
  (h : ∀ v1 w1, d.R e w1 base ok v1 (List.replicate n.toNat z0) → Below base w0 w1 → W.grownBy w1 none → (∃ b, v1.ownBlock = some b ∧ W.heap.size ≤ b) → wpList P ops Q rest (a.put o.dst v1) w1) : wpList P ops Q (o :: rest) a W := by
 obtain ⟨m, rfl⟩ := Int.eq_ofNat_of_zero_le h0
 simp only [Int.toNat_natCast] at hl h
 obtain ⟨i0, hi, hzz⟩ := Option.map_eq_some_iff.1 hinfo
 simp only [Prod.mk.injEq] at hzz
 obtain ⟨hz0, hz1, hz2⟩ := hzz
 have hm : m ≤ 281474976710656 := Nat.le_trans (Nat.le_mul_of_pos_right _ hb0) hl
 have hr := run_make (P := P) W t e i0 z ht hi hz0 .i64 .i64 (m : Int) (m : Int) (by omega) (by omega)
  (by
    have h3 : ((i0.bytes * m : Nat) : Int) ≤ 281474976710656 := by rw [hz2, Nat.mul_comm]; omega
    rwa [Int.natCast_mul] at h3) (by omega)
 simp only [Int.toNat_natCast] at hr
 rw [hz1] at hr
 refine R_lit d base e hgd hd (xs := List.replicate m z0) (inner := (madeCells z.cells (m * d.sz)).toList) (okp := okp) (ok := ok) ?_ (reps_made hz hs0 hzero m) hok hfresh HB hbase (by simp; omega) h
 simp [execOp, ho, hx, hy, hr]
end
end Kd
theorem own_take {w : World} {base n m c size : Nat} {e : TypeId} {A : Option Addr} {xs : List Value} (h : w.ownsRow base e size (.slice A n c) n xs) (hm : m ≤ n) : w.ownsRow base e size (.slice A m c) m (xs.take (m * size)) := by
 obtain ⟨h1, h2⟩ := h
 refine ⟨by rw [List.length_take, h1]; exact Nat.min_eq_left (Nat.mul_le_mul_right _ hm), ?_⟩
 rcases h2 with ⟨he, h0⟩ | ⟨g, cap, cur, he, hb, hh, hnc, hcm, hcs, ht⟩
 ·injection he with ha _ hc
  subst ha; subst hc
  exact .inl ⟨by rw [show m = 0 by omega], by omega⟩
 injection he with ha _ hc
 subst ha; subst hc
 refine .inr ⟨g, c, cur, rfl, hb, hh, by omega, hcm, hcs, ?_⟩
 rw [← ht, List.take_take, Nat.min_eq_left (Nat.mul_le_mul_right _ hm)]
def QRow (w : World) (base : Nat) (e : TypeId) (size : Nat) (v : Value) (n : Nat) (xs : List Value) : Prop :=
 xs.length = n * size ∧
 ((n = 0 ∧ ∃ A, v = .slice A 0 0 ∧ ∀ a, A = some a → base ≤ a.block ∧ ∃ cur, w.heap[a.block]? = some (.cells cur e (0, 0))) ∨
  ∃ g off cap cur, v = .slice (some ⟨g, off * size, none⟩) n cap ∧ base ≤ g ∧ w.heap[g]? = some (.cells cur e (0, 0)) ∧ n ≤ cap ∧ off + cap ≤ maxLen ∧ cur.size = (off + cap) * size ∧ (cur.toList.drop (off * size)).take (n * size) = xs)
section
variable {w w1 : World} {base n size : Nat} {e : TypeId} {v : Value} {xs : List Value}
theorem qCN {g : Nat} : ∀ (vs : List Value) (o : Nat) {w : World} (k : Nat), k ≠ g → (w.setCells g o vs).heap[k]? = w.heap[k]?
 | [], _, _, _, _ => rfl
 | v :: r, o, w, k, hk => by
  rw [World.setCells, qCN r (o + 1) k hk]
  exact Below.heap_setCell w ⟨g, o, none⟩ v k hk
theorem qC2 (g : Nat) : ∀ (vs : List Value) (o : Nat) (w : World), (w.setCells g o vs).os = w.os ∧ (w.setCells g o vs).tape = w.tape ∧ (w.setCells g o vs).output = w.output ∧ (w.setCells g o vs).heap.size = w.heap.size
 | [], _, _ => ⟨rfl, rfl, rfl, rfl⟩
 | v :: r, o, w => by
  obtain ⟨h1, h2, h3, h4⟩ := qC2 g r (o + 1) (w.setCell ⟨g, o, none⟩ v)
  rw [World.setCells]
  exact ⟨h1, h2, h3, by rw [h4]; simp [World.setCell]⟩
theorem qCO {g : Nat} {e : TypeId} : ∀ (vs : List Value) (o : Nat) (w : World) (cur : Array Value), w.heap[g]? = some (.cells cur e (0, 0)) → o + vs.length ≤ cur.size →
  ∃ cur', (w.setCells g o vs).heap[g]? = some (.cells cur' e (0, 0)) ∧ cur'.size = cur.size ∧ cur'.toList = cur.toList.take o ++ vs ++ cur.toList.drop (o + vs.length)
 | [], o, w, cur, h, _ => ⟨cur, h, rfl, by simp⟩
 | v :: r, o, w, cur, h, hl => by
  have h2 := blk_set h o v
  simp only [List.length_cons] at hl
  obtain ⟨cur', h3, h4, h5⟩ := qCO r (o + 1) (w.setCell ⟨g, o, none⟩ v) _ h2 (by simp; omega)
  refine ⟨cur', h3, by rw [h4]; simp, ?_⟩
  rw [h5, Array.toList_setIfInBounds]
  have ho : o < cur.toList.length := by rw [Array.length_toList]; omega
  rw [List.take_set, List.drop_set_of_lt (by omega)]
  simp only [List.length_cons]
  rw [show o + 1 + r.length = o + (r.length + 1) by omega]
  congr 1
  rw [List.take_succ_eq_append_getElem ho, List.set_append_right _ _ (by rw [List.length_take]; omega)]
  have ho' : o < cur.size := by omega
  simp [Nat.min_eq_left (Nat.le_of_lt ho')]
end
namespace Kd
theorem reps_take {α : Type} {R : α → List Value → Prop} {size m : Nat} {ps : List α} {cs : List Value} (h : Reps R size ps cs) (hm : m ≤ ps.length) : Reps R size (ps.take m) (cs.take (m * size)) := by
 refine ⟨by rw [List.length_take, List.length_take, h.1, Nat.min_eq_left hm, Nat.min_eq_left (Nat.mul_le_mul_right _ hm)], fun j p hj => ?_⟩
 rw [List.getElem?_take] at hj
 split at hj
 ·rename_i hjm
  have := h.2 j p hj
  have hle : j * size + size ≤ m * size := by rw [← Nat.succ_mul]; exact Nat.mul_le_mul_right _ hjm
  rw [List.drop_take, List.take_take, Nat.min_eq_left (by omega)]
  exact this
 cases hj
theorem R_take {α : Type} {d : Kd α} {e m n c : Nat} {w : World} {base : Nat} {ok : Nat → Prop} {A : Option Addr} {xs : List α} (h : d.R e w base ok (.slice A n c) xs) (hm : m ≤ xs.length) : d.R e w base ok (.slice A m c) (xs.take m) := by
 obtain ⟨h0, inner, ho, hr⟩ := h
 have hn : n = xs.length := by
  obtain ⟨A', c', he⟩ := own_slice ho
  injection he
 subst hn
 have hb : ∀ x y : Nat, (Value.slice A x c).ownBlock = (Value.slice A y c).ownBlock := by
  intro x y
  cases A <;> rfl
 refine ⟨fun k hk => h0 k (by rw [hb _ m]; exact hk), inner.take (m * d.sz), ?_, ?_⟩
 ·rw [List.length_take, Nat.min_eq_left hm]
  exact own_take ho hm
 rw [hb m xs.length]
 exact reps_take hr hm
def Q {α : Type} (d : Kd α) (e : Nat) (w : World) (base : Nat) (ok : Nat → Prop) (v : Value) (xs : List α) : Prop :=
 (∀ k, v.ownBlock = some k → ok k) ∧ ∃ inner, QRow w base e d.sz v xs.length inner ∧ Reps (d.M w base (fun k => ok k ∧ some k ≠ v.ownBlock)) d.sz xs inner
end Kd
namespace Kd
section
variable {α : Type} {d : Kd α} {e e' : Nat} {w w1 W : World} {base : Nat} {ok : Nat → Prop} {u v : Value} {xs : List α}
theorem R_elder' (hu : d.R e W base ok u xs) (hbase : ∀ k, v.ownBlock = some k → W.heap.size ≤ k) (hb : Below W.heap.size W w1) : d.R e w1 base (fun k => ok k ∧ some k ≠ v.ownBlock) u xs :=
 R_mono (R_move (R_bound hu) (fun k hk => hb.block k hk.2.2.1)) (fun k hk => ⟨hk.1, fun he => by have := hbase k he.symm; have := hk.2.2.1; omega⟩)
theorem R_new' (h : d.R e w1 W.heap.size ok v xs) (hlt : ∀ k, u.ownBlock = some k → k < W.heap.size) : d.R e w1 W.heap.size (fun k => ok k ∧ some k ≠ u.ownBlock) v xs :=
 R_mono (R_bound h) (fun k hk => ⟨hk.1, fun he => by have := hlt k he.symm; have := hk.2.1; omega⟩)
end
end Kd
theorem qDr {α : Type} (a seg : List α) (o : Nat) (h : o + seg.length ≤ a.length) (q : Nat) :
  (a.take o ++ seg ++ a.drop (o + seg.length))[q]? = if q < o then a[q]? else if q < o + seg.length then seg[q - o]? else a[q]? := by
 have hl : (a.take o).length = o := by rw [List.length_take]; omega
 rw [List.append_assoc]
 by_cases h1 : q < o
 ·rw [if_pos h1, List.getElem?_append_left (by omega), List.getElem?_take, if_pos h1]
 ·rw [if_neg h1, List.getElem?_append_right (by omega), hl]
  by_cases h2 : q < o + seg.length
  ·rw [if_pos h2, List.getElem?_append_left (by omega)]
  ·rw [if_neg h2, List.getElem?_append_right (by omega), List.getElem?_drop]
   congr 1
   omega
namespace Kd
section
variable {α : Type} {d : Kd α} {e base g n cap : Nat} {ok okp : Nat → Prop} {W : World} {xs : List α}
theorem R_elem (h : d.R e W base ok (.slice (some ⟨g, 0, none⟩) n cap) xs) (z : α) (i : Int) (h0 : 0 ≤ i) (h1 : i < n) :
  ∃ c, c.length = d.sz ∧ d.M W base (fun k => ok k ∧ k ≠ g) (xs.getD i.toNat z) c ∧ (∀ j u, c[j]? = some u → W.cell? ⟨g, i.toNat * d.sz + j, none⟩ = some u) ∧ ∀ j, W.frozen? ⟨g, i.toNat * d.sz + j, none⟩ = false := by
 obtain ⟨hn, hnc, hC⟩ := R_reads' h
 obtain ⟨_, inner, ho, hr⟩ := h
 have hil : i.toNat < xs.length := by omega
 have hseg : i.toNat * d.sz + d.sz ≤ inner.length := by rw [hr.1, ← Nat.succ_mul]; exact Nat.mul_le_mul_right _ hil
 have hM := hr.2 i.toNat _ (List.getElem?_eq_getElem hil)
 refine ⟨(inner.drop (i.toNat * d.sz)).take d.sz, by rw [List.length_take, List.length_drop]; omega, ?_, fun j u hu => ?_, fun j => ?_⟩
 ·rw [List.getD_eq_getElem?_getD, List.getElem?_eq_getElem hil]
  exact d.M_mono (fun k hk => ⟨hk.1, fun he => hk.2 (by rw [he]; simp [Value.ownBlock])⟩) hM
 ·rw [List.getElem?_take] at hu
  split at hu
  ·rw [List.getElem?_drop] at hu
   have := ho.cells (g := g) (by simp [Value.ownBlock]) _ u hu
   rwa [add_plain] at this
  ·cases hu
 ·obtain ⟨cells, hc⟩ := qDn ho g (by simp [Value.ownBlock])
  exact qAm hc _
theorem R_seg (h : d.R e W base ok (.slice (some ⟨g, 0, none⟩) n cap) xs) (i : Int) (h0 : 0 ≤ i) (h1 : i < n) {c seg : List Value} {j : Nat} (hcl : c.length = d.sz) (hcc : ∀ j u, c[j]? = some u → W.cell? ⟨g, i.toNat * d.sz + j, none⟩ = some u)
  (hj : j + seg.length ≤ d.sz) {x' : α} (hM : d.M W base okp x' (c.take j ++ seg ++ c.drop (j + seg.length))) (hokp : ∀ k, okp k → ok k ∧ k ≠ g) :
  d.R e (W.setCells g (i.toNat * d.sz + j) seg) base ok (.slice (some ⟨g, 0, none⟩) n cap) (xs.set i.toNat x') ∧ W.grownBy (W.setCells g (i.toNat * d.sz + j) seg) (some g) := by
 obtain ⟨hn, hnc, _⟩ := R_reads' h
 obtain ⟨hok, inner, ho, hr⟩ := h
 have hil : i.toNat < xs.length := by omega
 have hseg : i.toNat * d.sz + d.sz ≤ inner.length := by rw [hr.1, ← Nat.succ_mul]; exact Nat.mul_le_mul_right _ hil
 have hin : inner.length = n * d.sz := by rw [hr.1, hn]
 obtain ⟨ho1, ho2⟩ := ho
 rcases ho2 with ⟨hv, _⟩ | ⟨g', cap', cur, hv, hb, hh, hnc', hcm, hcs, ht⟩
 ·cases hv
 injection hv with ha _ hc
 injection ha with ha
 injection ha with hg
 subst hg; subst hc
 have hfit : i.toNat * d.sz + j + seg.length ≤ cur.size := by
  have : n * d.sz ≤ cap * d.sz := Nat.mul_le_mul_right _ hnc
  omega
 obtain ⟨cur', h3, h4, h5⟩ := qCO seg (i.toNat * d.sz + j) W cur hh hfit
 obtain ⟨s1, s2, s3, s4⟩ := qC2 g seg (i.toNat * d.sz + j) W
 have hfar : ∀ k, k ≠ g → (W.setCells g (i.toNat * d.sz + j) seg).heap[k]? = W.heap[k]? := fun k hk => qCN seg _ k hk
 have hcin : ∀ q, q < d.sz → c[q]? = inner[i.toNat * d.sz + q]? := by
  intro q hq
  have hq' : q < c.length := by omega
  have h6 := hcc q _ (List.getElem?_eq_getElem hq')
  rw [cell_of_row W g _ cur e (0, 0) hh] at h6
  rw [List.getElem?_eq_getElem hq', ← h6, ← ht, List.getElem?_take, if_pos (by rw [← hn]; omega), Array.getElem?_toList]
 refine ⟨⟨hok, inner.take (i.toNat * d.sz + j) ++ seg ++ inner.drop (i.toNat * d.sz + j + seg.length), ⟨?_, .inr ⟨g, cap, cur', by rw [List.length_set, hn], hb, h3, by rw [List.length_set, ← hn]; exact hnc, hcm, by rw [h4, hcs], ?_⟩⟩, ?_⟩,
   ⟨s1, s2, s3, by rw [s4]; exact Nat.le_refl _, fun k _ hk => hfar k (fun he => hk (by rw [he]))⟩⟩
 ·rw [List.length_set]
  simp only [List.length_append, List.length_take, List.length_drop]
  rw [hr.1] at hseg ⊢
  omega
 ·rw [List.length_set, ← hn]
  apply List.ext_getElem?
  intro q
  rw [List.getElem?_take, h5]
  rw [qDr cur.toList seg (i.toNat * d.sz + j) (by rw [Array.length_toList]; omega) q, qDr inner seg (i.toNat * d.sz + j) (by omega) q]
  have hcur : ∀ q, q < n * d.sz → cur.toList[q]? = inner[q]? := by
   intro q hq
   rw [← ht, List.getElem?_take, if_pos (by rw [← hn]; exact hq)]
  by_cases hq : q < n * d.sz
  ·rw [if_pos hq, hcur q hq]
  ·rw [if_neg hq, if_neg (by omega), if_neg (by omega), List.getElem?_eq_none (by omega)]
 ·refine ⟨?_, fun m p hm => ?_⟩
  ·rw [List.length_set]
   simp only [List.length_append, List.length_take, List.length_drop]
   rw [hr.1] at hseg ⊢
   omega
  ·have hml : m < xs.length := by
    have := (List.getElem?_eq_some_iff.1 hm).1
    rwa [List.length_set] at this
   have hmfit : m * d.sz + d.sz ≤ inner.length := by rw [hr.1, ← Nat.succ_mul]; exact Nat.mul_le_mul_right _ hml
   have hgo : some g = (Value.slice (some ⟨g, 0, none⟩) n cap).ownBlock := by simp [Value.ownBlock]
   by_cases hmi : m = i.toNat
   ·subst hmi
    rw [List.getElem?_set_self (by omega)] at hm
    injection hm with hm
    subst hm
    have hcells : ((inner.take (i.toNat * d.sz + j) ++ seg ++ inner.drop (i.toNat * d.sz + j + seg.length)).drop (i.toNat * d.sz)).take d.sz = c.take j ++ seg ++ c.drop (j + seg.length) := by
     apply List.ext_getElem?
     intro q
     rw [List.getElem?_take, List.getElem?_drop, qDr inner seg _ (by omega), qDr c seg j (by omega) q]
     by_cases hq : q < d.sz
     rotate_left
     ·rw [if_neg hq, if_neg (by omega), if_neg (by omega), List.getElem?_eq_none (by omega)]
     rw [if_pos hq, hcin q hq]
     by_cases hq1 : q < j
     ·rw [if_pos (by omega), if_pos hq1]
     rw [if_neg (by omega), if_neg hq1]
     by_cases hq2 : q < j + seg.length
     rotate_left
     ·rw [if_neg (by omega), if_neg hq2]
     rw [if_pos (by omega), if_pos hq2]
     congr 1
     omega
    rw [hcells]
    refine d.M_mono (fun k hk => ?_) (d.M_move (w1 := W.setCells g (i.toNat * d.sz + j) seg) (fun k hk => hfar k (hokp k hk).2) hM)
    exact ⟨(hokp k hk).1, fun he => (hokp k hk).2 (by rw [← hgo] at he; injection he)⟩
   ·rw [List.getElem?_set_ne (by omega)] at hm
    have hold := hr.2 m p hm
    have hcells : ((inner.take (i.toNat * d.sz + j) ++ seg ++ inner.drop (i.toNat * d.sz + j + seg.length)).drop (m * d.sz)).take d.sz = (inner.drop (m * d.sz)).take d.sz := by
     apply List.ext_getElem?
     intro q
     rw [List.getElem?_take, List.getElem?_take, List.getElem?_drop, List.getElem?_drop, qDr inner seg _ (by omega)]
     by_cases hq : q < d.sz
     rotate_left
     ·rw [if_neg hq, if_neg hq]
     rw [if_pos hq, if_pos hq]
     rcases Nat.lt_or_gt_of_ne hmi with hlt | hgt
     ·have : m * d.sz + d.sz ≤ i.toNat * d.sz := by rw [← Nat.succ_mul]; exact Nat.mul_le_mul_right _ hlt
      rw [if_pos (by omega)]
     have : i.toNat * d.sz + d.sz ≤ m * d.sz := by rw [← Nat.succ_mul]; exact Nat.mul_le_mul_right _ hgt
     rw [if_neg (by omega), if_neg (by omega)]
    rw [hcells]
    refine d.M_move (fun k hk => hfar k (fun he => hk.2 (by rw [he]; exact hgo))) hold
end
end Kd
namespace Kd
end Kd
namespace Kd
theorem qDp {α : Type} {R : α → List Value → Prop} {size : Nat} {ps qs : List α} {cs ds : List Value} (h : Reps R size ps cs) (h' : Reps R size qs ds) : Reps R size (ps ++ qs) (cs ++ ds) := by
 refine ⟨by rw [List.length_append, List.length_append, h.1, h'.1, Nat.add_mul], fun j p hj => ?_⟩
 rcases Nat.lt_or_ge j ps.length with hlt | hge
 ·rw [List.getElem?_append_left hlt] at hj
  have hle : j * size + size ≤ cs.length := by rw [h.1, ← Nat.succ_mul]; exact Nat.mul_le_mul_right _ hlt
  rw [List.drop_append_of_le_length (by omega), List.take_append_of_le_length (by rw [List.length_drop]; omega)]
  exact h.2 j p hj
 rw [List.getElem?_append_right hge] at hj
 have h2 := h'.2 (j - ps.length) p hj
 have hle : ps.length * size ≤ j * size := Nat.mul_le_mul_right _ hge
 rw [List.drop_append, List.drop_eq_nil_of_le (by rw [h.1]; exact hle), List.nil_append, h.1, ← Nat.sub_mul]
 exact h2
section
variable {P : Program} {ops : Array Oper} {rest : List Oper} {o : Oper} {a : Act} {Q : Exit → Act → World → Prop} {α : Type}
theorem R_append_rows (d : Kd α) {Rr : α → List Value → Prop} {w0 W : World} (base : Nat) (hgd : o.guard = none) (s x : Operand) (t e : TypeId) (z : Value) (bytes : Nat)
  (ho : o.op = .call { callee := .builtin .append, args := #[s, x], argTypes := #[t, t] })
  (ht : P.underlying t = some (.slice e)) (hinfo : (P.info? e).map (fun i => (i.zero, i.size, i.bytes)) = some (some z, d.sz, bytes)) (hz : z.cells.size = d.sz) (hs0 : 0 < d.sz) (hb0 : 0 < bytes)
  (v : Value) (xs ys : List α) (A : Option Addr) (m c : Nat) (ok okp : Nat → Prop) (hs : a.eval s = v) (hx : a.eval x = .slice A m c)
  (HO : d.R e W base ok v xs) (HR : qAJ Rr d.sz W A m ys) (hKM : ∀ x cs, Rr x cs → d.M W base okp x cs) (hokp : ∀ k, okp k → ok k ∧ some k ≠ v.ownBlock) (hfresh : ∀ k, W.heap.size ≤ k → ok k)
  (HB : Below base w0 W) (hbase : base ≤ W.heap.size) (hl : (xs.length + m) * bytes ≤ 140737488355328)
  (h : ∀ v1 w1, d.R e w1 base ok v1 (xs ++ ys) → Below base w0 w1 → W.grownBy w1 v.ownBlock → (v1.ownBlock = v.ownBlock ∨ ∃ b, v1.ownBlock = some b ∧ W.heap.size ≤ b) → wpList P ops Q rest (a.put o.dst v1) w1) :
  wpList P ops Q (o :: rest) a W := by
 obtain ⟨i0, hi, hzz⟩ := Option.map_eq_some_iff.1 hinfo
 simp only [Prod.mk.injEq] at hzz
 obtain ⟨hz0, hz1, hz2⟩ := hzz
 have hm : ys.length = m := HR.1
 have hlen : xs.length + m ≤ 140737488355328 := Nat.le_trans (Nat.le_mul_of_pos_right _ hb0) hl
 obtain ⟨hok, inner, hown, hr⟩ := HO
 have hrun : ∃ v1 w1, (Builtin.append_ #[t, t] o.type #[v, .slice A m c]).run P W = .ok v1 w1 ∧ d.R e w1 base ok v1 (xs ++ ys) ∧ W.grownBy w1 v.ownBlock ∧ (v1.ownBlock = v.ownBlock ∨ ∃ b, v1.ownBlock = some b ∧ W.heap.size ≤ b) := by
  rcases A with _ | ad
  ·have h0 : m = 0 := by
    rcases Nat.eq_zero_or_pos m with h0 | h0
    ·exact h0
    obtain ⟨ad, h, _⟩ := HR.2.2 h0
    cases h
   subst h0
   obtain rfl : ys = [] := List.eq_nil_of_length_eq_zero hm
   refine ⟨v, W, ?_, by rw [List.append_nil]; exact ⟨hok, inner, hown, hr⟩, World.grownBy.refl W _, .inl rfl⟩
   rcases hown.2 with ⟨rfl, hn⟩ | ⟨g, cap, cur, rfl, _, _, hnc, _⟩
   ·simp [Builtin.append_, run_underlying ht, sizeOf, typeInfo, hi, Builtin.lenOf, Builtin.firstCells]
   simp [Builtin.append_, run_underlying ht, sizeOf, typeInfo, hi, Builtin.lenOf, Builtin.firstCells, hnc, storeCells]
  obtain ⟨news, hnr, hnc⟩ := qAJ.inner_ HR
  have hnM : Reps (d.M W base okp) d.sz ys news := hnr.imp_ (fun p c hp => hKM p c hp)
  have hone : ∀ u ∈ news, u.oneCell' = true := by
   intro u hu
   obtain ⟨q, hq, rfl⟩ := List.mem_iff_getElem.1 hu
   have hql : q / d.sz < ys.length := by
    rw [Nat.div_lt_iff_lt_mul hs0]
    rw [← hnM.1]
    exact hq
   have hc := hnM.2 (q / d.sz) _ (List.getElem?_eq_getElem hql)
   refine d.K_one (d.K_of_M hc) _ ?_
   rw [List.mem_iff_getElem?]
   refine ⟨q % d.sz, ?_⟩
   rw [List.getElem?_take, if_pos (Nat.mod_lt _ hs0), List.getElem?_drop, Nat.mul_comm, Nat.div_add_mod, List.getElem?_eq_getElem hq]
  obtain ⟨v1, w1, hrun, h2, hg, _, hat⟩ := run_append_own_at (P := P) W base t o.type e i0 z d.sz bytes ht hi hz0 hz1 hz2 hz hs0 v xs.length inner hown ad m c news (by rw [hnM.1, hm]) hnc hone (by simp only [maxLen]; omega) hl hbase
  have hat' : v1.ownBlock = v.ownBlock ∨ ∃ b, v1.ownBlock = some b ∧ W.heap.size ≤ b := by
   rcases hat with hat | hat
   ·exact .inl hat
   exact .inr ⟨_, hat, Nat.le_refl _⟩
  have hne : ∀ k, some k ≠ v.ownBlock → k < W.heap.size → some k ≠ v1.ownBlock := by
   intro k hk hlt
   rcases hat' with hat | ⟨b, hb, hle⟩
   ·rw [hat]; exact hk
   rw [hb]
   intro he
   injection he with he
   omega
  have step : ∀ {q : α} {c : List Value} {o : Nat → Prop}, d.M W base o q c → (∀ k, o k → ok k ∧ some k ≠ v.ownBlock) → d.M w1 base (fun k => ok k ∧ some k ≠ v1.ownBlock) q c := by
   intro q c o hq ho
   have h1 := d.M_move (w1 := w1) (fun k hk => hg.block k hk.2.2.1 (ho k hk.1).2) (d.M_bound hq)
   exact d.M_mono (fun k hk => ⟨(ho k hk.1).1, hne k (ho k hk.1).2 hk.2.2.1⟩) h1
  refine ⟨v1, w1, hrun, ⟨fun k hk => ?_, inner ++ news, by rw [List.length_append, hm]; exact h2, qDp (hr.imp_ (fun _ _ hq => step hq (fun _ hk => hk))) (hnM.imp_ (fun _ _ hq => step hq hokp))⟩, hg, hat'⟩
  rcases hat' with hat | ⟨b, hb, hle⟩
  ·exact hok k (hat ▸ hk)
  rw [hb] at hk
  injection hk with hk
  exact hfresh k (by omega)
 obtain ⟨v1, w1, hr1, h1, hg, hat⟩ := hrun
 refine wpList_plain hgd fun K hK => ?_
 unfold Oper.wp execOp
 simp only [ho, resolve, invoke, builtin, Sem.run_bind, Sem.run_pure, Result.andThen_ok, List.map_toArray, List.map_cons, List.map_nil, hs, hx, hr1]
 exact hK _ _ (h v1 w1 h1 (HB.grown hg hbase (qBN hown)) hg hat)
end
end Kd
namespace Kd
end Kd
namespace Kd
section
variable {α : Type} {k : Kd α} {w : World} {A : Option Addr} {xs : List α} {m c : Nat}
theorem C_take (h : k.C w A xs.length xs) (hm : m ≤ xs.length) : k.C w A (xs.take m).length (xs.take m) := by
 have hl : (xs.take m).length = m := by rw [List.length_take]; omega
 refine ⟨rfl, by rw [hl]; have := h.2.1; omega, fun hp => ?_⟩
 obtain ⟨ad, e, hc⟩ := h.2.2 (by omega)
 refine ⟨ad, e, fun j p hj => hc j p ?_⟩
 rw [List.getElem?_take] at hj
 split at hj
 ·exact hj
 cases hj
end
end Kd
theorem qDt {P : Program} {w : World} {src dst e : TypeId} {A : Option Addr} {n c : Nat} {xs : List Int} (hs : P.underlying src = some (.slice e)) (he : P.underlying e = some (.int .u8)) (hd : P.underlying dst = some .string)
  (h : ReadsInt w .u8 A n xs) : (convert src dst (.slice A n c)).run P w = .ok (.string (strOfNums xs)) w := by
 have hn : xs.length = n := h.1
 rcases A with _ | ad
 ·have h0 : n = 0 := by
   rcases Nat.eq_zero_or_pos n with h0 | h0
   ·exact h0
   obtain ⟨ad, h', _⟩ := h.2.2 h0
   cases h'
  subst h0
  obtain rfl : xs = [] := List.eq_nil_of_length_eq_zero hn
  exact run_convert_bytes_nil w src e hs he 0 c dst hd
 ·have hl : (loadCells ad n).run P w = .ok (xs.map (Value.int .u8)).toArray w := by
   have := run_loadCells_list (P := P) w ad (xs.map (Value.int .u8)) (fun j v hj => by
     have hjl : j < xs.length := by
       rcases Nat.lt_or_ge j xs.length with h' | h'
       · exact h'
       rw [List.getElem?_eq_none (by rw [List.length_map]; exact h')] at hj
       cases hj
     obtain ⟨ad', he', hc⟩ := h.2.2 (by omega)
     injection he' with he'
     subst he'
     rw [hc j (by omega)]
     rw [List.getElem?_map, List.getElem?_eq_getElem hjl] at hj
     simp at hj
     subst hj
     simp [List.getD_eq_getElem?_getD, List.getElem?_eq_getElem hjl])
   simpa [hn] using this
  rw [run_convert_bytes_string w src dst e _ n c hs he hd, run_bytesToString w ad n c xs hl, foldl_push_bytes]
  simp [strOfNums, ByteArray.empty, ByteArray.emptyWithCapacity]
  rfl
theorem Kd.C_string {P : Program} {w : World} {src dst e : TypeId} {A : Option Addr} {n c : Nat} {xs : List Int} (hs : P.underlying src = some (.slice e)) (he : P.underlying e = some (.int .u8)) (hd : P.underlying dst = some .string)
  (h : (Kd.int .u8).C w A n xs) : (convert src dst (.slice A n c)).run P w = .ok (.string (strOfNums xs)) w :=
 qDt hs he hd (Kd.reads_of_C (enc := Value.int .u8) (d := (0 : Int)) (h1 := fun _ => rfl) h)
theorem qA2 {w W : World} (h : Below w.heap.size w W) : w.heap.size ≤ W.heap.size := h.size
theorem qAt {w W w2 : World} (h : Below w.heap.size w W) (k : Below W.heap.size W w2) : Below w.heap.size w w2 := qBx h h.size k
theorem qA8 {w W : World} {g j : Nat} {v : Value} (h : Below w.heap.size w W) (hg : w.heap.size ≤ g) : Below w.heap.size w (W.setCell ⟨g, j, none⟩ v) := h.setCell hg _
theorem qCX (a : Addr) (i : Nat) : (a.add i).block = a.block := by unfold Addr.add; split <;> rfl
theorem qAS {w : World} {g : Nat} {t : TypeId} {cs cs' : Array Value} (h : w.heap[g]? = some (.cells cs t (0, 0))) (i : Nat) (u : Value) (e : cs.setIfInBounds i u = cs') : (w.setCell ⟨g, i, none⟩ u).heap[g]? = some (.cells cs' t (0, 0)) := e ▸ blk_set h i u
theorem qAd {base : Nat} {w W : World} (h : Below base w W) : Below base w W.drew := h.drew
namespace Kd
end Kd
namespace Kd
section
variable {α : Type} {d : Kd α} {e base g : Nat} {ok : Nat → Prop} {w w1 : World} {v : Value} {xs : List α} {o : Obj}
theorem R_newB (h : d.R e w1 w.heap.size ok v xs) (hb : w.heap[g]? = some o) : d.R e w1 w.heap.size (fun k => ok k ∧ k ≠ g) v xs := R_mono (R_bound h) (fun k hk => ⟨hk.1, by have := qBf hb; have := hk.2.1; omega⟩)
end
end Kd
section
variable {P : Program} {ops : Array Oper} {rest : List Oper} {o : Oper} {a : Act} {Q : Exit → Act → World → Prop}
theorem qBo {W : World} (hgd : o.guard = none) {N : Tmp} (_hd : o.dst = some N) {cs : Array Value} {t : TypeId}
  (hrun : (execOp a.eval o).run P W = .ok (.value (.pointer (some ⟨W.heap.size, 0, none⟩))) (W.alloc (.cells cs t (0, 0))))
  (h : ∀ g, g = W.heap.size → ∀ w1, w1.heap[g]? = some (.cells cs t (0, 0)) → Below W.heap.size W w1 → wpList P ops Q rest (a.put o.dst (.pointer (some ⟨g, 0, none⟩))) w1) : wpList P ops Q (o :: rest) a W :=
 Kd.event_run hgd hrun (h _ rfl _ (qAF W _) (qAb (Below.refl _ _) _))
theorem bx {W : World} (N : Tmp) (cs : Array Value) (t : TypeId)
  (h : ∀ g, g = W.heap.size → ∀ w1, w1.heap[g]? = some (.cells cs t (0, 0)) → Below W.heap.size W w1 → wpList P ops Q rest (a.put o.dst (.pointer (some ⟨g, 0, none⟩))) w1) (hgd : o.guard = none := by rfl) (hd : o.dst = some N := by rfl)
  (hrun : (execOp a.eval o).run P W = .ok (.value (.pointer (some ⟨W.heap.size, 0, none⟩))) (W.alloc (.cells cs t (0, 0))) := by (go_simp; done)) : wpList P ops Q (o :: rest) a W := qBo hgd hd hrun h
end
namespace Kd
section
variable {α : Type} {enc : α → Value} {h1 : ∀ x, (enc x).oneCell' = true} {e base g n cap : Nat} {ok : Nat → Prop} {W : World} {xs : List α}
theorem R_celln (d : α) (h : (qB3 enc h1).R e W base ok (.slice (some ⟨g, 0, none⟩) n cap) xs) (i : Int) (h0 : 0 ≤ i) (hi : i < n) : W.cell? ⟨g, i.toNat, none⟩ = some (enc (rdOf d xs i)) ∧ W.frozen? ⟨g, i.toNat, none⟩ = false := by
 obtain ⟨rfl, _⟩ := R_reads' h
 exact R_cell d h i h0 hi
end
end Kd
namespace Kd
section
variable {α : Type} {enc : α → Value} {h1 : ∀ x, (enc x).oneCell' = true} {e base g n cap : Nat} {ok : Nat → Prop} {W : World} {xs : List α}
theorem R_putg (h : (qB3 enc h1).R e W base ok (.slice (some ⟨g, 0, none⟩) n cap) xs) (i : Int) (x : α) : (qB3 enc h1).R e (W.setCell ⟨g, i.toNat, none⟩ (enc x)) base ok (.slice (some ⟨g, 0, none⟩) n cap) (xs.set i.toNat x) ∧ W.grownBy (W.setCell ⟨g, i.toNat, none⟩ (enc x)) (some g) := by
 obtain ⟨rfl, _⟩ := R_reads' h
 exact R_put h i x
end
end Kd
section
variable {P : Program} {ops : Array Oper} {rest : List Oper} {o : Oper} {a : Act} {Q : Exit → Act → World → Prop} {W : World}
theorem qAP {N : Tmp} (_hN : o.dst = some N) (h : wpList P ops Q (o :: rest) a W) : wpList P ops Q (o :: rest) a W := h
end
section
variable {P : Program} {ops : Array Oper} {o : Oper} {a : Act} {Q : Exit → Act → World → Prop} {Kc : Act → World → Prop}
theorem event_step {W w1 : World} {v : Value} (hw : Region.wanted o (yielded ops a.tmps) = true) (hrun : (execOp a.eval o).run P W = .ok (.value v) w1) (h : Kc (a.put o.dst v) w1) : if Region.wanted o (yielded ops a.tmps) = true then Oper.wp P o a W Kc Q else Kc (a.put o.dst undef) W := by
 rw [if_pos hw]
 unfold Oper.wp
 rw [hrun]
 exact h
namespace Kd
variable {α : Type}
theorem R_lit_step (d : Kd α) {w0 W : World} (base e : Nat) (hw : Region.wanted o (yielded ops a.tmps) = true) {N : Tmp} (_hd : o.dst = some N) {xs : List α} {inner : List Value} {ok okp : Nat → Prop}
  (hrun : (execOp a.eval o).run P W = .ok (.value (.slice (some ⟨W.heap.size, 0, none⟩) xs.length xs.length)) (W.alloc (.cells inner.toArray e)))
  (hrep : Reps (d.M W base okp) d.sz xs inner) (hok : ∀ k, okp k → ok k) (hfresh : ok W.heap.size) (HB : Below base w0 W) (hbase : base ≤ W.heap.size) (hm : xs.length ≤ 9223372036854775807)
  (h : ∀ v1 w1, d.R e w1 base ok v1 xs → Below base w0 w1 → W.grownBy w1 none → (∃ b, v1.ownBlock = some b ∧ W.heap.size ≤ b) → Kc (a.put o.dst v1) w1) : if Region.wanted o (yielded ops a.tmps) = true then Oper.wp P o a W Kc Q else Kc (a.put o.dst undef) W := by
 refine event_step hw hrun (h _ _ ⟨fun k hk => ?_, inner, ?_, ?_⟩ (HB.alloc hbase _) (World.grownBy_alloc W _ none) ⟨W.heap.size, by simp [Value.ownBlock], Nat.le_refl _⟩)
 ·have : W.heap.size = k := by simpa [Value.ownBlock] using hk
  subst this
  exact hfresh
 ·have h2 := World.ownsRow_lit (base := base) (e := e) (size := d.sz) W inner.toArray xs.length hbase (by simpa [maxLen] using hm) (by simpa using hrep.1)
  simpa using h2
 ·refine hrep.imp_ (fun p c hp => d.M_mono (fun k hk => ⟨hok k hk.1, fun he => ?_⟩) (M_below (d.M_bound hp) (qAb (Below.refl _ _) _)))
  have h3 : k = W.heap.size := by simpa [Value.ownBlock] using he
  have := hk.2.2.1
  omega
theorem qCr (d : Kd α) {Rr : α → List Value → Prop} {w0 W : World} (base : Nat) (hw : Region.wanted o (yielded ops a.tmps) = true) (s x : Operand) (t e : TypeId) (z : Value) (bytes : Nat)
  (ho : o.op = .call { callee := .builtin .append, args := #[s, x], argTypes := #[t, t] })
  (ht : P.underlying t = some (.slice e)) (hinfo : (P.info? e).map (fun i => (i.zero, i.size, i.bytes)) = some (some z, d.sz, bytes)) (hz : z.cells.size = d.sz) (hs0 : 0 < d.sz) (hb0 : 0 < bytes)
  (v : Value) (xs ys : List α) (A : Option Addr) (m c : Nat) (ok okp : Nat → Prop) (hs : a.eval s = v) (hx : a.eval x = .slice A m c)
  (HO : d.R e W base ok v xs) (HR : qAJ Rr d.sz W A m ys) (hKM : ∀ x cs, Rr x cs → d.M W base okp x cs) (hokp : ∀ k, okp k → ok k ∧ some k ≠ v.ownBlock) (hfresh : ∀ k, W.heap.size ≤ k → ok k)
  (HB : Below base w0 W) (hbase : base ≤ W.heap.size) (hl : (xs.length + m) * bytes ≤ 140737488355328)
  (h : ∀ v1 w1, d.R e w1 base ok v1 (xs ++ ys) → Below base w0 w1 → W.grownBy w1 v.ownBlock → (v1.ownBlock = v.ownBlock ∨ ∃ b, v1.ownBlock = some b ∧ W.heap.size ≤ b) → Kc (a.put o.dst v1) w1) :
  if Region.wanted o (yielded ops a.tmps) = true then Oper.wp P o a W Kc Q else Kc (a.put o.dst undef) W := by
 obtain ⟨i0, hi, hzz⟩ := Option.map_eq_some_iff.1 hinfo
 simp only [Prod.mk.injEq] at hzz
 obtain ⟨hz0, hz1, hz2⟩ := hzz
 have hm : ys.length = m := HR.1
 have hlen : xs.length + m ≤ 140737488355328 := Nat.le_trans (Nat.le_mul_of_pos_right _ hb0) hl
 obtain ⟨hok, inner, hown, hr⟩ := HO
 have hrun : ∃ v1 w1, (Builtin.append_ #[t, t] o.type #[v, .slice A m c]).run P W = .ok v1 w1 ∧ d.R e w1 base ok v1 (xs ++ ys) ∧ W.grownBy w1 v.ownBlock ∧ (v1.ownBlock = v.ownBlock ∨ ∃ b, v1.ownBlock = some b ∧ W.heap.size ≤ b) := by
  rcases A with _ | ad
  ·have h0 : m = 0 := by
    rcases Nat.eq_zero_or_pos m with h0 | h0
    ·exact h0
    obtain ⟨ad, h, _⟩ := HR.2.2 h0
    cases h
   subst h0
   obtain rfl : ys = [] := List.eq_nil_of_length_eq_zero hm
   refine ⟨v, W, ?_, by rw [List.append_nil]; exact ⟨hok, inner, hown, hr⟩, World.grownBy.refl W _, .inl rfl⟩
   rcases hown.2 with ⟨rfl, hn⟩ | ⟨g, cap, cur, rfl, _, _, hnc, _⟩
   ·simp [Builtin.append_, run_underlying ht, sizeOf, typeInfo, hi, Builtin.lenOf, Builtin.firstCells]
   simp [Builtin.append_, run_underlying ht, sizeOf, typeInfo, hi, Builtin.lenOf, Builtin.firstCells, hnc, storeCells]
  obtain ⟨news, hnr, hnc⟩ := qAJ.inner_ HR
  have hnM : Reps (d.M W base okp) d.sz ys news := hnr.imp_ (fun p c hp => hKM p c hp)
  have hone : ∀ u ∈ news, u.oneCell' = true := by
   intro u hu
   obtain ⟨q, hq, rfl⟩ := List.mem_iff_getElem.1 hu
   have hql : q / d.sz < ys.length := by
    rw [Nat.div_lt_iff_lt_mul hs0]
    rw [← hnM.1]
    exact hq
   have hc := hnM.2 (q / d.sz) _ (List.getElem?_eq_getElem hql)
   refine d.K_one (d.K_of_M hc) _ ?_
   rw [List.mem_iff_getElem?]
   refine ⟨q % d.sz, ?_⟩
   rw [List.getElem?_take, if_pos (Nat.mod_lt _ hs0), List.getElem?_drop, Nat.mul_comm, Nat.div_add_mod, List.getElem?_eq_getElem hq]
  obtain ⟨v1, w1, hrun, h2, hg, _, hat⟩ := run_append_own_at (P := P) W base t o.type e i0 z d.sz bytes ht hi hz0 hz1 hz2 hz hs0 v xs.length inner hown ad m c news (by rw [hnM.1, hm]) hnc hone (by simp only [maxLen]; omega) hl hbase
  have hat' : v1.ownBlock = v.ownBlock ∨ ∃ b, v1.ownBlock = some b ∧ W.heap.size ≤ b := by
   rcases hat with hat | hat
   ·exact .inl hat
   exact .inr ⟨_, hat, Nat.le_refl _⟩
  have hne : ∀ k, some k ≠ v.ownBlock → k < W.heap.size → some k ≠ v1.ownBlock := by
   intro k hk hlt
   rcases hat' with hat | ⟨b, hb, hle⟩
   ·rw [hat]; exact hk
   rw [hb]
   intro he
   injection he with he
   omega
  have step : ∀ {q : α} {c : List Value} {o : Nat → Prop}, d.M W base o q c → (∀ k, o k → ok k ∧ some k ≠ v.ownBlock) → d.M w1 base (fun k => ok k ∧ some k ≠ v1.ownBlock) q c := by
   intro q c o hq ho
   have h1 := d.M_move (w1 := w1) (fun k hk => hg.block k hk.2.2.1 (ho k hk.1).2) (d.M_bound hq)
   exact d.M_mono (fun k hk => ⟨(ho k hk.1).1, hne k (ho k hk.1).2 hk.2.2.1⟩) h1
  refine ⟨v1, w1, hrun, ⟨fun k hk => ?_, inner ++ news, by rw [List.length_append, hm]; exact h2, qDp (hr.imp_ (fun _ _ hq => step hq (fun _ hk => hk))) (hnM.imp_ (fun _ _ hq => step hq hokp))⟩, hg, hat'⟩
  rcases hat' with hat | ⟨b, hb, hle⟩
  ·exact hok k (hat ▸ hk)
  rw [hb] at hk
  injection hk with hk
  exact hfresh k (by omega)
 obtain ⟨v1, w1, hr1, h1, hg, hat⟩ := hrun
 rw [if_pos hw]
 unfold Oper.wp execOp
 simp only [ho, resolve, invoke, builtin, Sem.run_bind, Sem.run_pure, Result.andThen_ok, List.map_toArray, List.map_cons, List.map_nil, hs, hx, hr1]
 exact h v1 w1 h1 (HB.grown hg hbase (qBN hown)) hg hat
end Kd
end
namespace Kd
end Kd
end YA
end
section
namespace YC
section
variable {P : Program} {ops : Array Oper} {Q : Exit → Act → World → Prop} {md : Region.Mode} {S : World → Prop} {ds : List Nat}
def Region.reachB (md : Region.Mode) (ops : Array Oper) (i : Nat) : Nat → Nat → Bool
 | 0, _ => false
 | fuel + 1, d => match ops[d]? with
  | some o => o.after.any fun e => Region.binds md e && (e.on == i || Region.reachB md ops i fuel e.on)
  | none => false
def Region.closedB (md : Region.Mode) (ops : Array Oper) (listed : Array Bool) : Bool :=
 (List.range ops.size).all fun j => !listed.getD j false || match ops[j]? with
  | some o => o.after.all fun e => !Region.binds md e || listed.getD e.on false
  | none => true
def Region.lastB (md : Region.Mode) (ops : Array Oper) (listed : Array Bool) (ds : List Nat) (i : Nat) : Bool :=
 ds.all fun d => listed.getD d true || Region.reachB md ops i ops.size d
def qBh (md : Region.Mode) (ops : Array Oper) (listed : Array Bool) : Prop :=
 ∀ j oj, ops[j]? = some oj → listed.getD j false = true → ∀ e ∈ oj.after, Region.binds md e = true → listed.getD e.on false = true
theorem Region.closedB_spec {listed : Array Bool} (h : Region.closedB md ops listed = true) : qBh md ops listed := by
 intro j oj hj hl e he hb
 have hlt : j < ops.size := (Array.getElem?_eq_some_iff.1 hj).1
 have h1 := List.all_eq_true.1 h j (List.mem_range.2 hlt)
 simp only [hl, hj, Bool.not_true, Bool.false_or] at h1
 have h2 := Array.all_eq_true_iff_forall_mem.1 h1 e he
 simpa [hb] using h2
theorem qBh.set {listed : Array Bool} {i : Nat} (h : qBh md ops listed) (hi : i ∈ Region.ready md ops listed) : qBh md ops (listed.setIfInBounds i true) := by
 obtain ⟨_, oi, hoi, hall⟩ := mem_ready.1 hi
 intro j oj hj hl e he hb
 by_cases hij : i = j
 rotate_left
 ·rw [getD_set_ne false hij] at hl
  exact getD_set_true (h j oj hj hl e he hb)
 subst hij
 have : oj = oi := Option.some.inj (hj.symm.trans hoi)
 subst this
 exact getD_set_true (hall e he hb)
theorem Region.reach_listed {listed : Array Bool} {i : Nat} (hc : qBh md ops listed) : ∀ (fuel d : Nat), Region.reachB md ops i fuel d = true → listed.getD d false = true → listed.getD i false = true
 | 0, _, h, _ => by simp [Region.reachB] at h
 | fuel + 1, d, h, hl => by
  unfold Region.reachB at h
  cases ho : ops[d]? with
  | none => rw [ho] at h; simp at h
  | some o =>
   rw [ho] at h
   obtain ⟨e, he, h1⟩ := Array.any_eq_true'.1 h
   simp only [Bool.and_eq_true, Bool.or_eq_true, beq_iff_eq] at h1
   have hle := hc d o ho hl e he h1.1
   rcases h1.2 with h2 | h2
   ·rw [← h2]; exact hle
   exact Region.reach_listed hc fuel e.on h2 hle
theorem Region.reach_not_ready {listed : Array Bool} {i d fuel : Nat} (hc : qBh md ops listed) (hr : Region.reachB md ops i fuel d = true) (hun : listed.getD i true = false) : d ∉ Region.ready md ops listed := by
 intro hd
 obtain ⟨_, o, ho, hall⟩ := mem_ready.1 hd
 have hi : listed.getD i false = true := by
  cases fuel with
  | zero => simp [Region.reachB] at hr
  | succ n =>
   unfold Region.reachB at hr
   rw [ho] at hr
   obtain ⟨e, he, h1⟩ := Array.any_eq_true'.1 hr
   simp only [Bool.and_eq_true, Bool.or_eq_true, beq_iff_eq] at h1
   have hle := hall e he h1.1
   rcases h1.2 with h2 | h2
   ·rw [← h2]; exact hle
   exact Region.reach_listed hc n e.on h2 hle
 rcases Nat.lt_or_ge i listed.size with h' | h'
 ·simp [h'] at hun hi
  rw [hun] at hi
  cases hi
 simp [Array.getElem?_eq_none h'] at hun
def qA0 (P : Program) (md : Region.Mode) (ops : Array Oper) (Q : Exit → Act → World → Prop) (S : World → Prop) (ds : List Nat) : Nat → Array Bool → Act → World → Prop
 | 0, listed, a, w => Region.ready md ops listed = [] ∧ Q .normal a w
 | fuel + 1, listed, a, w =>
  (Region.ready md ops listed = [] → Q .normal a w) ∧
  ∀ i ∈ Region.ready md ops listed, wpOp P ops Q i (fun a' w' => (i ∉ ds → S w → S w') ∧ qA0 P md ops Q S ds fuel (listed.setIfInBounds i true) a' w') a w
theorem qC6 : ∀ (fuel : Nat) (listed : Array Bool) (a : Act) (w : World), qA0 P md ops Q S ds fuel listed a w → wpAny P md ops Q fuel listed a w
 | 0, _, _, _, h => h
 | fuel + 1, _, _, _, h => ⟨h.1, fun i hi => wpOp_mono (fun a' w' h' => qC6 fuel _ a' w' h'.2) (h.2 i hi)⟩
theorem qDy {i : Nat} {oi : Oper} {v : Value} (hi : ops[i]? = some oi) (hsel : ∀ (j : Nat) (o : Oper) cs b, ops[j]? = some o → o.op ≠ .select cs b)
  (hQ : ∀ c a w, Q (.panic c) (a.put oi.dst v) w → Q (.panic c) a w) (n : Nat) :
  ∀ (fuel : Nat) (listed : Array Bool) (a : Act) (w : World),
   (∀ j oj, ops[j]? = some oj → j ≠ i → listed.getD j true = false → (∀ e ∈ oj.after, Region.binds md e = true → e.on ≠ i) → oi.apart ops oj = true) →
   qBh md ops listed → (∀ d ∈ ds, listed.getD d true = false → Region.reachB md ops i n d = true) →
   i ∈ Region.ready md ops listed → YieldsIf P ops S oi v a → S w →
   qA0 P md ops Q S ds fuel (listed.setIfInBounds i true) (a.put oi.dst v) w → qA0 P md ops Q S ds (fuel + 1) listed a w := by
 intro fuel
 induction fuel with
 | zero =>
  intro listed a w _ _ _ hr hy hS H
  refine ⟨fun h => (by rw [h] at hr; cases hr), fun j hj => ?_⟩
  by_cases hji : j = i
  ·subst hji; exact hy.wpOp hi hS ⟨fun _ h => h, H⟩
  have := ready_mono hj hji
  rw [H.1] at this
  cases this
 | succ fuel ih =>
  intro listed a w hfree hc hd hr hy hS H
  refine ⟨fun h => (by rw [h] at hr; cases hr), fun j hj => ?_⟩
  by_cases hji : j = i
  ·subst hji; exact hy.wpOp hi hS ⟨fun _ h => h, H⟩
  have h1 := H.2 j (ready_mono hj hji)
  obtain ⟨hjun, oj, hoj, hall⟩ := mem_ready.1 hj
  have hiun := (mem_ready.1 hr).1
  have hnot : ∀ e ∈ oj.after, Region.binds md e = true → e.on ≠ i := fun e he hb heq => by
   have h1 := hall e he hb
   rw [heq] at h1
   rcases Nat.lt_or_ge i listed.size with h' | h'
   ·simp [h'] at hiun h1; rw [hiun] at h1; cases h1
   simp [Array.getElem?_eq_none h'] at h1
  have hjd : j ∉ ds := fun hm => Region.reach_not_ready hc (hd j hm hjun) hiun hj
  have h2 := wpOp_putIf hoj (hfree j oj hoj hji hjun hnot) (fun cs b => hsel i oi cs b hi) (fun cs b => hsel j oj cs b hoj) hQ hy h1
  have hfree' : ∀ k ok, ops[k]? = some ok → k ≠ i → (listed.setIfInBounds j true).getD k true = false →
    (∀ e ∈ ok.after, Region.binds md e = true → e.on ≠ i) → oi.apart ops ok = true := fun k ok hk hki hun hno => by
   refine hfree k ok hk hki ?_ hno
   by_cases hjk : j = k
   ·subst hjk; exact hjun
   ·rw [getD_set_ne true hjk] at hun; exact hun
  have hd' : ∀ d ∈ ds, (listed.setIfInBounds j true).getD d true = false → Region.reachB md ops i n d = true := fun d hm hun => by
   refine hd d hm ?_
   by_cases hjk : j = d
   ·subst hjk; exact hjun
   rw [getD_set_ne true hjk] at hun; exact hun
  refine wpOp_mono (fun a' w' h3 => ⟨h3.2.1, ih (listed.setIfInBounds j true) a' w' hfree' (hc.set hj) hd' (ready_mono hr (Ne.symm hji)) h3.1 (h3.2.1 hjd hS) ?_⟩) h2
  rw [Array.setIfInBounds_comm _ _ hji]
  exact h3.2.2
theorem wpAnyLast_any {i : Nat} {oi : Oper} {v : Value} (hi : ops[i]? = some oi) (hsel : ∀ (j : Nat) (o : Oper) cs b, ops[j]? = some o → o.op ≠ .select cs b)
  (hQ : ∀ c a w, Q (.panic c) (a.put oi.dst v) w → Q (.panic c) a w) :
  ∀ (fuel : Nat) (listed : Array Bool) (a : Act) (w : World),
   (∀ j oj, ops[j]? = some oj → j ≠ i → listed.getD j true = false → (∀ e ∈ oj.after, Region.binds md e = true → e.on ≠ i) → oi.apart ops oj = true) →
   i ∈ Region.ready md ops listed → Yields P ops oi v a →
   qA0 P md ops Q S ds fuel (listed.setIfInBounds i true) (a.put oi.dst v) w → qA0 P md ops Q S ds (fuel + 1) listed a w := by
 intro fuel
 induction fuel with
 | zero =>
  intro listed a w _ hr hy H
  refine ⟨fun h => (by rw [h] at hr; cases hr), fun j hj => ?_⟩
  by_cases hji : j = i
  rotate_left
  ·have := ready_mono hj hji
   rw [H.1] at this
   cases this
  subst hji; exact (hy.yieldsIf (S := fun _ => True)).wpOp hi trivial ⟨fun _ h => h, H⟩
 | succ fuel ih =>
  intro listed a w hfree hr hy H
  refine ⟨fun h => (by rw [h] at hr; cases hr), fun j hj => ?_⟩
  by_cases hji : j = i
  ·subst hji; exact (hy.yieldsIf (S := fun _ => True)).wpOp hi trivial ⟨fun _ h => h, H⟩
  have h1 := H.2 j (ready_mono hj hji)
  obtain ⟨hjun, oj, hoj, hall⟩ := mem_ready.1 hj
  have hiun := (mem_ready.1 hr).1
  have hnot : ∀ e ∈ oj.after, Region.binds md e = true → e.on ≠ i := fun e he hb heq => by
   have h1 := hall e he hb
   rw [heq] at h1
   rcases Nat.lt_or_ge i listed.size with h' | h'
   ·simp [h'] at hiun h1; rw [hiun] at h1; cases h1
   simp [Array.getElem?_eq_none h'] at h1
  have h2 := wpOp_put hoj (hfree j oj hoj hji hjun hnot) (fun cs b => hsel i oi cs b hi) (fun cs b => hsel j oj cs b hoj) hQ hy h1
  have hfree' : ∀ k ok, ops[k]? = some ok → k ≠ i → (listed.setIfInBounds j true).getD k true = false →
    (∀ e ∈ ok.after, Region.binds md e = true → e.on ≠ i) → oi.apart ops ok = true := fun k ok hk hki hun hno => by
   refine hfree k ok hk hki ?_ hno
   by_cases hjk : j = k
   ·subst hjk; exact hjun
   ·rw [getD_set_ne true hjk] at hun; exact hun
  refine wpOp_mono (fun a' w' h3 => ⟨h3.2.1, ih (listed.setIfInBounds j true) a' w' hfree' (ready_mono hr (Ne.symm hji)) h3.1 ?_⟩) h2
  rw [Array.setIfInBounds_comm _ _ hji]
  exact h3.2.2
theorem wpAnyLast_take {i : Nat} {oi : Oper} {v : Value} {fuel : Nat} {listed : Array Bool} {a : Act} {w : World} (hi : ops[i]? = some oi)
  (hs : Region.noSelect ops = true) (hf : Region.free md ops listed i = true) (hr : (Region.ready md ops listed).contains i = true)
  (hc : Region.closedB md ops listed = true) (hl : Region.lastB md ops listed ds i = true)
  (hQ : ∀ c a w, Q (.panic c) (a.put oi.dst v) w → Q (.panic c) a w) (hy : YieldsIf P ops S oi v a) (hS : S w)
  (h : qA0 P md ops Q S ds fuel (listed.setIfInBounds i true) (a.put oi.dst v) w) : qA0 P md ops Q S ds (fuel + 1) listed a w :=
 qDy hi (Region.noSelect_spec hs) hQ ops.size fuel listed a w (Region.free_spec hi hf) (Region.closedB_spec hc)
  (fun d hm hun => by have := List.all_eq_true.1 hl d hm; rw [hun] at this; simpa using this) (by simpa using hr) hy hS h
theorem wpAnyLast_all {rs : List Nat} {fuel : Nat} {listed : Array Bool} {a : Act} {w : World} (hr : Region.ready md ops listed = rs) (hne : rs ≠ [])
  (h : ∀ i ∈ rs, wpOp P ops Q i (fun a' w' => (i ∉ ds → S w → S w') ∧ qA0 P md ops Q S ds fuel (listed.setIfInBounds i true) a' w') a w) : qA0 P md ops Q S ds (fuel + 1) listed a w :=
 ⟨fun h0 => absurd (hr ▸ h0) hne, hr ▸ h⟩
theorem wpAnyLast_done {listed : Array Bool} {a : Act} {w : World} (hr : Region.ready md ops listed = []) (h : Q .normal a w) :
  ∀ fuel, qA0 P md ops Q S ds fuel listed a w
 | 0 => ⟨hr, h⟩
 | _ + 1 => ⟨fun _ => h, by rw [hr]; simp⟩
theorem wp_region_last {id : Nat} {a : Act} {w : World} (hm : P.follows .mixedOrders = true)
  (h : qA0 P .any ops Q S ds ops.size (Array.replicate ops.size false) a { w with drawn := w.drawn + 1 }) : (Code.region id ops true).wp P Q a w :=
 wp_region_any hm (qC6 _ _ _ _ h)
end
section
variable {P : Program} {ops : Array Oper} {Q : Exit → Act → World → Prop} {md : Region.Mode} {S : World → Prop} {ds : List Nat}
def qBg (P : Program) (md : Region.Mode) (ops : Array Oper) (Q : Exit → Act → World → Prop) (S : World → Prop) (ds : List Nat) (fuel : Nat) (listed : Array Bool) (a : Act) (w : World) (rs : List Nat) : Prop :=
 ∀ i ∈ rs, wpOp P ops Q i (fun a' w' => (i ∉ ds → S w → S w') ∧ qA0 P md ops Q S ds fuel (listed.setIfInBounds i true) a' w') a w
theorem qBg.nil {fuel : Nat} {listed : Array Bool} {a : Act} {w : World} : qBg P md ops Q S ds fuel listed a w [] := fun _ h => by cases h
theorem qBg.cons {fuel : Nat} {listed : Array Bool} {a : Act} {w : World} {i : Nat} {o : Oper} {rs : List Nat} (ho : ops[i]? = some o) (hd : i ∉ ds)
  (h : ∀ K' : Act → World → Prop, Shut (∀ a w, S w → (S w → qA0 P md ops Q S ds fuel (listed.setIfInBounds i true) a w) → K' a w) → if Region.wanted o (yielded ops a.tmps) = true then Oper.wp P o a w K' Q else K' (a.put o.dst undef) w)
  (hs : qBg P md ops Q S ds fuel listed a w rs) : qBg P md ops Q S ds fuel listed a w (i :: rs) := fun j hj => by
 rcases List.mem_cons.1 hj with rfl | hj
 ·exact wpOp_step ho (fun K' hK => h K' (fun a w hS hW => hK a w ⟨fun _ _ => hS, hW hS⟩))
 ·exact hs j hj
theorem qCb {rs : List Nat} {fuel : Nat} {listed : Array Bool} {a : Act} {w : World} (hr : Region.ready md ops listed = rs) (hne : rs ≠ [])
  (h : qBg P md ops Q S ds fuel listed a w rs) : qA0 P md ops Q S ds (fuel + 1) listed a w := wpAnyLast_all hr hne h
theorem start_ {id n : Nat} {a : Act} {w : World} (l : Array Bool) (hm : P.follows .mixedOrders = true) (hn : ops.size = n) (hl : Array.replicate n false = l) (hS : S w.drew)
  (h : S w.drew → qA0 P .any ops Q S ds n l a w.drew) : (Code.region id ops true).wp P Q a w := by
 subst hn
 subst hl
 exact wp_region_last hm (h hS)
def takeB (md : Region.Mode) (ops : Array Oper) (ds : List Nat) (l l' : Array Bool) (i : Nat) : Bool :=
 Region.noSelect ops && Region.free md ops l i && (Region.ready md ops l).contains i && Region.closedB md ops l && Region.lastB md ops l ds i && (l.setIfInBounds i true == l')
theorem qBQ {i : Nat} {N : Option Tmp} {oi : Oper} {v : Value} {fuel : Nat} {l : Array Bool} {a : Act} {w : World} (l' : Array Bool) (hi : ops[i]? = some oi) (hN : oi.dst = N) (hc : takeB md ops ds l l' i = true)
  (hQ : ∀ c a w, Q (.panic c) (a.put oi.dst v) w → Q (.panic c) a w) (hy : YieldsIf P ops S oi v a) (hS : S w) {a' : Act} (ha : a.put N v = a')
  (h : qA0 P md ops Q S ds fuel l' a' w) : qA0 P md ops Q S ds (fuel + 1) l a w := by
 subst ha
 subst hN
 simp only [takeB, Bool.and_eq_true, beq_iff_eq] at hc
 obtain ⟨⟨⟨⟨⟨h1, h2⟩, h3⟩, h4⟩, h5⟩, h6⟩ := hc
 subst h6
 exact wpAnyLast_take hi h1 h2 h3 h4 h5 hQ hy hS h
theorem tk (i N0 : Nat) {oi : Oper} {v : Value} {fuel : Nat} {l : Array Bool} {a : Act} {w : World} (l' : Array Bool) {a' : Act} (hc : takeB md ops ds l l' i = true) (hS : S w)
  (h : qA0 P md ops Q S ds fuel l' a' w) (hi : ops[i]? = some oi := by rfl) (hN : oi.dst = some N0 := by rfl) (hQ : ∀ c a w, Q (.panic c) (a.put oi.dst v) w → Q (.panic c) a w := by exact fun _ _ _ h => h)
  (hg : Region.wanted oi (yielded ops a.tmps) = true := by rfl) (hy : ∀ w', S w' → (execOp a.eval oi).run P w' = .ok (.value v) w' := by (intro w' hs; (repeat (obtain ⟨s_, hs⟩ := hs)); go_simp; with_reducible rfl))
  (ha : a.put (some N0) v = a' := by (simp only [Act.put, List.setIfInBounds_toArray, List.set_cons_zero, List.set_cons_succ]; rfl)) : qA0 P md ops Q S ds (fuel + 1) l a w := qBQ l' hi hN hc hQ (.inl ⟨hg, hy⟩) hS ha h
def anyB (md : Region.Mode) (ops : Array Oper) (l l' : Array Bool) (i : Nat) : Bool :=
 Region.noSelect ops && Region.free md ops l i && (Region.ready md ops l).contains i && (l.setIfInBounds i true == l')
theorem qAx {i : Nat} {N : Option Tmp} {oi : Oper} {v : Value} {fuel : Nat} {l : Array Bool} {a : Act} {w : World} (l' : Array Bool) (hi : ops[i]? = some oi) (hN : oi.dst = N) (hc : anyB md ops l l' i = true)
  (hQ : ∀ c a w, Q (.panic c) (a.put oi.dst v) w → Q (.panic c) a w) (hy : Yields P ops oi v a) {a' : Act} (ha : a.put N v = a')
  (h : qA0 P md ops Q S ds fuel l' a' w) : qA0 P md ops Q S ds (fuel + 1) l a w := by
 subst ha
 subst hN
 simp only [anyB, Bool.and_eq_true, beq_iff_eq] at hc
 obtain ⟨⟨⟨h1, h2⟩, h3⟩, h6⟩ := hc
 subst h6
 exact wpAnyLast_any hi (Region.noSelect_spec h1) hQ fuel l a w (Region.free_spec hi h2) (by simpa using h3) hy h
theorem pu (i N0 : Nat) {oi : Oper} {v : Value} {fuel : Nat} {l : Array Bool} {a : Act} {w : World} (l' : Array Bool) {a' : Act} (hc : anyB md ops l l' i = true)
  (h : qA0 P md ops Q S ds fuel l' a' w) (hi : ops[i]? = some oi := by rfl) (hN : oi.dst = some N0 := by rfl) (hQ : ∀ c a w, Q (.panic c) (a.put oi.dst v) w → Q (.panic c) a w := by exact fun _ _ _ h => h)
  (hg : Region.wanted oi (yielded ops a.tmps) = true := by rfl) (hy : ∀ w', (execOp a.eval oi).run P w' = .ok (.value v) w' := by (intro w'; go_simp; with_reducible rfl))
  (ha : a.put (some N0) v = a' := by (simp only [Act.put, List.setIfInBounds_toArray, List.set_cons_zero, List.set_cons_succ]; rfl)) : qA0 P md ops Q S ds (fuel + 1) l a w := qAx l' hi hN hc hQ (.inl ⟨hg, hy⟩) ha h
def readyB (md : Region.Mode) (ops : Array Oper) (l l' : Array Bool) (i : Nat) : Bool := (Region.ready md ops l == [i]) && (l.setIfInBounds i true == l')
theorem one_ {i : Nat} {N : Option Tmp} {oi : Oper} {fuel : Nat} {l : Array Bool} {a : Act} {w : World} (l' : Array Bool) (hi : ops[i]? = some oi) (hN : oi.dst = N) (hc : readyB md ops l l' i = true) (hd : i ∉ ds)
  (h : ∀ K : Act → World → Prop, Shut (∀ a' w', S w' → (S w' → qA0 P md ops Q S ds fuel l' a' w') → K a' w') → if Region.wanted oi (yielded ops a.tmps) = true then Oper.wp P oi a w K Q else K (a.put N undef) w) :
  qA0 P md ops Q S ds (fuel + 1) l a w := by
 subst hN
 simp only [readyB, Bool.and_eq_true, beq_iff_eq] at hc
 obtain ⟨h1, h2⟩ := hc
 subst h2
 exact qCb h1 (by simp) (qBg.cons hi hd (fun K hK => h K hK) qBg.nil)
theorem done_ {l : Array Bool} {a : Act} {w : World} {n : Nat} (hr : (Region.ready md ops l == []) = true) (h : Q .normal a w) : qA0 P md ops Q S ds n l a w := wpAnyLast_done (by simpa using hr) h n
theorem two_ {i j : Nat} {Ni Nj : Option Tmp} {oi oj : Oper} {fuel : Nat} {l : Array Bool} {a : Act} {w : World} (li lj : Array Bool) (hi : ops[i]? = some oi) (hj : ops[j]? = some oj) (hNi : oi.dst = Ni) (hNj : oj.dst = Nj)
  (hc : (Region.ready md ops l == [i, j] && l.setIfInBounds i true == li && l.setIfInBounds j true == lj) = true) (hdi : i ∉ ds) (hdj : j ∉ ds)
  (h1 : ∀ K : Act → World → Prop, Shut (∀ a' w', S w' → (S w' → qA0 P md ops Q S ds fuel li a' w') → K a' w') → if Region.wanted oi (yielded ops a.tmps) = true then Oper.wp P oi a w K Q else K (a.put Ni undef) w)
  (h2 : ∀ K : Act → World → Prop, Shut (∀ a' w', S w' → (S w' → qA0 P md ops Q S ds fuel lj a' w') → K a' w') → if Region.wanted oj (yielded ops a.tmps) = true then Oper.wp P oj a w K Q else K (a.put Nj undef) w) :
  qA0 P md ops Q S ds (fuel + 1) l a w := by
 subst hNi
 subst hNj
 simp only [Bool.and_eq_true, beq_iff_eq] at hc
 obtain ⟨⟨h3, h4⟩, h5⟩ := hc
 subst h4
 subst h5
 exact qCb h3 (by simp) (qBg.cons hi hdi (fun K hK => h1 K hK) (qBg.cons hj hdj (fun K hK => h2 K hK) qBg.nil))
def qCM : Act → List (Tmp × Value) → Act
 | a, [] => a
 | a, (n, v) :: r => qCM (a.put (some n) v) r
theorem join_ {σ : Type} {fuel : Nat} {l : Array Bool} {a : Act} {w : World} (fuel' : Nat) (l' : Array Bool) (ns : σ → List (Tmp × Value)) (F : σ → World → Prop)
  (hcont : ∀ s w', F s w' → qA0 P md ops Q S ds fuel' l' (qCM a (ns s)) w')
  (h : (∀ s w', F s w' → qA0 P md ops Q S ds fuel' l' (qCM a (ns s)) w') → qA0 P md ops Q S ds fuel l a w) : qA0 P md ops Q S ds fuel l a w := h hcont
theorem qCj {fuel : Nat} {l : Array Bool} {a a' : Act} {w : World} (ha : a = a') (h : qA0 P md ops Q S ds fuel l a' w) : qA0 P md ops Q S ds fuel l a w := by
 subst ha
 exact h
theorem nm {fuel : Nat} {l : Array Bool} {a a' : Act} {w : World} (h : qA0 P md ops Q S ds fuel l a' w) (ha : a = a' := by (show Act.put _ (some _) _ = _; simp only [Act.put, List.setIfInBounds_toArray, List.set_cons_zero, List.set_cons_succ]; rfl)) : qA0 P md ops Q S ds fuel l a w := qCj ha h
theorem nq {fuel : Nat} {l : Array Bool} {a a' : Act} {w : World} (h : qA0 P md ops Q S ds fuel l a' w) (ha : a = a' := by (simp only [qCM, Act.put, List.setIfInBounds_toArray, List.set_cons_zero, List.set_cons_succ]; done)) : qA0 P md ops Q S ds fuel l a w := qCj ha h
theorem call_ {oi : Oper} {N : Option Tmp} {a : Act} {w : World} {K : Act → World → Prop} (f : FuncId) (args : Array Value) (hw : Region.wanted oi (yielded ops a.tmps) = true) (hN : oi.dst = N) (hrun : (execOp a.eval oi).run P w = .ok (.enter f args) w)
  (h : Calls P f args w fun e w' => ∃ v, e = .returned v ∧ K (a.put N v) w') : if Region.wanted oi (yielded ops a.tmps) = true then Oper.wp P oi a w K Q else K (a.put N undef) w := by
 rw [if_pos hw]
 subst hN
 unfold Oper.wp
 rw [hrun, Oper.upon_enter]
 refine h.mono fun e w'' hh => ?_
 obtain ⟨v, rfl, hk⟩ := hh
 exact hk
theorem enters_ {f : FuncId} {fn : Func} (hf : P.funcs[f]? = some fn) (hname : (fn.name == "runtime.NumGoroutine") = false) (hb : fn.body.isSome = true) (args : Array Value) (w : World) : (callFunc f args).run P w = .ok (.enter f args) w := by
 have h1 : fn.name ≠ "runtime.NumGoroutine" := by simpa using hname
 obtain ⟨c, hc⟩ := Option.isSome_iff_exists.1 hb
 simp [callFunc, hf, h1, hc]
theorem goes_ {oi : Oper} {N : Option Tmp} {a : Act} {w : World} {K : Act → World → Prop} {f : FuncId} {fn : Func} {as1 : Array Operand} {ts : Array TypeId} (hf : P.funcs[f]? = some fn) (hname : (fn.name == "runtime.NumGoroutine") = false) (hb : fn.body.isSome = true) (args : Array Value)
  (hw : Region.wanted oi (yielded ops a.tmps) = true) (hN : oi.dst = N) (hop : oi.op = .call { callee := .value (.func f), args := as1, argTypes := ts }) (hargs : as1.map a.eval = args)
  (h : Calls P f args w fun e w' => ∃ v, e = .returned v ∧ K (a.put N v) w') : if Region.wanted oi (yielded ops a.tmps) = true then Oper.wp P oi a w K Q else K (a.put N undef) w := by
 refine call_ f args hw hN ?_ h
 have he := enters_ hf hname hb args w
 unfold execOp
 simp [hop, resolve, Deferred.ofValue, invoke, Act.eval, hargs, he]
theorem qBs {rest : List Oper} {oi : Oper} {a : Act} {w : World} (N : Option Tmp) (hd : oi.dst = N) (hg : oi.guard = none) {f : FuncId} {fn : Func} {as1 : Array Operand} {ts : Array TypeId} (hf : P.funcs[f]? = some fn) (hname : (fn.name == "runtime.NumGoroutine") = false) (hb : fn.body.isSome = true) (args : Array Value)
  (hop : oi.op = .call { callee := .value (.func f), args := as1, argTypes := ts }) (hargs : as1.map a.eval = args)
  (h : Calls P f args w fun e w' => ∃ v, e = .returned v ∧ wpList P ops Q rest (a.put N v) w') : wpList P ops Q (oi :: rest) a w := by
 refine wpList_plain hg fun K hK => ?_
 have he := enters_ hf hname hb args w
 have hrun : (execOp a.eval oi).run P w = .ok (.enter f args) w := by
  unfold execOp
  simp [hop, resolve, Deferred.ofValue, invoke, Act.eval, hargs, he]
 unfold Oper.wp
 rw [hrun, Oper.upon_enter]
 refine h.mono fun e w'' hh => ?_
 obtain ⟨v, rfl, hk⟩ := hh
 subst hd
 exact hK _ _ hk
theorem gL {rest : List Oper} {oi : Oper} {a : Act} {w : World} (N : Tmp) {f : FuncId} {fn : Func} {as1 : Array Operand} {ts : Array TypeId} (hf : P.funcs[f]? = some fn) (args : Array Value)
  (h : Calls P f args w fun e w' => ∃ v, e = .returned v ∧ wpList P ops Q rest (a.put (some N) v) w') (hd : oi.dst = some N := by rfl) (hg : oi.guard = none := by rfl) (hname : (fn.name == "runtime.NumGoroutine") = false := by kernel_rfl) (hb : fn.body.isSome = true := by rfl)
  (hop : oi.op = .call { callee := .value (.func f), args := as1, argTypes := ts } := by rfl) (hargs : as1.map a.eval = args := by (try simp only [List.map_toArray, List.map_cons, List.map_nil]); rfl) : wpList P ops Q (oi :: rest) a w := qBs (some N) hd hg hf hname hb args hop hargs h
theorem value_ {oi : Oper} {N : Option Tmp} {a : Act} {w w1 : World} {v : Value} {K : Act → World → Prop} (hw : Region.wanted oi (yielded ops a.tmps) = true) (hN : oi.dst = N) (hrun : (execOp a.eval oi).run P w = .ok (.value v) w1)
  (h : K (a.put N v) w1) : if Region.wanted oi (yielded ops a.tmps) = true then Oper.wp P oi a w K Q else K (a.put N undef) w := by
 rw [if_pos hw]
 subst hN
 unfold Oper.wp
 rw [hrun]
 exact h
theorem qAo (n : Int) : IntKind.i64.wrap n = Go.RowKit.wrap64 n := by unfold Go.RowKit.wrap64; exact IntKind.wrap_i64 n
theorem i32_w (n : Int) : IntKind.i32.wrap n = Go.RowKit.wrap32 n := by unfold Go.RowKit.wrap32; exact IntKind.wrap_i32 n
end
end YC
end
section
namespace YC
open YA (qAi)
def qCB (md : Region.Mode) (o : Oper) : List Nat := (o.after.toList.filter (fun e => Region.binds md e)).map (fun e => e.on)
def clashOf (md : Region.Mode) (ops : Array Oper) (i : Nat) (oi : Oper) : List Nat := (List.range ops.size).filter fun j => !(j == i) && match ops[j]? with
 | some oj => !(oj.after.any (fun e => Region.binds md e && e.on == i) || oi.apart ops oj)
 | none => false
def rtab (md : Region.Mode) (ops : Array Oper) : Bool × List (List Nat × List Nat) := (Region.noSelect ops, (List.range ops.size).map fun i => match ops[i]? with
  | some o => (qCB md o, clashOf md ops i o)
  | none => ([], []))
def qBX (T : List (List Nat × List Nat)) (l : List Bool) (i : Nat) : Bool := !l.getD i true && match T[i]? with
 | some r => r.1.all (fun j => l.getD j false)
 | none => false
def readyT (T : List (List Nat × List Nat)) (l : List Bool) : List Nat := (List.range T.length).filter (qBX T l)
def freeT (T : List (List Nat × List Nat)) (l : List Bool) (i : Nat) : Bool := match T[i]? with
 | some r => r.2.all (fun j => l.getD j true)
 | none => false
def closedT (T : List (List Nat × List Nat)) (l : List Bool) : Bool := (List.range T.length).all fun j => !l.getD j false || match T[j]? with
 | some r => r.1.all (fun k => l.getD k false)
 | none => true
def reachT (T : List (List Nat × List Nat)) (i : Nat) : Nat → Nat → Bool
 | 0, _ => false
 | fuel + 1, d => match T[d]? with
  | some r => r.1.any fun j => j == i || reachT T i fuel j
  | none => false
def lastT (T : List (List Nat × List Nat)) (l : List Bool) (ds : List Nat) (i : Nat) : Bool := ds.all fun d => l.getD d true || reachT T i T.length d
section
variable {md : Region.Mode} {ops : Array Oper} {T : Bool × List (List Nat × List Nat)} {l l' li lj lk : Array Bool} {ds : List Nat} {i j k : Nat}
theorem gd (l : Array Bool) (j : Nat) (b : Bool) : l.getD j b = l.toList.getD j b := by simp [Array.getD_eq_getD_getElem?, List.getD_eq_getElem?_getD]
theorem needs_all (o : Oper) (p : Nat → Bool) : o.after.all (fun e => !Region.binds md e || p e.on) = (qCB md o).all p := by
 unfold qCB
 rw [← Array.all_toList]
 induction o.after.toList with
 | nil => rfl
 | cons e r ih =>
  rw [List.all_cons, ih, List.filter_cons]
  cases h : Region.binds md e <;> simp
theorem needs_any (o : Oper) (p : Nat → Bool) : o.after.any (fun e => Region.binds md e && p e.on) = (qCB md o).any p := by
 unfold qCB
 rw [← Array.any_toList]
 induction o.after.toList with
 | nil => rfl
 | cons e r ih =>
  rw [List.any_cons, ih, List.filter_cons]
  cases h : Region.binds md e <;> simp
theorem qBO : (rtab md ops).2.length = ops.size := by simp [rtab]
theorem qC1 {o : Oper} (h : ops[i]? = some o) : (rtab md ops).2[i]? = some (qCB md o, clashOf md ops i o) := by
 have hi := (Array.getElem?_eq_some_iff.1 h).1
 unfold rtab
 rw [List.getElem?_map, List.getElem?_range hi, Option.map_some, h]
theorem qC0 (h : ops[i]? = none) : (rtab md ops).2[i]? = none := by
 have hi : ops.size ≤ i := Array.getElem?_eq_none_iff.1 h
 exact List.getElem?_eq_none (by rw [qBO]; exact hi)
theorem readyAt_eq : qBX (rtab md ops).2 l.toList i = (!l.getD i true && ((ops[i]?).map (·.after.all fun e => !Region.binds md e || l.getD e.on false)).getD false) := by
 unfold qBX
 rw [gd]
 cases h : ops[i]? with
 | none => rw [qC0 h]; rfl
 | some o =>
  rw [qC1 h]
  simp only [Option.map_some, Option.getD_some]
  rw [← needs_all]
  simp only [gd]
theorem qCU : Region.ready md ops l = readyT (rtab md ops).2 l.toList := by
 unfold Region.ready readyT
 rw [qBO]
 refine List.filter_congr (fun i _ => ?_)
 rw [readyAt_eq]
theorem free_eq : Region.free md ops l i = freeT (rtab md ops).2 l.toList i := by
 unfold Region.free freeT
 cases h : ops[i]? with
 | none => rw [qC0 h]
 | some oi =>
  rw [qC1 h]
  simp only [clashOf]
  rw [List.all_filter]
  congr 1
  funext j
  rw [gd]
  cases hj : ops[j]? with
  | none => cases (j == i) <;> cases (l.toList.getD j true) <;> simp
  | some oj =>
   cases (j == i) <;> cases (l.toList.getD j true) <;> cases (oj.after.any (fun e => Region.binds md e && e.on == i) || oi.apart ops oj) <;> simp_all
theorem closed_eq : Region.closedB md ops l = closedT (rtab md ops).2 l.toList := by
 unfold Region.closedB closedT
 rw [qBO]
 congr 1
 funext j
 rw [gd]
 cases h : ops[j]? with
 | none => rw [qC0 h]
 | some o =>
  rw [qC1 h]
  simp only
  rw [← needs_all]
  simp only [gd]
theorem reach_eq : ∀ (fuel d : Nat), Region.reachB md ops i fuel d = reachT (rtab md ops).2 i fuel d
 | 0, _ => rfl
 | fuel + 1, d => by
  unfold Region.reachB reachT
  cases h : ops[d]? with
  | none => rw [qC0 h]
  | some o =>
   rw [qC1 h]
   simp only
   rw [← needs_any]
   congr 1
   funext e
   rw [reach_eq fuel]
theorem last_eq : Region.lastB md ops l ds i = lastT (rtab md ops).2 l.toList ds i := by
 unfold Region.lastB lastT
 rw [qBO]
 congr 1
 funext d
 rw [gd, reach_eq]
theorem qDo (h : qBX T.2 l.toList i = true) (hT : rtab md ops = T) : (Region.ready md ops l).contains i = true := by
 subst hT
 rw [qCU]
 unfold readyT
 rw [List.contains_iff_mem, List.mem_filter, List.mem_range]
 refine ⟨?_, h⟩
 unfold qBX at h
 rw [Bool.and_eq_true] at h
 cases hq : (rtab md ops).2[i]? with
 | none => rw [hq] at h; simp at h
 | some r => exact (List.getElem?_eq_some_iff.1 hq).1
theorem set_of (h : (l.toList.set i true == l'.toList) = true) : (l.setIfInBounds i true == l') = true := by
 rw [beq_iff_eq] at h ⊢
 apply Array.ext'
 rw [Array.toList_setIfInBounds]
 exact h
def anyT (T : Bool × List (List Nat × List Nat)) (l l' : List Bool) (i : Nat) : Bool := T.1 && freeT T.2 l i && qBX T.2 l i && (l.set i true == l')
theorem qAj (hT : rtab md ops = T) (h : anyT T l.toList l'.toList i = true) : anyB md ops l l' i = true := by
 simp only [anyT, Bool.and_eq_true] at h
 obtain ⟨⟨⟨h1, h2⟩, h3⟩, h4⟩ := h
 have h5 := qDo h3 hT
 have h6 := set_of h4
 subst hT
 simp only [anyB, Bool.and_eq_true]
 exact ⟨⟨⟨h1, by rw [free_eq]; exact h2⟩, h5⟩, h6⟩
def takeT (T : Bool × List (List Nat × List Nat)) (ds : List Nat) (l l' : List Bool) (i : Nat) : Bool := T.1 && freeT T.2 l i && qBX T.2 l i && closedT T.2 l && lastT T.2 l ds i && (l.set i true == l')
theorem take_of (hT : rtab md ops = T) (h : takeT T ds l.toList l'.toList i = true) : takeB md ops ds l l' i = true := by
 simp only [takeT, Bool.and_eq_true] at h
 obtain ⟨⟨⟨⟨⟨h1, h2⟩, h3⟩, h4⟩, h5⟩, h6⟩ := h
 have h7 := qDo h3 hT
 have h8 := set_of h6
 subst hT
 simp only [takeB, Bool.and_eq_true]
 exact ⟨⟨⟨⟨⟨h1, by rw [free_eq]; exact h2⟩, h7⟩, by rw [closed_eq]; exact h4⟩, by rw [last_eq]; exact h5⟩, h8⟩
theorem qCL (hT : rtab md ops = T) (h : (readyT T.2 l.toList == [i] && l.toList.set i true == l'.toList) = true) : readyB md ops l l' i = true := by
 simp only [Bool.and_eq_true] at h
 obtain ⟨h1, h2⟩ := h
 subst hT
 simp only [readyB, Bool.and_eq_true]
 exact ⟨by rw [qCU]; exact h1, set_of h2⟩
theorem two_of (hT : rtab md ops = T) (h : (readyT T.2 l.toList == [i, j] && l.toList.set i true == li.toList && l.toList.set j true == lj.toList) = true) : (Region.ready md ops l == [i, j] && l.setIfInBounds i true == li && l.setIfInBounds j true == lj) = true := by
 simp only [Bool.and_eq_true] at h ⊢
 obtain ⟨⟨h1, h2⟩, h3⟩ := h
 subst hT
 exact ⟨⟨by rw [qCU]; exact h1, set_of h2⟩, set_of h3⟩
theorem qC9 (hT : rtab md ops = T) (h : (readyT T.2 l.toList == []) = true) : (Region.ready md ops l == []) = true := by
 subst hT
 rw [qCU]
 exact h
def upM (B : List Nat) (d : Nat) : List Nat → Nat
 | [] => 0
 | n :: r => (2 ^ n ||| (if n < d then B.getD n 0 else 0)) ||| upM B d r
def qCq (T : List (List Nat × List Nat)) (B : List Nat) : Bool := (List.range T.length).all fun d => match T[d]? with
 | some r => (B.getD d 0 ||| upM B d r.1) == upM B d r.1
 | none => false
theorem upM_bit {B : List Nat} {d i : Nat} : ∀ {ns : List Nat}, (upM B d ns).testBit i = true → ∃ n ∈ ns, n = i ∨ (n < d ∧ (B.getD n 0).testBit i = true)
 | [], h => by simp [upM] at h
 | n :: r, h => by
  unfold upM at h
  rw [Nat.testBit_or, Nat.testBit_or, Bool.or_eq_true, Bool.or_eq_true] at h
  rcases h with (h | h) | h
  ·rw [Nat.testBit_two_pow] at h
   exact ⟨n, List.mem_cons_self, .inl (by simpa using h)⟩
  ·by_cases hn : n < d
   rotate_left
   ·rw [if_neg hn] at h
    simp at h
   rw [if_pos hn] at h
   exact ⟨n, List.mem_cons_self, .inr ⟨hn, h⟩⟩
  obtain ⟨m, hm, h2⟩ := upM_bit h
  exact ⟨m, List.mem_cons_of_mem _ hm, h2⟩
theorem reach_bit {T : List (List Nat × List Nat)} {B : List Nat} (hB : qCq T B = true) : ∀ (fuel d : Nat), d < fuel → d < T.length → (B.getD d 0).testBit i = true → reachT T i fuel d = true
 | 0, d, h, _, _ => by omega
 | fuel + 1, d, h, hd, hb => by
  have h1 := List.all_eq_true.1 hB d (List.mem_range.2 hd)
  cases hr : T[d]? with
  | none => rw [hr] at h1; simp at h1
  | some r =>
   rw [hr] at h1
   simp only [beq_iff_eq] at h1
   have h2 : (upM B d r.1).testBit i = true := by rw [← h1, Nat.testBit_or, hb, Bool.true_or]
   obtain ⟨n, hn, h3⟩ := upM_bit h2
   unfold reachT
   rw [hr]
   simp only
   rw [List.any_eq_true]
   refine ⟨n, hn, ?_⟩
   rcases h3 with rfl | ⟨h4, h5⟩
   ·simp
   rw [reach_bit hB fuel n (by omega) (by omega) h5, Bool.or_true]
def lastW (T : List (List Nat × List Nat)) (B : List Nat) (l : List Bool) (ds : List Nat) (i : Nat) : Bool := ds.all fun d => l.getD d true || (decide (d < T.length) && (B.getD d 0).testBit i)
def takeW (T : Bool × List (List Nat × List Nat)) (B : List Nat) (ds : List Nat) (l l' : List Bool) (i : Nat) : Bool := T.1 && freeT T.2 l i && qBX T.2 l i && closedT T.2 l && lastW T.2 B l ds i && (l.set i true == l')
theorem qAK {B : List Nat} (hT : rtab md ops = T) (hB : qCq T.2 B = true) (h : takeW T B ds l.toList l'.toList i = true) : takeB md ops ds l l' i = true := by
 refine take_of hT ?_
 simp only [takeW, takeT, Bool.and_eq_true] at h ⊢
 obtain ⟨⟨⟨⟨⟨h1, h2⟩, h3⟩, h4⟩, h5⟩, h6⟩ := h
 refine ⟨⟨⟨⟨⟨h1, h2⟩, h3⟩, h4⟩, ?_⟩, h6⟩
 unfold lastW at h5
 unfold lastT
 rw [List.all_eq_true] at h5 ⊢
 intro d hd
 have h7 := h5 d hd
 rw [Bool.or_eq_true, Bool.and_eq_true, decide_eq_true_eq] at h7
 rcases h7 with h7 | ⟨h8, h9⟩
 ·rw [h7, Bool.true_or]
 rw [reach_bit hB _ d h8 h8 h9, Bool.or_true]
theorem qBM {P : Program} {Q : Exit → Act → World → Prop} {S : World → Prop} {n : Nat} {a : Act} {w : World} {B : List Nat} (hT : rtab md ops = T) (hB : qCq T.2 B = true) (h : qAi (rtab md ops = T) → qAi (qCq T.2 B = true) → qA0 P md ops Q S ds n l a w) : qA0 P md ops Q S ds n l a w := h ⟨hT⟩ ⟨hB⟩
end
def opsIn : Code → Nat → Option (Array Oper)
 | .region id ops _, k => if id == k then some ops else none
 | .seq a b, k => match opsIn a k with
  | some o => some o
  | none => opsIn b k
 | .cond _ a b, k => match opsIn a k with
  | some o => some o
  | none => opsIn b k
 | .block _ c, k => opsIn c k
 | .loop c, k => opsIn c k
 | .scope c, k => opsIn c k
 | .rangeFunc _ _ a b, k => match opsIn a k with
  | some o => some o
  | none => opsIn b k
 | _, _ => none
def opsOf (f : Func) (k : Nat) : Array Oper := ((f.body.bind fun c => opsIn c k)).getD #[]
end YC
end
section
namespace YA
open Go.RowKit
namespace Kd
def tag {α : Type} (f : Nat → Nat) (d : Kd α) : Kd (α × Nat) where
 sz := d.sz
 E := d.E
 K := fun w x cs => d.K w x.1 cs
 M := fun w base ok x cs => d.M w base (fun k => ok k ∧ f k = x.2) x.1 cs
 K_len := fun h => d.K_len h
 K_one := fun h => d.K_one h
 K_below := fun hb h => d.K_below hb h
 K_of_M := fun h => d.K_of_M h
 M_mono := fun hok h => d.M_mono (fun k hk => ⟨hok k hk.1, hk.2⟩) h
 M_bound := fun h => d.M_mono (fun _ hk => ⟨⟨hk.1.1, hk.2⟩, hk.1.2⟩) (d.M_bound h)
 M_move := fun hm h => d.M_move (fun k hk => hm k hk.1) h
 M_lower := fun hb h => d.M_lower hb h
def raw (sz : Nat) : Kd (List Value) where
 sz := sz
 E := []
 K := fun _ x cs => cs = x ∧ cs.length = sz ∧ ∀ u ∈ cs, u.oneCell' = true
 M := fun _ _ _ x cs => cs = x ∧ cs.length = sz ∧ ∀ u ∈ cs, u.oneCell' = true
 K_len := fun h => h.2.1
 K_one := fun h => h.2.2
 K_below := fun _ h => h
 K_of_M := fun h => h
 M_mono := fun _ h => h
 M_bound := fun h => h
 M_move := fun _ h => h
 M_lower := fun _ h => h
def S {α : Type} (d : Kd α) (e : Nat) (w : World) (base : Nat) (ok : Nat → Prop) (v : Value) (xs : List α) : Prop := ∃ f, (tag f d).R e w base ok v xs.zipIdx
section
variable {α β : Type} {d : Kd α} {d' : Kd β} {e e' : Nat} {w w1 W : World} {base b : Nat} {ok ok' okv oku : Nat → Prop} {u v : Value} {xs : List α} {ys : List β}
theorem R_tight (hE : d.E = []) (h : d.R e w base ok v xs) : d.R e w base (fun k => some k = v.ownBlock) v xs := by
 obtain ⟨h0, inner, ho, hr⟩ := h
 refine ⟨fun k hk => hk.symm, inner, ho, hr.imp_ (fun p c hp => d.M_mono (fun k hk => ?_) (d.M_bound hp))⟩
 obtain ⟨_, _, _, q, hq, _⟩ := hk
 rw [hE] at hq
 cases hq
end
def gap {α : Type} (f : Nat → Nat) (d : Kd α) (i : Nat) (c : List Value) : Kd (α × Nat) where
 sz := d.sz
 E := d.E
 K := fun w x cs => (x.2 = i → cs = c ∧ cs.length = d.sz ∧ ∀ u ∈ cs, u.oneCell' = true) ∧ (x.2 ≠ i → d.K w x.1 cs)
 M := fun w base ok x cs => (x.2 = i → cs = c ∧ cs.length = d.sz ∧ ∀ u ∈ cs, u.oneCell' = true) ∧ (x.2 ≠ i → d.M w base (fun k => ok k ∧ f k = x.2) x.1 cs)
 K_len := fun {w x cs} h => by
  by_cases hx : x.2 = i
  ·exact (h.1 hx).2.1
  exact d.K_len (h.2 hx)
 K_one := fun {w x cs} h => by
  by_cases hx : x.2 = i
  ·exact (h.1 hx).2.2
  exact d.K_one (h.2 hx)
 K_below := fun hb h => ⟨h.1, fun hx => d.K_below hb (h.2 hx)⟩
 K_of_M := fun h => ⟨h.1, fun hx => d.K_of_M (h.2 hx)⟩
 M_mono := fun hok h => ⟨h.1, fun hx => d.M_mono (fun k hk => ⟨hok k hk.1, hk.2⟩) (h.2 hx)⟩
 M_bound := fun h => ⟨h.1, fun hx => d.M_mono (fun _ hk => ⟨⟨hk.1.1, hk.2⟩, hk.1.2⟩) (d.M_bound (h.2 hx))⟩
 M_move := fun hm h => ⟨h.1, fun hx => d.M_move (fun k hk => hm k hk.1) (h.2 hx)⟩
 M_lower := fun hb h => ⟨h.1, fun hx => d.M_lower hb (h.2 hx)⟩
def H {α : Type} (d : Kd α) (e : Nat) (w : World) (base : Nat) (ok : Nat → Prop) (v : Value) (xs : List α) (i : Int) (oki : Nat → Prop) (c : List Value) : Prop :=
 (∀ k, oki k → ok k) ∧ ∃ f, (gap f d i.toNat c).R e w base (fun k => ok k ∧ ¬ oki k) v xs.zipIdx
end Kd
namespace Kd
structure Heap {α : Type} (d : Kd α) : Prop where
 K : ∀ {w w1 : World} {x : α} {cs : List Value}, (∀ k, k < w.heap.size → w1.heap[k]? = w.heap[k]?) → d.K w x cs → d.K w1 x cs
theorem cell_heap {w w1 : World} (hb : ∀ k, k < w.heap.size → w1.heap[k]? = w.heap[k]?) {a : Addr} {v : Value} (h : w.cell? a = some v) : w1.cell? a = some v := by
 have := hb a.block (World.block_lt_of_cell? w a h)
 simpa [World.cell?, this] using h
theorem Heap.C {α : Type} {d : Kd α} (hd : Heap d) {w w1 : World} {A : Option Addr} {n : Nat} {xs : List α} (hb : ∀ k, k < w.heap.size → w1.heap[k]? = w.heap[k]?) (h : d.C w A n xs) : d.C w1 A n xs :=
 ⟨h.1, h.2.1, fun hn => by
   obtain ⟨ad, e, hc⟩ := h.2.2 hn
   refine ⟨ad, e, fun j p hj => ?_⟩
   obtain ⟨c, hs, hr, hcell⟩ := hc j p hj
   exact ⟨c, hs, hd.K hb hr, fun i u hu => cell_heap hb (hcell i u hu)⟩⟩
theorem heap_int (k : IntKind) : Heap (Kd.int k) := ⟨fun _ h => h⟩
theorem heap_slice {α : Type} {d : Kd α} (e : Nat) (hd : Heap d) : Heap (slice e d) := ⟨by
  rintro w w1 x cs hb ⟨A, c, rfl, hl, hr⟩
  exact ⟨A, c, rfl, hl, hd.C hb hr⟩⟩
theorem heap_pair {α β : Type} {a : Kd α} {b : Kd β} (ha : Heap a) (hb' : Heap b) : Heap (pair a b) := ⟨by
  rintro w w1 x cs hb ⟨c0, c1, rfl, h0, h1⟩
  exact ⟨c0, c1, rfl, ha.K hb h0, hb'.K hb h1⟩⟩
theorem heap_iso {α β : Type} {d : Kd α} (f : β → α) (hd : Heap d) : Heap (iso d f) := ⟨fun hb h => hd.K hb h⟩
end Kd
def Kept (w W : World) (S : Nat → Prop) : Prop := w.heap.size ≤ W.heap.size ∧ ∀ i, i < w.heap.size → ¬ S i → W.heap[i]? = w.heap[i]?
section
variable {w W W2 : World} {S S2 S' : Nat → Prop}
theorem Kept.refl (w : World) (S : Nat → Prop) : Kept w w S := ⟨Nat.le_refl _, fun _ _ _ => rfl⟩
theorem Kept.of_below (h : Below w.heap.size w W) (S : Nat → Prop) : Kept w W S := ⟨h.size, fun i hi _ => h.block i hi⟩
theorem Kept.mono (h : Kept w W S) (hs : ∀ k, S k → S' k) : Kept w W S' := ⟨h.1, fun i hi hn => h.2 i hi (fun hk => hn (hs i hk))⟩
theorem Kept.then_ (h : Kept w W S) (k : Kept W W2 S2) (hs : ∀ k, S2 k → S k ∨ w.heap.size ≤ k) : Kept w W2 S :=
 ⟨Nat.le_trans h.1 k.1, fun i hi hn => (k.2 i (Nat.lt_of_lt_of_le hi h.1) (fun h2 => (hs i h2).elim hn (fun h3 => by omega))).trans (h.2 i hi hn)⟩
theorem cell_kept {a : Addr} {v : Value} (hc : W.cell? a = some v) (hk : Kept W W2 S) (hne : ¬ S a.block) : W2.cell? a = some v := by
 have := hk.2 a.block (World.block_lt_of_cell? W a hc) hne
 simpa [World.cell?, this] using hc
end
namespace Kd
end Kd
def Foot (P : World → Prop) (W : World) (ok : Nat → Prop) : Prop := ∀ W' : World, (∀ k, ok k → k < W.heap.size → W'.heap[k]? = W.heap[k]?) → P W'
theorem heap_lt {W W1 : World} {k : Nat} (h : W1.heap[k]? = W.heap[k]?) (hlt : k < W.heap.size) : k < W1.heap.size := by
 rw [Array.getElem?_eq_getElem hlt] at h
 exact (Array.getElem?_eq_some_iff.1 h).1
namespace Foot
variable {P Q : World → Prop} {W W1 : World} {ok ok' : Nat → Prop}
theorem now (h : Foot P W ok) : P W := h W (fun _ _ _ => rfl)
theorem mono (h : Foot P W ok) (hok : ∀ k, ok k → ok' k) : Foot P W ok' := fun W' hW => h W' (fun k hk hlt => hW k (hok k hk) hlt)
theorem bound (h : Foot P W ok) : Foot P W (fun k => ok k ∧ k < W.heap.size) := fun W' hW => h W' (fun k hk hlt => hW k ⟨hk, hlt⟩ hlt)
theorem step (h : Foot P W ok) (hm : ∀ k, ok k → k < W.heap.size → W1.heap[k]? = W.heap[k]?) : Foot P W1 ok := fun W' hW => h W' (fun k hk hlt => (hW k hk (heap_lt (hm k hk hlt) hlt)).trans (hm k hk hlt))
end Foot
namespace Kd
def F {α : Type} (d : Kd α) (W : World) (ok : Nat → Prop) (A : Option Addr) (n : Nat) (xs : List α) : Prop := Foot (fun W => d.C W A n xs) W ok
def FK {α : Type} (d : Kd α) (W : World) (ok : Nat → Prop) (x : α) (c : List Value) : Prop := Foot (fun W => d.K W x c) W ok
section
variable {α β : Type} {d : Kd α} {e base n n' cc g N : Nat} {ok ok' okp S : Nat → Prop} {w w0 w1 W W1 : World} {A A' : Option Addr} {u v v1 : Value} {xs : List α} {xs' : List β} {d' : Kd β} {x : α} {c : List Value}
theorem F_now (h : F d W ok A n xs) : d.C W A n xs := Foot.now h
theorem F_mono (h : F d W ok A n xs) (hok : ∀ k, ok k → ok' k) : F d W ok' A n xs := Foot.mono h hok
theorem F_bound (h : F d W ok A n xs) : F d W (fun k => ok k ∧ k < W.heap.size) A n xs := Foot.bound h
theorem F_step (h : F d W ok A n xs) (hm : ∀ k, ok k → k < W.heap.size → W1.heap[k]? = W.heap[k]?) : F d W1 ok A n xs := Foot.step h hm
theorem F_below (h : F d W ok A n xs) (hb : Below W.heap.size W W1) : F d W1 ok A n xs := F_step h (fun k _ hlt => hb.block k hlt)
theorem F_alloc (h : F d W ok A n xs) (o : Obj) : F d (W.alloc o) ok A n xs := F_below h (qAb (Below.refl _ _) o)
theorem F_drewN (h : F d W ok A n xs) (m : Nat) : F d (W.drewN m) ok A n xs := F_below h (qAa (Below.refl _ _) m)
theorem F_far (h : F d W ok A n xs) {p : Addr} (hok : ∀ k, ok k → k ≠ p.block) (u : Value) : F d (W.setCell p u) ok A n xs := F_step h (fun k hk _ => Below.heap_setCell W p u k (hok k hk))
theorem F_kept (h : F d W ok A n xs) (hk : Kept W W1 S) (hok : ∀ k, ok k → ¬ S k) : F d W1 ok A n xs := F_step h (fun k ho hlt => hk.2 k hlt (hok k ho))
theorem F_nil (d : Kd α) (W : World) (ok : Nat → Prop) : F d W ok none ([] : List α).length [] := fun W' _ => C_nil d W'
theorem F_len (h : F d W ok A n xs) : xs.length = n := (F_now h).1
theorem C_F (hd : Heap d) (h : d.C w A n xs) : F d w (fun k => k < w.heap.size) A n xs := fun _ hW => hd.C (fun k hlt => hW k hlt hlt) h
theorem FK_now (h : FK d W ok x c) : d.K W x c := Foot.now h
theorem qC7 (h : FK d W ok x c) (hok : ∀ k, ok k → ok' k) : FK d W ok' x c := Foot.mono h hok
theorem FK_bound (h : FK d W ok x c) : FK d W (fun k => ok k ∧ k < W.heap.size) x c := Foot.bound h
theorem FK_step (h : FK d W ok x c) (hm : ∀ k, ok k → k < W.heap.size → W1.heap[k]? = W.heap[k]?) : FK d W1 ok x c := Foot.step h hm
theorem FK_of_M (h : d.M W base ok x c) : FK d W ok x c := fun _ hW => d.K_of_M (M_step h hW)
theorem emptied (W : World) (g : Nat) : ∃ W' : World, (∀ k, k ≠ g → W'.heap[k]? = W.heap[k]?) ∧ ∀ a : Addr, a.block = g → W'.cell? a = none := by
 refine ⟨{ W with heap := W.heap.setIfInBounds g (.cells #[] 0) }, fun k hk => by simp [Ne.symm hk], fun a ha => ?_⟩
 subst ha
 by_cases hlt : a.block < W.heap.size
 ·simp [World.cell?, hlt]
 simp [World.cell?, hlt]
end
end Kd
namespace Kd
def qCJ (sz : Nat) (n : Nat) (inner : List Value) : List (List Value) := (List.range n).map fun j => (inner.drop (j * sz)).take sz
theorem qAV (sz n : Nat) (inner : List Value) : (qCJ sz n inner).length = n := by simp [qCJ]
theorem chunks_at {sz n : Nat} {inner : List Value} {j : Nat} (hj : j < n) : (qCJ sz n inner)[j]? = some ((inner.drop (j * sz)).take sz) := by simp [qCJ, hj]
theorem qCd {sz n : Nat} {inner : List Value} {j : Nat} {c : List Value} (h : (qCJ sz n inner)[j]? = some c) : c = (inner.drop (j * sz)).take sz := by
 have hj : j < n := by have := (List.getElem?_eq_some_iff.1 h).1; rwa [qAV] at this
 rw [chunks_at hj] at h
 injection h with h
 exact h.symm
theorem reps_raw {α : Type} {Rr : α → List Value → Prop} {sz : Nat} {xs : List α} {inner : List Value} (h : Reps Rr sz xs inner) (hR : ∀ x c, Rr x c → c.length = sz ∧ ∀ u ∈ c, u.oneCell' = true) : Reps (fun x cs => cs = x ∧ cs.length = sz ∧ ∀ u ∈ cs, u.oneCell' = true) sz (qCJ sz xs.length inner) inner := by
 refine ⟨by rw [qAV]; exact h.1, fun j p hj => ?_⟩
 have hjl : j < xs.length := by have := (List.getElem?_eq_some_iff.1 hj).1; rwa [qAV] at this
 have hp := qCd hj
 exact ⟨hp.symm, hR _ _ (h.2 j _ (List.getElem?_eq_getElem hjl))⟩
section
variable {α : Type} {d : Kd α} {e base n cc g : Nat} {ok ok' okp S : Nat → Prop} {w w1 W W1 : World} {A : Option Addr} {u v v1 : Value} {xs : List α} {x : α} {c : List Value}
theorem F_get (h : F d W ok A n xs) (z : α) (i : Int) (h0 : 0 ≤ i) (h1 : i < n) :
  ∃ ad c, A = some ad ∧ c.length = d.sz ∧ FK d W ok (xs.getD i.toNat z) c ∧ (∀ j u, c[j]? = some u → W.cell? (ad.add (i.toNat * d.sz + j)) = some u) ∧ (0 < d.sz → ok ad.block) := by
 obtain ⟨ad, c, rfl, hcl, hK, hcc⟩ := C_get (F_now h) z i h0 h1
 have hin : 0 < d.sz → ok ad.block := by
  intro hs
  by_cases hk : ok ad.block
  ·exact hk
  obtain ⟨W', h2, h3⟩ := emptied W ad.block
  obtain ⟨ad', c', he, hcl', _, hcc'⟩ := C_get (h W' (fun k hk' _ => h2 k (fun e => hk (e ▸ hk')))) z i h0 h1
  injection he with he
  subst he
  have h4 := hcc' 0 _ (List.getElem?_eq_getElem (by omega))
  rw [h3 _ (qCX _ _)] at h4
  cases h4
 refine ⟨ad, c, rfl, hcl, fun W' hW => ?_, hcc, hin⟩
 obtain ⟨ad', c', he, hcl', hK', hcc'⟩ := C_get (h W' hW) z i h0 h1
 injection he with he
 subst he
 have hc : c = c' := by
  apply List.ext_getElem?
  intro j
  by_cases hj : j < d.sz
  rotate_left
  ·rw [List.getElem?_eq_none (by omega), List.getElem?_eq_none (by omega)]
  have hb : W'.heap[ad.block]? = W.heap[ad.block]? := by
   have h5 := hcc j _ (List.getElem?_eq_getElem (by omega))
   have h6 := World.block_lt_of_cell? W _ h5
   rw [qCX] at h6
   exact hW _ (hin (by omega)) h6
  have h5 := hcc j _ (List.getElem?_eq_getElem (by omega))
  have h6 := hcc' j _ (List.getElem?_eq_getElem (by omega))
  have h7 : W'.cell? (ad.add (i.toNat * d.sz + j)) = W.cell? (ad.add (i.toNat * d.sz + j)) := by simp [World.cell?, qCX, hb]
  rw [h7, h5] at h6
  rw [List.getElem?_eq_getElem (by omega), List.getElem?_eq_getElem (by omega)]
  exact h6
 rw [hc]
 exact hK'
theorem F_rows (h : F d W ok A n xs) : qAJ (fun x c => FK d W ok x c) d.sz W A n xs := by
 obtain ⟨hl, hm, hn⟩ := F_now h
 refine ⟨hl, hm, fun hp => ?_⟩
 obtain ⟨ad, rfl, _⟩ := hn hp
 refine ⟨ad, rfl, fun j p hj => ?_⟩
 obtain ⟨hjl, hjp⟩ := List.getElem?_eq_some_iff.1 hj
 obtain ⟨ad', c, he, hcl, hK, hcc, _⟩ := F_get h p (j : Int) (by omega) (by omega)
 injection he with he
 subst he
 simp only [Int.toNat_natCast] at hK hcc
 rw [List.getD_eq_getElem?_getD, hj] at hK
 exact ⟨c, hcl, hK, hcc⟩
def N {α : Type} (d : Kd α) (e : Nat) (w : World) (base : Nat) (ok : Nat → Prop) (v : Value) (xs : List α) : Prop :=
 (∀ k, v.ownBlock = some k → ok k) ∧ ∃ rows : List (List Value), rows.length = xs.length ∧ (raw d.sz).R e w base (fun k => some k = v.ownBlock) v rows ∧ ∀ (j : Nat) (x : α) (c : List Value), xs[j]? = some x → rows[j]? = some c → FK d w (fun k => ok k ∧ some k ≠ v.ownBlock) x c
theorem qCz {sz : Nat} {rows : List (List Value)} (h : (raw sz).R e w base ok v rows) : (raw sz).R e w base (fun k => some k = v.ownBlock) v rows := R_tight rfl h
theorem raw_any {sz : Nat} {rows : List (List Value)} (h : (raw sz).R e w base ok v rows) : (raw sz).R e w base (fun _ => True) v rows := R_mono h (fun _ _ => trivial)
theorem R_N (h : d.R e w base ok v xs) : N d e w base ok v xs := by
 obtain ⟨h0, inner, ho, hr⟩ := h
 refine ⟨h0, qCJ d.sz xs.length inner, qAV _ _ _, ⟨fun k hk => hk.symm, inner, by rw [qAV]; exact ho, reps_raw hr (fun x c hp => ⟨d.K_len (d.K_of_M hp), d.K_one (d.K_of_M hp)⟩)⟩, fun j x c hx hc => ?_⟩
 rw [qCd hc]
 exact FK_of_M (hr.2 j x hx)
theorem N_nil (d : Kd α) (e : Nat) (w : World) (base : Nat) (ok : Nat → Prop) : N d e w base ok (.slice none 0 0) [] := R_N (R_nil _ _ _ _ _)
theorem N_mono (h : N d e w base ok v xs) (hok : ∀ k, ok k → ok' k) : N d e w base ok' v xs := by
 obtain ⟨h0, rows, hl, hR, hf⟩ := h
 exact ⟨fun k hk => hok k (h0 k hk), rows, hl, hR, fun j x c hx hc => qC7 (hf j x c hx hc) (fun k hk => ⟨hok k hk.1, hk.2⟩)⟩
theorem N_lt (h : N d e w base ok v xs) : ∀ k, v.ownBlock = some k → k < w.heap.size := by
 obtain ⟨_, rows, _, hR, _⟩ := h
 exact R_lt hR
theorem N_base (h : N d e w base ok v xs) : ∀ k, v.ownBlock = some k → base ≤ k := by
 obtain ⟨_, rows, _, hR, _⟩ := h
 exact R_base hR
theorem N_bound (h : N d e w base ok v xs) : N d e w base (fun k => ok k ∧ k < w.heap.size) v xs := by
 have hlt := N_lt h
 obtain ⟨h0, rows, hl, hR, hf⟩ := h
 exact ⟨fun k hk => ⟨h0 k hk, hlt k hk⟩, rows, hl, hR, fun j x c hx hc => qC7 (FK_bound (hf j x c hx hc)) (fun k hk => ⟨⟨hk.1.1, hk.2⟩, hk.1.2⟩)⟩
theorem N_lower {base' : Nat} (h : N d e w base ok v xs) (hb : base' ≤ base) : N d e w base' ok v xs := by
 obtain ⟨h0, rows, hl, hR, hf⟩ := h
 exact ⟨h0, rows, hl, R_lower hR hb, hf⟩
theorem N_step (h : N d e w base ok v xs) (hm : ∀ k, ok k → k < w.heap.size → w1.heap[k]? = w.heap[k]?) : N d e w1 base ok v xs := by
 obtain ⟨h0, rows, hl, hR, hf⟩ := h
 exact ⟨h0, rows, hl, R_step hR (fun k hk hlt => hm k (h0 k hk.symm) hlt), fun j x c hx hc => FK_step (hf j x c hx hc) (fun k hk hlt => hm k hk.1 hlt)⟩
theorem N_below (h : N d e w base ok v xs) (hb : Below w.heap.size w w1) : N d e w1 base ok v xs := N_step h (fun k _ hk => hb.block k hk)
theorem N_alloc (h : N d e w base ok v xs) (o : Obj) : N d e (w.alloc o) base ok v xs := N_below h (qAb (Below.refl _ _) o)
theorem N_drew (h : N d e w base ok v xs) : N d e w.drew base ok v xs := N_below h (qAr (Below.refl _ _))
theorem N_grown (h : N d e w base ok v xs) {row : Option Nat} (hg : w.grownBy w1 row) (hok : ∀ k, ok k → some k ≠ row) : N d e w1 base ok v xs := N_step h (fun k ho hk => hg.block k hk (hok k ho))
theorem N_far (h : N d e w base ok v xs) {p : Addr} (hok : ∀ k, ok k → k ≠ p.block) (u : Value) : N d e (w.setCell p u) base ok v xs := N_step h (fun k ho _ => Below.heap_setCell w p u k (hok k ho))
theorem N_kept (h : N d e w base ok v xs) (hk : Kept w w1 S) (hok : ∀ k, ok k → ¬ S k) : N d e w1 base ok v xs := N_step h (fun k ho hlt => hk.2 k hlt (hok k ho))
theorem N_after (h : N d e W base (fun k => ok k ∧ some k ≠ u.ownBlock) v xs) {u1 : Value} (hg : W.grownBy w1 u.ownBlock) (hat : u1.ownBlock = u.ownBlock ∨ ∃ b, u1.ownBlock = some b ∧ W.heap.size ≤ b) : N d e w1 base (fun k => ok k ∧ some k ≠ u1.ownBlock) v xs := by
 refine N_mono (N_step (N_bound h) (fun k hk hlt => hg.block k hlt hk.1.2)) (fun k hk => ⟨hk.1.1, ?_⟩)
 rcases hat with hat | ⟨b, hb, hle⟩
 ·rw [hat]; exact hk.1.2
 rw [hb]
 intro he
 injection he with he
 have := hk.2
 omega
theorem N_slice (h : N d e w base ok v xs) : ∃ A c, v = .slice A xs.length c := by
 obtain ⟨_, rows, hl, hR, _⟩ := h
 obtain ⟨A, c, he⟩ := R_slice hR
 exact ⟨A, c, by rw [he, hl]⟩
theorem N_val (h : N d e w base ok v xs) : v.cells.toList = [v] ∧ v.oneCell' = true := by
 obtain ⟨A, c, rfl⟩ := N_slice h
 exact ⟨rfl, rfl⟩
theorem N_form (h : N d e w base ok v xs) (hp : 0 < xs.length) : ∃ g cap, v = .slice (some ⟨g, 0, none⟩) xs.length cap ∧ base ≤ g ∧ g < w.heap.size ∧ ∃ cells, w.heap[g]? = some (.cells cells e (0, 0)) := by
 obtain ⟨_, rows, hl, hR, _⟩ := h
 rw [← hl] at hp ⊢
 exact R_form hR hp
theorem N_reads' {n c : Nat} (h : N d e w base ok (.slice A n c) xs) : n = xs.length ∧ n ≤ c ∧ d.C w A xs.length xs := by
 obtain ⟨_, rows, hl, hR, hf⟩ := h
 obtain ⟨hn, hc, hC⟩ := R_reads' hR
 refine ⟨by omega, hc, ?_⟩
 rw [hl] at hC
 refine ⟨rfl, hC.2.1, fun hp => ?_⟩
 obtain ⟨ad, he, hcell⟩ := hC.2.2 hp
 refine ⟨ad, he, fun j p hj => ?_⟩
 have hjl : j < rows.length := by have := (List.getElem?_eq_some_iff.1 hj).1; omega
 obtain ⟨c', hcl, hK, hcc⟩ := hcell j _ (List.getElem?_eq_getElem hjl)
 have hk := FK_now (hf j p _ hj (List.getElem?_eq_getElem hjl))
 refine ⟨c', hcl, ?_, hcc⟩
 rw [show c' = rows[j] from hK.1]
 exact hk
theorem N_F {n : Nat} (h : N d e w base ok (.slice A n cc) xs) : F d w ok A n xs := fun W' hW => by
 have h2 := N_reads' (N_step h hW)
 rw [h2.1]
 exact h2.2.2
theorem N_elem {n cap : Nat} (h : N d e W base ok (.slice (some ⟨g, 0, none⟩) n cap) xs) (z : α) (i : Int) (h0 : 0 ≤ i) (h1 : i < n) :
  ∃ c, c.length = d.sz ∧ FK d W (fun k => ok k ∧ k ≠ g) (xs.getD i.toNat z) c ∧ (∀ j u, c[j]? = some u → W.cell? ⟨g, i.toNat * d.sz + j, none⟩ = some u) ∧ ∀ j, W.frozen? ⟨g, i.toNat * d.sz + j, none⟩ = false := by
 obtain ⟨_, rows, hl, hR, hf⟩ := h
 have hn := (R_reads' hR).1
 obtain ⟨c, hcl, hM, hcc, hfr⟩ := R_elem hR [] i h0 h1
 have hil : i.toNat < rows.length := by omega
 have hil' : i.toNat < xs.length := by omega
 have hc : c = rows[i.toNat] := by
  have h2 := hM.1
  rwa [List.getD_eq_getElem?_getD, List.getElem?_eq_getElem hil] at h2
 refine ⟨c, hcl, ?_, hcc, hfr⟩
 rw [List.getD_eq_getElem?_getD, List.getElem?_eq_getElem hil']
 exact qC7 (hf _ _ _ (List.getElem?_eq_getElem hil') (by rw [hc]; exact List.getElem?_eq_getElem hil)) (fun k hk => ⟨hk.1, fun he => hk.2 (by rw [he]; simp [Value.ownBlock])⟩)
end
end Kd
namespace Kd
section
variable {α : Type} {d : Kd α} {W : World} {g n : Nat} {S ok : Nat → Prop} {A : Option Addr} {ad : Addr} {xs : List α}
theorem F_in (h : F d W ok A n xs) {ad : Addr} (hA : A = some ad) (hn : 0 < n) (hs : 0 < d.sz) : ok ad.block := by
 subst hA
 have hl := F_len h
 cases xs with
 | nil => simp at hl; omega
 | cons x r =>
  obtain ⟨ad', c, he, _, _, _, hin⟩ := F_get h x 0 (by omega) (by omega)
  injection he with he
  subst he
  exact hin hs
end
end Kd
end YA
end
section
namespace YA
theorem Reps.one {α : Type} {R : α → List Value → Prop} {ps : List α} {cs : List Value} {p : α} {v : Value} (hp : R p [v]) (h : Reps R 1 ps cs) : Reps R 1 (p :: ps) (v :: cs) := by
 refine ⟨by simp [h.1], fun j q hq => ?_⟩
 cases j with
 | zero =>
  simp only [List.getElem?_cons_zero, Option.some.injEq] at hq
  subst hq
  simpa using hp
 | succ j =>
  simp only [List.getElem?_cons_succ] at hq
  have h1 := h.2 j q hq
  simpa [Nat.mul_one] using h1
theorem Reps.front {α : Type} {R : α → List Value → Prop} {size : Nat} {ps : List α} {cs c all : List Value} {p : α} (hp : R p c) (hc : c.length = size) (h : Reps R size ps cs) (ha : c ++ cs = all) : Reps R size (p :: ps) all := by
 subst ha
 refine ⟨by rw [List.length_append, hc, h.1, List.length_cons, Nat.succ_mul, Nat.add_comm], fun j q hq => ?_⟩
 cases j with
 | zero =>
  simp only [List.getElem?_cons_zero, Option.some.injEq] at hq
  subst hq
  rw [Nat.zero_mul, List.drop_zero, List.take_append_of_le_length (by omega), List.take_of_length_le (by omega)]
  exact hp
 | succ j =>
  simp only [List.getElem?_cons_succ] at hq
  have h1 := h.2 j q hq
  rw [Nat.succ_mul, List.drop_append, List.drop_of_length_le (by rw [hc]; exact Nat.le_add_left _ _), List.nil_append, hc, Nat.add_sub_cancel]
  exact h1
theorem Reps.c4 {α : Type} {R : α → List Value → Prop} {ps : List α} {cs : List Value} {p : α} {va vb vc vd : Value} (hp : R p [va, vb, vc, vd]) (h : Reps R 4 ps cs) : Reps R 4 (p :: ps) (va :: vb :: vc :: vd :: cs) := Reps.front hp rfl h rfl
end YA
end
section
namespace YA
open Go.RowKit
section
variable {P : Program} {ops : Array Oper} {rest : List Oper} {o : Oper} {a : Act} {Q : Exit → Act → World → Prop} {W : World}
theorem qBH (hw : Region.wanted o (yielded ops a.tmps) = true) (h : wpList P ops Q ({ o with guard := none } :: rest) a W) : wpList P ops Q (o :: rest) a W := by
 have h1 : Region.wanted { o with guard := none } (yielded ops a.tmps) = true := rfl
 unfold wpList at h ⊢
 rw [if_pos h1] at h
 rw [if_pos hw]
 exact h
end
namespace Kd
section
variable {α : Type} {d : Kd α} {e base n cap g : Nat} {ok ok' okp : Nat → Prop} {w w1 W : World} {v v1 : Value} {xs ys : List α}
theorem N_appended {rows news : List (List Value)} (h0 : ∀ k, v.ownBlock = some k → ok k) (hl : rows.length = xs.length) (hf : ∀ (j : Nat) (x : α) (c : List Value), xs[j]? = some x → rows[j]? = some c → FK d W (fun k => ok k ∧ some k ≠ v.ownBlock) x c)
  (hl2 : news.length = ys.length) (hf2 : ∀ (j : Nat) (x : α) (c : List Value), ys[j]? = some x → news[j]? = some c → FK d W okp x c) (hokp : ∀ k, okp k → ok k ∧ some k ≠ v.ownBlock) (hfresh : ∀ k, W.heap.size ≤ k → ok k)
  (hR : (raw d.sz).R e w1 base (fun _ => True) v1 (rows ++ news)) (hg : W.grownBy w1 v.ownBlock) (hat : v1.ownBlock = v.ownBlock ∨ ∃ b, v1.ownBlock = some b ∧ W.heap.size ≤ b) : N d e w1 base ok v1 (xs ++ ys) := by
 have hne : ∀ k, some k ≠ v.ownBlock → k < W.heap.size → some k ≠ v1.ownBlock := by
  intro k hk hlt
  rcases hat with hat | ⟨b, hb, hle⟩
  ·rw [hat]; exact hk
  rw [hb]
  intro he
  injection he with he
  omega
 have step : ∀ {x : α} {c : List Value} {o : Nat → Prop}, FK d W o x c → (∀ k, o k → ok k ∧ some k ≠ v.ownBlock) → FK d w1 (fun k => ok k ∧ some k ≠ v1.ownBlock) x c := by
  intro x c o hq ho
  exact qC7 (FK_step (FK_bound hq) (fun k hk hlt => hg.block k hlt (ho k hk.1).2)) (fun k hk => ⟨(ho k hk.1).1, hne k (ho k hk.1).2 hk.2⟩)
 refine ⟨fun k hk => ?_, rows ++ news, by rw [List.length_append, List.length_append, hl, hl2], qCz hR, fun j x c hx hc => ?_⟩
 ·rcases hat with hat | ⟨b, hb, hle⟩
  ·exact h0 k (hat ▸ hk)
  ·rw [hb] at hk
   injection hk with hk
   exact hfresh k (by omega)
 ·rcases Nat.lt_or_ge j xs.length with hlt | hge
  ·rw [List.getElem?_append_left hlt] at hx
   rw [List.getElem?_append_left (by omega)] at hc
   exact step (hf j x c hx hc) (fun _ hk => hk)
  ·rw [List.getElem?_append_right hge] at hx
   rw [List.getElem?_append_right (by omega), hl] at hc
   exact step (hf2 _ x c hx hc) hokp
theorem FK_raw {x : α} {c : List Value} (h : FK d W ok x c) : c = c ∧ c.length = d.sz ∧ ∀ u ∈ c, u.oneCell' = true := ⟨rfl, d.K_len (FK_now h), d.K_one (FK_now h)⟩
theorem N_made {rows : List (List Value)} (hR : (raw d.sz).R e w1 base (fun k => k = W.heap.size) v1 rows) (hg : W.grownBy w1 none) (hat : ∃ b, v1.ownBlock = some b ∧ W.heap.size ≤ b) (hl : rows.length = xs.length) (hf : ∀ (j : Nat) (x : α) (c : List Value), xs[j]? = some x → rows[j]? = some c → FK d W okp x c)
  (hok : ∀ k, okp k → ok k) (hfresh : ok W.heap.size) : N d e w1 base ok v1 xs := by
 obtain ⟨b, hb, hle⟩ := hat
 refine ⟨fun k hk => by rw [hR.1 k hk]; exact hfresh, rows, hl, qCz hR, fun j x c hx hc => ?_⟩
 refine qC7 (FK_step (FK_bound (hf j x c hx hc)) (fun k hk hlt => hg.block k hlt (by simp))) (fun k hk => ⟨hok k hk.1, fun he => ?_⟩)
 rw [hb] at he
 injection he with he
 have := hk.2
 omega
theorem N_written {rows : List (List Value)} {i : Int} {x' : α} {c' : List Value} (h0 : ∀ k, (Value.slice (some ⟨g, 0, none⟩) n cap).ownBlock = some k → ok k) (hl : rows.length = xs.length) (hf : ∀ (j : Nat) (x : α) (c : List Value), xs[j]? = some x → rows[j]? = some c → FK d W (fun k => ok k ∧ some k ≠ (Value.slice (some ⟨g, 0, none⟩) n cap).ownBlock) x c)
  (hR : (raw d.sz).R e w1 base (fun _ => True) (.slice (some ⟨g, 0, none⟩) n cap) (rows.set i.toNat c')) (hg : W.grownBy w1 (some g)) (hM : FK d W okp x' c') (hokp : ∀ k, okp k → ok k ∧ k ≠ g) : N d e w1 base ok (.slice (some ⟨g, 0, none⟩) n cap) (xs.set i.toNat x') := by
 have hgo : some g = (Value.slice (some ⟨g, 0, none⟩) n cap).ownBlock := by simp [Value.ownBlock]
 refine ⟨h0, rows.set i.toNat c', by rw [List.length_set, List.length_set, hl], qCz hR, fun j x c hx hc => ?_⟩
 have hjl : j < xs.length := by have := (List.getElem?_eq_some_iff.1 hx).1; rwa [List.length_set] at this
 by_cases hji : j = i.toNat
 ·subst hji
  rw [List.getElem?_set_self hjl] at hx
  rw [List.getElem?_set_self (by omega)] at hc
  injection hx with hx
  injection hc with hc
  rw [← hx, ← hc]
  exact qC7 (FK_step hM (fun k hk hlt => hg.block k hlt (fun he => (hokp k hk).2 (by injection he)))) (fun k hk => ⟨(hokp k hk).1, fun he => (hokp k hk).2 (by rw [← hgo] at he; injection he)⟩)
 ·rw [List.getElem?_set_ne (Ne.symm hji)] at hx hc
  exact FK_step (hf j x c hx hc) (fun k hk hlt => hg.block k hlt (by rw [hgo]; exact hk.2))
theorem N_take {A : Option Addr} {m c : Nat} (h : N d e w base ok (.slice A n c) xs) (hm : m ≤ xs.length) : N d e w base ok (.slice A m c) (xs.take m) := by
 obtain ⟨h0, rows, hl, hR, hf⟩ := h
 have hb : ∀ x y : Nat, (Value.slice A x c).ownBlock = (Value.slice A y c).ownBlock := by
  intro x y
  cases A <;> rfl
 refine ⟨fun k hk => h0 k (by rw [hb _ m]; exact hk), rows.take m, by rw [List.length_take, List.length_take, hl], qCz (R_take (raw_any hR) (by omega)), fun j x c' hx hc => ?_⟩
 rw [List.getElem?_take] at hx hc
 split at hx
 ·rename_i hj
  rw [if_pos hj] at hc
  rw [hb m n]
  exact hf j x c' hx hc
 cases hx
theorem N_seg (h : N d e W base ok (.slice (some ⟨g, 0, none⟩) n cap) xs) (i : Int) (h0 : 0 ≤ i) (h1 : i < n) {c seg : List Value} {j : Nat} (hcl : c.length = d.sz) (hcc : ∀ j u, c[j]? = some u → W.cell? ⟨g, i.toNat * d.sz + j, none⟩ = some u)
  (hj : j + seg.length ≤ d.sz) {x' : α} (hM : FK d W okp x' (c.take j ++ seg ++ c.drop (j + seg.length))) (hokp : ∀ k, okp k → ok k ∧ k ≠ g) :
  N d e (W.setCells g (i.toNat * d.sz + j) seg) base ok (.slice (some ⟨g, 0, none⟩) n cap) (xs.set i.toNat x') ∧ W.grownBy (W.setCells g (i.toNat * d.sz + j) seg) (some g) := by
 obtain ⟨hown, rows, hl, hR, hf⟩ := h
 obtain ⟨h2, h3⟩ := R_seg (raw_any hR) i h0 h1 (c := c) (seg := seg) (j := j) (x' := c.take j ++ seg ++ c.drop (j + seg.length)) (okp := fun _ => False) hcl hcc hj ⟨rfl, d.K_len (FK_now hM), d.K_one (FK_now hM)⟩ (fun _ hk => hk.elim)
 exact ⟨N_written hown hl hf h2 h3 hM hokp, h3⟩
theorem reads_raw {Rr : α → List Value → Prop} {sz m : Nat} {A : Option Addr} (h : qAJ Rr sz W A m ys) (hR : ∀ x c, Rr x c → c.length = sz ∧ ∀ u ∈ c, u.oneCell' = true) :
  ∃ news : List (List Value), news.length = ys.length ∧ qAJ (fun x cs => cs = x ∧ cs.length = sz ∧ ∀ u ∈ cs, u.oneCell' = true) sz W A m news ∧ ∀ (j : Nat) (x : α) (c : List Value), ys[j]? = some x → news[j]? = some c → Rr x c := by
 rcases Nat.eq_zero_or_pos m with h0 | hp
 ·have hy : ys = [] := List.eq_nil_of_length_eq_zero (h.1.trans h0)
  subst hy
  exact ⟨[], rfl, ⟨h0 ▸ rfl, h.2.1, fun hp => by omega⟩, fun j x c hx => by simp at hx⟩
 ·obtain ⟨ad, rfl, _⟩ := h.2.2 hp
  obtain ⟨inner, hr, hc⟩ := qAJ.inner_ h
  refine ⟨qCJ sz ys.length inner, qAV _ _ _, ⟨by rw [qAV]; exact h.1, h.2.1, fun _ => ⟨ad, rfl, fun j p hj => ?_⟩⟩, fun j x c hx hcc => ?_⟩
  ·have hjl : j < ys.length := by have := (List.getElem?_eq_some_iff.1 hj).1; rwa [qAV] at this
   have hpe := qCd hj
   have hq := hR _ _ (hr.2 j _ (List.getElem?_eq_getElem hjl))
   rw [← hpe] at hq
   refine ⟨p, hq.1, ⟨rfl, hq⟩, fun i u hu => ?_⟩
   have hu2 : inner[j * sz + i]? = some u := by
    rw [hpe, List.getElem?_take] at hu
    split at hu
    ·rw [List.getElem?_drop] at hu
     exact hu
    cases hu
   exact hc _ u hu2
  ·rw [qCd hcc]
   exact hr.2 j x hx
end
section
variable {P : Program} {ops : Array Oper} {rest : List Oper} {o : Oper} {a : Act} {Q : Exit → Act → World → Prop} {Kc : Act → World → Prop} {α : Type}
theorem N_append (d : Kd α) {w0 W : World} (base : Nat) (hgd : o.guard = none) (s x : Operand) (t e : TypeId) (z : Value) (bytes : Nat)
  (ho : o.op = .call { callee := .builtin .append, args := #[s, x], argTypes := #[t, t] })
  (ht : P.underlying t = some (.slice e)) (hinfo : (P.info? e).map (fun i => (i.zero, i.size, i.bytes)) = some (some z, d.sz, bytes)) (hz : z.cells.size = d.sz) (hs0 : 0 < d.sz) (hb0 : 0 < bytes)
  (v : Value) (xs : List α) (p : α) (cs : List Value) (ok okp : Nat → Prop) (hs : a.eval s = v) (hx : a.eval x = .slice (some ⟨W.heap.size, 0, none⟩) 1 1) (hp : FK d W okp p cs) (hokp : ∀ k, okp k → ok k ∧ some k ≠ v.ownBlock) (hfresh : ∀ k, W.heap.size ≤ k → ok k)
  (HO : N d e W base ok v xs) (HB : Below base w0 W) (hbase : base ≤ W.heap.size) (hl : (xs.length + 1) * bytes ≤ 140737488355328)
  (h : ∀ v1 w1, N d e w1 base ok v1 (xs ++ [p]) → Below base w0 w1 → W.grownBy w1 v.ownBlock → (v1.ownBlock = v.ownBlock ∨ ∃ b, v1.ownBlock = some b ∧ W.heap.size ≤ b) → wpList P ops Q rest (a.put o.dst v1) w1) :
  wpList P ops Q (o :: rest) a (W.alloc (.cells cs.toArray e)) := by
 obtain ⟨h0, rows, hlr, hR, hf⟩ := HO
 refine R_append (raw d.sz) base hgd s x t e z bytes ho ht hinfo hz hs0 hb0 v rows cs cs (fun _ => True) (fun _ => False) hs hx (FK_raw hp) (fun _ hk => hk.elim) (fun _ _ => trivial) (raw_any hR) HB hbase (by rw [hlr]; exact hl) ?_
 intro v1 w1 hr hb hg hat
 exact h v1 w1 (N_appended h0 hlr hf (ys := [p]) (news := [cs]) rfl (fun j y c hy hc => by
   rcases j with _ | j
   · simp only [List.getElem?_cons_zero, Option.some.injEq] at hy hc
     rw [← hy, ← hc]; exact hp
   · simp at hy) hokp hfresh hr hg hat) hb hg hat
theorem N_append_step (d : Kd α) {w0 W : World} (base : Nat) (hw : Region.wanted o (yielded ops a.tmps) = true) (s x : Operand) (t e : TypeId) (z : Value) (bytes : Nat)
  (ho : o.op = .call { callee := .builtin .append, args := #[s, x], argTypes := #[t, t] })
  (ht : P.underlying t = some (.slice e)) (hinfo : (P.info? e).map (fun i => (i.zero, i.size, i.bytes)) = some (some z, d.sz, bytes)) (hz : z.cells.size = d.sz) (hs0 : 0 < d.sz) (hb0 : 0 < bytes)
  (v : Value) (xs : List α) (p : α) (cs : List Value) (ok okp : Nat → Prop) (hs : a.eval s = v) (hx : a.eval x = .slice (some ⟨W.heap.size, 0, none⟩) 1 1) (hp : FK d W okp p cs) (hokp : ∀ k, okp k → ok k ∧ some k ≠ v.ownBlock) (hfresh : ∀ k, W.heap.size ≤ k → ok k)
  (HO : N d e W base ok v xs) (HB : Below base w0 W) (hbase : base ≤ W.heap.size) (hl : (xs.length + 1) * bytes ≤ 140737488355328)
  (h : ∀ v1 w1, N d e w1 base ok v1 (xs ++ [p]) → Below base w0 w1 → W.grownBy w1 v.ownBlock → (v1.ownBlock = v.ownBlock ∨ ∃ b, v1.ownBlock = some b ∧ W.heap.size ≤ b) → Kc (a.put o.dst v1) w1) :
  if Region.wanted o (yielded ops a.tmps) = true then Oper.wp P o a (W.alloc (.cells cs.toArray e)) Kc Q else Kc (a.put o.dst undef) (W.alloc (.cells cs.toArray e)) := by
 obtain ⟨h0, rows, hlr, hR, hf⟩ := HO
 refine R_append_step (raw d.sz) base hw s x t e z bytes ho ht hinfo hz hs0 hb0 v rows cs cs (fun _ => True) (fun _ => False) hs hx (FK_raw hp) (fun _ hk => hk.elim) (fun _ _ => trivial) (raw_any hR) HB hbase (by rw [hlr]; exact hl) ?_
 intro v1 w1 hr hb hg hat
 exact h v1 w1 (N_appended h0 hlr hf (ys := [p]) (news := [cs]) rfl (fun j y c hy hc => by
   rcases j with _ | j
   · simp only [List.getElem?_cons_zero, Option.some.injEq] at hy hc
     rw [← hy, ← hc]; exact hp
   · simp at hy) hokp hfresh hr hg hat) hb hg hat
theorem N_append_rows (d : Kd α) {w0 W : World} (base : Nat) (hgd : o.guard = none) (s x : Operand) (t e : TypeId) (z : Value) (bytes : Nat)
  (ho : o.op = .call { callee := .builtin .append, args := #[s, x], argTypes := #[t, t] })
  (ht : P.underlying t = some (.slice e)) (hinfo : (P.info? e).map (fun i => (i.zero, i.size, i.bytes)) = some (some z, d.sz, bytes)) (hz : z.cells.size = d.sz) (hs0 : 0 < d.sz) (hb0 : 0 < bytes)
  (v : Value) (xs ys : List α) (A : Option Addr) (m c : Nat) (ok okp : Nat → Prop) (hs : a.eval s = v) (hx : a.eval x = .slice A m c)
  (HO : N d e W base ok v xs) (HR : F d W okp A m ys) (hokp : ∀ k, okp k → ok k ∧ some k ≠ v.ownBlock) (hfresh : ∀ k, W.heap.size ≤ k → ok k)
  (HB : Below base w0 W) (hbase : base ≤ W.heap.size) (hl : (xs.length + m) * bytes ≤ 140737488355328)
  (h : ∀ v1 w1, N d e w1 base ok v1 (xs ++ ys) → Below base w0 w1 → W.grownBy w1 v.ownBlock → (v1.ownBlock = v.ownBlock ∨ ∃ b, v1.ownBlock = some b ∧ W.heap.size ≤ b) → wpList P ops Q rest (a.put o.dst v1) w1) :
  wpList P ops Q (o :: rest) a W := by
 obtain ⟨h0, rows, hlr, hR, hf⟩ := HO
 obtain ⟨news, hnl, hnr, hnf⟩ := reads_raw (F_rows HR) (fun y c hk => ⟨d.K_len (FK_now hk), d.K_one (FK_now hk)⟩)
 refine R_append_rows (raw d.sz) base hgd s x t e z bytes ho ht hinfo hz hs0 hb0 v rows news A m c (fun _ => True) (fun _ => False) hs hx (raw_any hR) hnr (fun _ _ hk => hk) (fun _ hk => hk.elim) (fun _ _ => trivial) HB hbase (by rw [hlr]; exact hl) ?_
 intro v1 w1 hr hb hg hat
 exact h v1 w1 (N_appended h0 hlr hf hnl hnf hokp hfresh hr hg hat) hb hg hat
theorem N_append_rows_step (d : Kd α) {w0 W : World} (base : Nat) (hw : Region.wanted o (yielded ops a.tmps) = true) (s x : Operand) (t e : TypeId) (z : Value) (bytes : Nat)
  (ho : o.op = .call { callee := .builtin .append, args := #[s, x], argTypes := #[t, t] })
  (ht : P.underlying t = some (.slice e)) (hinfo : (P.info? e).map (fun i => (i.zero, i.size, i.bytes)) = some (some z, d.sz, bytes)) (hz : z.cells.size = d.sz) (hs0 : 0 < d.sz) (hb0 : 0 < bytes)
  (v : Value) (xs ys : List α) (A : Option Addr) (m c : Nat) (ok okp : Nat → Prop) (hs : a.eval s = v) (hx : a.eval x = .slice A m c)
  (HO : N d e W base ok v xs) (HR : F d W okp A m ys) (hokp : ∀ k, okp k → ok k ∧ some k ≠ v.ownBlock) (hfresh : ∀ k, W.heap.size ≤ k → ok k)
  (HB : Below base w0 W) (hbase : base ≤ W.heap.size) (hl : (xs.length + m) * bytes ≤ 140737488355328)
  (h : ∀ v1 w1, N d e w1 base ok v1 (xs ++ ys) → Below base w0 w1 → W.grownBy w1 v.ownBlock → (v1.ownBlock = v.ownBlock ∨ ∃ b, v1.ownBlock = some b ∧ W.heap.size ≤ b) → Kc (a.put o.dst v1) w1) :
  if Region.wanted o (yielded ops a.tmps) = true then Oper.wp P o a W Kc Q else Kc (a.put o.dst undef) W := by
 obtain ⟨h0, rows, hlr, hR, hf⟩ := HO
 obtain ⟨news, hnl, hnr, hnf⟩ := reads_raw (F_rows HR) (fun y c hk => ⟨d.K_len (FK_now hk), d.K_one (FK_now hk)⟩)
 refine qCr (raw d.sz) base hw s x t e z bytes ho ht hinfo hz hs0 hb0 v rows news A m c (fun _ => True) (fun _ => False) hs hx (raw_any hR) hnr (fun _ _ hk => hk) (fun _ hk => hk.elim) (fun _ _ => trivial) HB hbase (by rw [hlr]; exact hl) ?_
 intro v1 w1 hr hb hg hat
 exact h v1 w1 (N_appended h0 hlr hf hnl hnf hokp hfresh hr hg hat) hb hg hat
theorem N_make (d : Kd α) {w0 W : World} (base e : Nat) (hgd : o.guard = none) {N' : Tmp} (hd : o.dst = some N') (t : TypeId) (x y : Operand) (ho : o.op = .makeSlice t x y) (n : Int) (hx : a.eval x = .int .i64 n) (hy : a.eval y = .int .i64 n)
  (ht : P.underlying t = some (.slice e)) (z : Value) (bytes : Nat) (hinfo : (P.info? e).map (fun i => (i.zero, i.size, i.bytes)) = some (some z, d.sz, bytes)) (hz : z.cells.size = d.sz) (hs0 : 0 < d.sz) (hb0 : 0 < bytes)
  (z0 : α) {ok okp : Nat → Prop} (hzero : FK d W okp z0 z.cells.toList) (hok : ∀ k, okp k → ok k) (hfresh : ok W.heap.size) (h0 : 0 ≤ n) (hl : n.toNat * bytes ≤ 281474976710656) (HB : Below base w0 W) (hbase : base ≤ W.heap.size)
  (h : ∀ v1 w1, N d e w1 base ok v1 (List.replicate n.toNat z0) → Below base w0 w1 → W.grownBy w1 none → (∃ b, v1.ownBlock = some b ∧ W.heap.size ≤ b) → wpList P ops Q rest (a.put o.dst v1) w1) :
  wpList P ops Q (o :: rest) a W := by
 refine R_make (raw d.sz) base e hgd hd t x y ho n hx hy ht z bytes hinfo hz hs0 hb0 z.cells.toList (ok := fun k => k = W.heap.size) (okp := fun _ => False) (FK_raw hzero) (fun _ hk => hk.elim) rfl h0 hl HB hbase ?_
 intro v1 w1 hr hb hg hat
 refine h v1 w1 (N_made hr hg hat (by rw [List.length_replicate, List.length_replicate]) (fun j y c hy hc => ?_) hok hfresh) hb hg hat
 have h1 := (List.getElem?_eq_some_iff.1 hy).2
 have h2 := (List.getElem?_eq_some_iff.1 hc).2
 rw [List.getElem_replicate] at h1 h2
 rw [← h1, ← h2]
 exact hzero
end
end Kd
end YA
end
section
namespace YB
open Go.RowKit YA
namespace Kd
open YA.Kd
end Kd
namespace Kd
open YA.Kd
end Kd
theorem max2_int (k k' : IntKind) (x y : Int) : Builtin.max2 (.int k x) (.int k' y) = pure (.int k (if x < y then y else x)) := by simp only [Builtin.max2, gt_iff_lt]
theorem min2_int (k k' : IntKind) (x y : Int) : Builtin.min2 (.int k x) (.int k' y) = pure (.int k (if y < x then y else x)) := by simp only [Builtin.min2]
theorem max_two (ats : Array TypeId) (ty : TypeId) (a b : Value) : Builtin.max_ ats ty #[a, b] = (Builtin.max2 a b >>= fun s => pure s) := by simp only [Builtin.max_, List.foldlM_cons, List.foldlM_nil]
theorem min_two (ats : Array TypeId) (ty : TypeId) (a b : Value) : Builtin.min_ ats ty #[a, b] = (Builtin.min2 a b >>= fun s => pure s) := by simp only [Builtin.min_, List.foldlM_cons, List.foldlM_nil]
theorem max_three (ats : Array TypeId) (ty : TypeId) (a b c : Value) : Builtin.max_ ats ty #[a, b, c] = (Builtin.max2 a b >>= fun s => Builtin.max2 s c >>= fun s => pure s) := by simp only [Builtin.max_, List.foldlM_cons, List.foldlM_nil]
theorem min_three (ats : Array TypeId) (ty : TypeId) (a b c : Value) : Builtin.min_ ats ty #[a, b, c] = (Builtin.min2 a b >>= fun s => Builtin.min2 s c >>= fun s => pure s) := by simp only [Builtin.min_, List.foldlM_cons, List.foldlM_nil]
theorem max_four (ats : Array TypeId) (ty : TypeId) (a b c d : Value) : Builtin.max_ ats ty #[a, b, c, d] = (Builtin.max2 a b >>= fun s => Builtin.max2 s c >>= fun s => Builtin.max2 s d >>= fun s => pure s) := by simp only [Builtin.max_, List.foldlM_cons, List.foldlM_nil]
theorem min_four (ats : Array TypeId) (ty : TypeId) (a b c d : Value) : Builtin.min_ ats ty #[a, b, c, d] = (Builtin.min2 a b >>= fun s => Builtin.min2 s c >>= fun s => Builtin.min2 s d >>= fun s => pure s) := by simp only [Builtin.min_, List.foldlM_cons, List.foldlM_nil]
end YB
namespace YA
open Go.RowKit
section
variable {P : Program} {ops : Array Oper} {rest : List Oper} {o : Oper} {a : Act} {Q : Exit → Act → World → Prop} {W : World}
theorem qA7 {f : FuncId} {as1 : Array Operand} {ts : Array TypeId} (_ho : o.op = .call { callee := .value (.func f), args := as1, argTypes := ts }) (h : wpList P ops Q (o :: rest) a W) : wpList P ops Q (o :: rest) a W := h
theorem qAW {b : Builtin} {xs : Array Operand} {ts : Array TypeId} (_ho : o.op = .call { callee := .builtin b, args := xs, argTypes := ts }) (h : wpList P ops Q (o :: rest) a W) : wpList P ops Q (o :: rest) a W := h
end
theorem qBG {W w1 : World} {row : Option Nat} (hg : W.grownBy w1 row) {a : Addr} {v : Value} (h : W.cell? a = some v) (hne : some a.block ≠ row) : w1.cell? a = some v := by
 have := hg.block a.block (World.block_lt_of_cell? W a h) hne
 simpa [World.cell?, this] using h
namespace Kd
end Kd
end YA
namespace YA
open Go.RowKit
namespace Kd
def V {α : Type} (d : Kd α) (_e : Nat) (W : World) (_base : Nat) (ok : Nat → Prop) (v : Value) (xs : List α) : Prop := ∃ A c, v = .slice A xs.length c ∧ xs.length ≤ c ∧ F d W ok A xs.length xs
end Kd
end YA
end
section
namespace Q
open Go.RowKit YA YC YB
attribute [local go_sem] max2_int min2_int max_two min_two max_three min_three max_four min_four
def mK (n m : Nat) : Array Bool := ((List.range n).map fun i => m.testBit i).toArray
theorem am {p : Prop} (h : p) : qAi p := ⟨h⟩
theorem a2 {p q : Prop} (h : p) (k : q) : qAi p ∧ q := ⟨⟨h⟩, k⟩
theorem cb {w wr : World} {a : Addr} {v : Value} (h : qAi (Below w.heap.size w wr)) (k : w.cell? a = some v) : wr.cell? a = some v := (h.out.cell (World.block_lt_of_cell? w _ k)).trans k
theorem bf {α : Type} [BEq α] [LawfulBEq α] {a b : α} (h : a ≠ b) : (a == b) = false := beq_eq_false_iff_ne.mpr h
theorem bn {α : Type} [BEq α] [LawfulBEq α] {a b : α} (h : a = b) : (a != b) = false := bne_eq_false_iff_eq.mpr h
theorem od {p : Prop} [Decidable p] (h : decide p = true) : p := of_decide_eq_true h
theorem d1 {p : Prop} [Decidable p] (h : p) : decide p = true := decide_eq_true h
theorem d0 {p : Prop} [Decidable p] (h : ¬p) : decide p = false := decide_eq_false h
theorem bm {α β : Type} {o : Option α} {f : α → Option β} {r : β} (h : o.bind f = some r) : ∃ a, o = some a ∧ f a = some r := Option.bind_eq_some_iff.mp h
theorem gd {α : Type} {c : Prop} [Decidable c] {a : Option α} {r : α} (h : (if c then a else none) = some r) : c ∧ a = some r := by
 split at h
 ·exact ⟨‹_›, h⟩
 cases h
theorem c2_ (W : World) {g t : Nat} {a0 a1 : Value} {r : List Value} (h : W.heap[g]? = some (.cells (a0 :: a1 :: r).toArray t (0, 0))) : W.cell? ⟨g, 0, none⟩ = some a0 ∧ W.cell? ⟨g, 1, none⟩ = some a1 := ⟨(qAc h 0).trans rfl, (qAc h 1).trans rfl⟩
theorem z2_ {W : World} {g t : Nat} {cs : Array Value} (h : W.heap[g]? = some (.cells cs t (0, 0))) : W.frozen? ⟨g, 0, none⟩ = false ∧ W.frozen? ⟨g, 1, none⟩ = false := ⟨qAm h 0, qAm h 1⟩
theorem c4_ (W : World) {g t : Nat} {a0 a1 a2 a3 : Value} {r : List Value} (h : W.heap[g]? = some (.cells (a0 :: a1 :: a2 :: a3 :: r).toArray t (0, 0))) : W.cell? ⟨g, 0, none⟩ = some a0 ∧ W.cell? ⟨g, 1, none⟩ = some a1 ∧ W.cell? ⟨g, 2, none⟩ = some a2 ∧ W.cell? ⟨g, 3, none⟩ = some a3 := ⟨(qAc h 0).trans rfl, (qAc h 1).trans rfl, (qAc h 2).trans rfl, (qAc h 3).trans rfl⟩
theorem z4_ {W : World} {g t : Nat} {cs : Array Value} (h : W.heap[g]? = some (.cells cs t (0, 0))) : W.frozen? ⟨g, 0, none⟩ = false ∧ W.frozen? ⟨g, 1, none⟩ = false ∧ W.frozen? ⟨g, 2, none⟩ = false ∧ W.frozen? ⟨g, 3, none⟩ = false := ⟨qAm h 0, qAm h 1, qAm h 2, qAm h 3⟩
def errW : Option Int → Value
 | none => .nilIface
 | some c => .iface 0 (.int .i64 c)
theorem errW_none : errW none = .nilIface := rfl
theorem errW_some (c : Int) : errW (some c) = .iface 0 (.int .i64 c) := rfl
theorem qDg : (Tryz.prog.info? 5).map (fun i => (i.zero, i.size, i.bytes)) = some (some (.int .u8 0), 1, 1) := by kernel_rfl
theorem info51 : (Tryz.prog.info? 51).map (fun i => (i.zero, i.size, i.bytes)) = some (some (.agg #[(.int .i64 0), (.int .i64 0), (.int .i64 0), (.int .u64 0)]), 4, 32) := by kernel_rfl
structure S48 where
 f0 : Int
 f1 : Int
def z48 : S48 := ⟨(0 : Int), (0 : Int)⟩
def k48 : Kd S48 := Kd.iso (Kd.pair (Kd.int .i64) (Kd.int .u64)) (fun x : S48 => (x.f0, x.f1))
theorem k48_open {w : World} {x : S48} {cs : List Value} (h : k48.K w x cs) : cs = [.int .i64 x.f0, .int .u64 x.f1] := by
 obtain ⟨_, _, rfl, rfl, rfl⟩ := h
 exact rfl
theorem k48_mkM (w : World) (base : Nat) (ok : Nat → Prop) (x : S48)  : k48.M w base ok x [.int .i64 x.f0, .int .u64 x.f1] := ⟨[.int .i64 x.f0], [.int .u64 x.f1], rfl, rfl, rfl⟩
structure S51 where
 f0 : Int
 f1 : Int
 f2 : S48
def z51 : S51 := ⟨(0 : Int), (0 : Int), z48⟩
def k51 : Kd S51 := Kd.iso (Kd.pair (Kd.int .i64) (Kd.pair (Kd.int .i64) k48)) (fun x : S51 => (x.f0, x.f1, x.f2))
theorem k51_open {w : World} {x : S51} {cs : List Value} (h : k51.K w x cs) : cs = [.int .i64 x.f0, .int .i64 x.f1, .int .i64 x.f2.f0, .int .u64 x.f2.f1] := by
 obtain ⟨_, _, rfl, rfl, ⟨_, _, rfl, rfl, s2⟩⟩ := h
 obtain rfl := k48_open s2
 exact rfl
theorem qCm (w : World) (base : Nat) (ok : Nat → Prop) (x : S51)  : k51.M w base ok x [.int .i64 x.f0, .int .i64 x.f1, .int .i64 x.f2.f0, .int .u64 x.f2.f1] := ⟨[.int .i64 x.f0], [.int .i64 x.f1, .int .i64 x.f2.f0, .int .u64 x.f2.f1], rfl, rfl, ⟨[.int .i64 x.f1], [.int .i64 x.f2.f0, .int .u64 x.f2.f1], rfl, rfl, (k48_mkM w base ok x.f2 )⟩⟩
def qAl (xs : List S51) (i : Int) : S51 := xs.getD i.toNat z51
theorem qBn {w : World} {A : Option Addr} {n : Nat} {xs : List S51} (h : Kd.C k51 w A n xs) (i : Int) (h0 : 0 ≤ i) (h1 : i < n) : ∃ ad , A = some ad ∧ w.cell? (ad.add (i.toNat * 4)) = some (.int .i64 (qAl xs i).f0) ∧ w.cell? ⟨(ad.add (i.toNat * 4)).block, (ad.add (i.toNat * 4)).off + 1, none⟩ = some (.int .i64 (qAl xs i).f1) ∧ w.cell? ⟨(ad.add (i.toNat * 4)).block, (ad.add (i.toNat * 4)).off + 2, none⟩ = some (.int .i64 (qAl xs i).f2.f0) ∧ w.cell? ⟨(ad.add (i.toNat * 4)).block, (ad.add (i.toNat * 4)).off + 3, none⟩ = some (.int .u64 (qAl xs i).f2.f1) := by
 obtain ⟨ad, c, e, _, hK, hc0⟩ := Kd.C_get h z51 i h0 h1
 have hc : ∀ j u, c[j]? = some u → w.cell? (ad.add (i.toNat * 4 + j)) = some u := hc0
 obtain rfl := k51_open hK
 exact ⟨ad, e, hc 0 _ rfl, by rw [← qBi _ _ 1 (by omega)]; exact hc 1 _ rfl, by rw [← qBi _ _ 2 (by omega)]; exact hc 2 _ rfl, by rw [← qBi _ _ 3 (by omega)]; exact hc 3 _ rfl⟩
structure S34 where
 f0 : (List Int)
 f1 : Int
def z34 : S34 := ⟨([] : List Int), (0 : Int)⟩
def k34 : Kd S34 := Kd.iso (Kd.pair (Kd.slice 3 (Kd.int .i64)) (Kd.int .i64)) (fun x : S34 => (x.f0, x.f1))
theorem k34_open {w : World} {x : S34} {cs : List Value} (h : k34.K w x cs) : ∃ A0 c0, cs = [.slice A0 x.f0.length c0, .int .i64 x.f1] ∧ x.f0.length ≤ c0 ∧ (Kd.int .i64).C w A0 x.f0.length x.f0 := by
 obtain ⟨_, _, rfl, ⟨A0, c0, rfl, l0, g0⟩, rfl⟩ := h
 exact ⟨A0, c0, rfl, l0, g0⟩
def qBc (xs : List S34) (i : Int) : S34 := xs.getD i.toNat z34
structure S160 where
 f0 : Int
 f1 : (List Int)
def z160 : S160 := ⟨(0 : Int), ([] : List Int)⟩
def k160 : Kd S160 := Kd.iso (Kd.pair (Kd.int .i64) (Kd.slice 3 (Kd.int .i64))) (fun x : S160 => (x.f0, x.f1))
theorem k160_open {w : World} {x : S160} {cs : List Value} (h : k160.K w x cs) : ∃ A1 c1, cs = [.int .i64 x.f0, .slice A1 x.f1.length c1] ∧ x.f1.length ≤ c1 ∧ (Kd.int .i64).C w A1 x.f1.length x.f1 := by
 obtain ⟨_, _, rfl, rfl, ⟨A1, c1, rfl, l1, g1⟩⟩ := h
 exact ⟨A1, c1, rfl, l1, g1⟩
theorem k160_mk (w : World) (x : S160) {A1 : Option Addr} {c1 : Nat} (l1 : x.f1.length ≤ c1) (g1 : (Kd.int .i64).C w A1 x.f1.length x.f1) : k160.K w x [.int .i64 x.f0, .slice A1 x.f1.length c1] := ⟨[.int .i64 x.f0], [.slice A1 x.f1.length c1], rfl, rfl, ⟨A1, c1, rfl, l1, g1⟩⟩
def qCn (xs : List S160) (i : Int) : S160 := xs.getD i.toNat z160
theorem at_T160 {w : World} {A : Option Addr} {n : Nat} {xs : List S160} (h : Kd.C k160 w A n xs) (i : Int) (h0 : 0 ≤ i) (h1 : i < n) : ∃ ad A1 c1, A = some ad ∧ w.cell? (ad.add (i.toNat * 2)) = some (.int .i64 (qCn xs i).f0) ∧ w.cell? ⟨(ad.add (i.toNat * 2)).block, (ad.add (i.toNat * 2)).off + 1, none⟩ = some (.slice A1 (qCn xs i).f1.length c1) ∧ (qCn xs i).f1.length ≤ c1 ∧ (Kd.int .i64).C w A1 (qCn xs i).f1.length (qCn xs i).f1 := by
 obtain ⟨ad, c, e, _, hK, hc0⟩ := Kd.C_get h z160 i h0 h1
 have hc : ∀ j u, c[j]? = some u → w.cell? (ad.add (i.toNat * 2 + j)) = some u := hc0
 obtain ⟨A1, c1, rfl, l1, g1⟩ := k160_open hK
 exact ⟨ad, A1, c1, e, hc 0 _ rfl, by rw [← qBi _ _ 1 (by omega)]; exact hc 1 _ rfl, l1, g1⟩
structure S113 where
 f0 : Bool
 f1 : (List Int)
 f2 : (List S160)
def z113 : S113 := ⟨false, ([] : List Int), ([] : List S160)⟩
def k113 : Kd S113 := Kd.iso (Kd.pair Kd.bool (Kd.pair (Kd.slice 3 (Kd.int .i64)) (Kd.slice 160 k160))) (fun x : S113 => (x.f0, x.f1, x.f2))
theorem qBI {w : World} {x : S113} {cs : List Value} (h : k113.K w x cs) : ∃ A1 c1 A2 c2, cs = [.bool x.f0, .slice A1 x.f1.length c1, .slice A2 x.f2.length c2] ∧ x.f1.length ≤ c1 ∧ (Kd.int .i64).C w A1 x.f1.length x.f1 ∧ x.f2.length ≤ c2 ∧ k160.C w A2 x.f2.length x.f2 := by
 obtain ⟨_, _, rfl, rfl, ⟨_, _, rfl, ⟨A1, c1, rfl, l1, g1⟩, ⟨A2, c2, rfl, l2, g2⟩⟩⟩ := h
 exact ⟨A1, c1, A2, c2, rfl, l1, g1, l2, g2⟩
theorem k113_mk (w : World) (x : S113) {A1 : Option Addr} {c1 : Nat} (l1 : x.f1.length ≤ c1) (g1 : (Kd.int .i64).C w A1 x.f1.length x.f1) {A2 : Option Addr} {c2 : Nat} (l2 : x.f2.length ≤ c2) (g2 : k160.C w A2 x.f2.length x.f2) : k113.K w x [.bool x.f0, .slice A1 x.f1.length c1, .slice A2 x.f2.length c2] := ⟨[.bool x.f0], [.slice A1 x.f1.length c1, .slice A2 x.f2.length c2], rfl, rfl, ⟨[.slice A1 x.f1.length c1], [.slice A2 x.f2.length c2], rfl, ⟨A1, c1, rfl, l1, g1⟩, ⟨A2, c2, rfl, l2, g2⟩⟩⟩
def qAB (xs : List S113) (i : Int) : S113 := xs.getD i.toNat z113
structure S157 where
 f0 : Int
 f1 : S113
def z157 : S157 := ⟨(0 : Int), z113⟩
def k157 : Kd S157 := Kd.iso (Kd.pair (Kd.int .i64) k113) (fun x : S157 => (x.f0, x.f1))
theorem qDj {w : World} {x : S157} {cs : List Value} (h : k157.K w x cs) : ∃ A2 c2 A3 c3, cs = [.int .i64 x.f0, .bool x.f1.f0, .slice A2 x.f1.f1.length c2, .slice A3 x.f1.f2.length c3] ∧ x.f1.f1.length ≤ c2 ∧ (Kd.int .i64).C w A2 x.f1.f1.length x.f1.f1 ∧ x.f1.f2.length ≤ c3 ∧ k160.C w A3 x.f1.f2.length x.f1.f2 := by
 obtain ⟨_, _, rfl, rfl, s1⟩ := h
 obtain ⟨A2, c2, A3, c3, rfl, l2, g2, l3, g3⟩ := qBI s1
 exact ⟨A2, c2, A3, c3, rfl, l2, g2, l3, g3⟩
theorem k157_mk (w : World) (x : S157) {A2 : Option Addr} {c2 : Nat} (l2 : x.f1.f1.length ≤ c2) (g2 : (Kd.int .i64).C w A2 x.f1.f1.length x.f1.f1) {A3 : Option Addr} {c3 : Nat} (l3 : x.f1.f2.length ≤ c3) (g3 : k160.C w A3 x.f1.f2.length x.f1.f2) : k157.K w x [.int .i64 x.f0, .bool x.f1.f0, .slice A2 x.f1.f1.length c2, .slice A3 x.f1.f2.length c3] := ⟨[.int .i64 x.f0], [.bool x.f1.f0, .slice A2 x.f1.f1.length c2, .slice A3 x.f1.f2.length c3], rfl, rfl, (k113_mk w x.f1 l2 g2 l3 g3)⟩
def qBr (xs : List S157) (i : Int) : S157 := xs.getD i.toNat z157
structure S37 where
 f0 : S34
 f1 : (List Int)
 f2 : (List S51)
def z37 : S37 := ⟨z34, ([] : List Int), ([] : List S51)⟩
structure S50 where
 f0 : Int
 f1 : Int
 f2 : S48
def z50 : S50 := ⟨(0 : Int), (0 : Int), z48⟩
def k50 : Kd S50 := Kd.iso (Kd.pair (Kd.int .i64) (Kd.pair (Kd.int .i64) k48)) (fun x : S50 => (x.f0, x.f1, x.f2))
theorem k50_open {w : World} {x : S50} {cs : List Value} (h : k50.K w x cs) : cs = [.int .i64 x.f0, .int .i64 x.f1, .int .i64 x.f2.f0, .int .u64 x.f2.f1] := by
 obtain ⟨_, _, rfl, rfl, ⟨_, _, rfl, rfl, s2⟩⟩ := h
 obtain rfl := k48_open s2
 exact rfl
def qAu (xs : List S50) (i : Int) : S50 := xs.getD i.toNat z50
theorem qBE {w : World} {A : Option Addr} {n : Nat} {xs : List S50} (h : Kd.C k50 w A n xs) (i : Int) (h0 : 0 ≤ i) (h1 : i < n) : ∃ ad , A = some ad ∧ w.cell? (ad.add (i.toNat * 4)) = some (.int .i64 (qAu xs i).f0) ∧ w.cell? ⟨(ad.add (i.toNat * 4)).block, (ad.add (i.toNat * 4)).off + 1, none⟩ = some (.int .i64 (qAu xs i).f1) ∧ w.cell? ⟨(ad.add (i.toNat * 4)).block, (ad.add (i.toNat * 4)).off + 2, none⟩ = some (.int .i64 (qAu xs i).f2.f0) ∧ w.cell? ⟨(ad.add (i.toNat * 4)).block, (ad.add (i.toNat * 4)).off + 3, none⟩ = some (.int .u64 (qAu xs i).f2.f1) := by
 obtain ⟨ad, c, e, _, hK, hc0⟩ := Kd.C_get h z50 i h0 h1
 have hc : ∀ j u, c[j]? = some u → w.cell? (ad.add (i.toNat * 4 + j)) = some u := hc0
 obtain rfl := k50_open hK
 exact ⟨ad, e, hc 0 _ rfl, by rw [← qBi _ _ 1 (by omega)]; exact hc 1 _ rfl, by rw [← qBi _ _ 2 (by omega)]; exact hc 2 _ rfl, by rw [← qBi _ _ 3 (by omega)]; exact hc 3 _ rfl⟩
end Q
end
section
namespace Base
open Go.RowKit
theorem hid {p : Prop} (h : p) : Hid p := h
theorem qBd {α : Type} (l : List α) (k : Nat) (d : α) (h : k < l.length) : l.take (k + 1) = l.take k ++ [l.getD k d] := by
 rw [List.take_succ_eq_append_getElem h, List.getD_eq_getElem?_getD, List.getElem?_eq_getElem h]; rfl
theorem qBA (P : Program) (a : Addr) (w : World) : (loadCells a 0).run P w = .ok #[] w := by
 simp [loadCells, loadCellsFrom]
theorem qDq {P : Program} {w : World} (base : Nat) (t ty e : TypeId) (i : TypeInfo) (size : Nat) (ht : P.underlying t = some (.slice e)) (hi : P.info? e = some i)
  (v : Value) (n : Nat) (xs : List Value) (hown : w.ownsRow base e size v n xs) (A : Option Addr) (c : Nat) :
  (Builtin.append_ #[t, t] ty #[v, .slice A 0 c]).run P w = .ok v w := by
 rcases hown.2 with ⟨rfl, rfl⟩ | ⟨g, cap, cur, rfl, _, _, hnc, _⟩
 ·cases A <;> simp [Builtin.append_, run_underlying ht, sizeOf, typeInfo, hi, Builtin.lenOf, Builtin.firstCells, qBA]
 ·cases A <;> simp [Builtin.append_, run_underlying ht, sizeOf, typeInfo, hi, Builtin.lenOf, Builtin.firstCells, hnc, storeCells, qBA]
end Base
end
section
namespace Q
open Go.RowKit YA YC YB
attribute [local go_sem] max2_int min2_int max_two min_two max_three min_three max_four min_four
def qA1.l0 : Nat → List Int → List Int → Int → Int → Option (Bool)
 | 0, _, _, _, _ => none
 | k + 1, x0, x1, aV, aJ => if aJ < aV then (if 0 ≤ aJ then (if aJ < (x0.length : Int) then (if aJ < (x1.length : Int) then (if (rd x0 aJ) = (rd x1 aJ) then (qA1.l0 k x0 x1 aV (wrap64 (aJ + 1))) else (some false)) else (none)) else (none)) else (none)) else (some true)
def qA1.f (k : Nat) (l0 : List Int) (l1 : List Int) : Option (Bool) := if (l0.length : Int) = (l1.length : Int) then (qA1.l0 k l0 l1 (l0.length : Int) 0) else (some false)
theorem qA1.calls (k : Nat) (A0 : Option Addr) (c0 : Nat) (l0 : List Int) (A1 : Option Addr) (c1 : Nat) (l1 : List Int) (r : Bool) (w : World) (hr0 : Kd.C (Kd.int .i64) w A0 l0.length l0) (hc0 : l0.length ≤ c0) (hr1 : Kd.C (Kd.int .i64) w A1 l1.length l1) (hc1 : l1.length ≤ c1) (h : qA1.f k l0 l1 = some r) :
  Calls Tryz.prog 82 #[.slice A0 l0.length c0, .slice A1 l1.length c1] w fun e w' => e = .returned (.bool r) ∧ qAy w w' := by
 have aT := am hr0
 have a3 := am hc0
 clear hr0 hc0
 have aU := am hr1
 have a4 := am hc1
 clear hr1 hc1
 have H : (if (l0.length : Int) = (l1.length : Int) then (qA1.l0 k l0 l1 (l0.length : Int) 0) else (some false)) = some r := h
 clear h
 by_cases c3 : (l0.length : Int) = (l1.length : Int)
 ·rw [if_pos c3] at H
  have aM : ((l0.length : Int) == (l1.length : Int)) = true := beq_iff_eq.mpr c3
  have aN : ((l0.length : Int) != (l1.length : Int)) = false := bn c3
  have aO : (l0.length == l1.length) = true := by first | simpa using c3 | (simp at c3 ⊢; omega)
  clear c3
  have H' := am H
  clear H
  go_enter Tryz.func82, Tryz.ntmps82
  go_wp2
  repeat (go_quiet (fail); try go_wp2)
  go_loopg [13] k (fun kq aZ w' => ∃ (aA : Int), aZ = .int .i64 aA ∧ qAi (qA1.l0 kq l0 l1 (l0.length : Int) aA = some r) ∧ qAi (kq ≤ k) ∧ qAy w w')
  case atStart => exact ⟨(0), (by first | rfl | (simp; done) | (simp [*]; done)), H', ⟨Nat.le_refl _⟩, by repeat (first | exact qAy.refl _ | apply qAy.step)⟩
  case round =>
   clear H'
   obtain ⟨aA, rfl, HA, aS, ⟨m1, rfl⟩⟩ := hrel
   cases gk with
   | zero => exact absurd HA.o (by simp [qA1.l0])
   | succ k1 =>
    have H := HA.o
    clear HA
    simp only [qA1.l0] at H
    by_cases c4 : aA < (l0.length : Int)
    rotate_left
    ·rw [if_neg c4] at H
     replace c4 := d0 c4
     obtain rfl := Option.some.inj H
     go_wp2
     repeat (go_quiet (fail); try go_wp2)
     go_ret
     exact ⟨by first | rfl | (simp; done) | (simp [*]; done), by repeat (first | exact qAy.refl _ | apply qAy.step)⟩
    rw [if_pos c4] at H
    replace c4 := d1 c4
    obtain ⟨c5, H⟩ := gd H
    replace c5 := d1 c5
    obtain ⟨c6, H⟩ := gd H
    replace c6 := d1 c6
    obtain ⟨c7, H⟩ := gd H
    replace c7 := d1 c7
    by_cases c8 : (rd l0 aA) = (rd l1 aA)
    rotate_left
    ·rw [if_neg c8] at H
     have aQ : ((rd l0 aA) == (rd l1 aA)) = false := bf c8
     have aR : ((rd l0 aA) != (rd l1 aA)) = true := bne_iff_ne.mpr c8
     obtain rfl := Option.some.inj H
     have aB : 0 ≤ (aA : Int) := of_decide_eq_true (by first | (with_reducible assumption) | assumption)
     have aD : aA < (l0.length : Int) := of_decide_eq_true (by first | (with_reducible assumption) | assumption)
     obtain ⟨aK, aH, aF⟩ := Kd.at_int aT.o aA aB aD
     cases aH
     replace aB := eq_true aB
     replace aD := eq_true aD
     have aC : 0 ≤ (aA : Int) := of_decide_eq_true (by first | (with_reducible assumption) | assumption)
     have aE : aA < (l1.length : Int) := of_decide_eq_true (by first | (with_reducible assumption) | assumption)
     obtain ⟨aL, aI, aG⟩ := Kd.at_int aU.o aA aC aE
     cases aI
     replace aC := eq_true aC
     replace aE := eq_true aE
     go_wp2
     repeat (go_quiet (fail); try go_wp2)
     go_ret
     exact ⟨by first | rfl | (simp; done) | (simp [*]; done), by repeat (first | exact qAy.refl _ | apply qAy.step)⟩
    rw [if_pos c8] at H
    have aQ : ((rd l0 aA) == (rd l1 aA)) = true := beq_iff_eq.mpr c8
    have aR : ((rd l0 aA) != (rd l1 aA)) = false := bn c8
    clear c8
    have H' := am H
    clear H
    have aB : 0 ≤ (aA : Int) := of_decide_eq_true (by first | (with_reducible assumption) | assumption)
    have aD : aA < (l0.length : Int) := of_decide_eq_true (by first | (with_reducible assumption) | assumption)
    obtain ⟨aK, aH, aF⟩ := Kd.at_int aT.o aA aB aD
    cases aH
    replace aB := eq_true aB
    replace aD := eq_true aD
    have aC : 0 ≤ (aA : Int) := of_decide_eq_true (by first | (with_reducible assumption) | assumption)
    have aE : aA < (l1.length : Int) := of_decide_eq_true (by first | (with_reducible assumption) | assumption)
    obtain ⟨aL, aI, aG⟩ := Kd.at_int aU.o aA aC aE
    cases aI
    replace aC := eq_true aC
    replace aE := eq_true aE
    go_wp2
    repeat (go_quiet (fail); try go_wp2)
    go_roundg k1
    case measure => have := aS.o; omega
    case rel => exact ⟨(wrap64 (aA + 1)), (by first | rfl | (simp; done) | (simp [*]; done)), H', ⟨by have := aS.o; omega⟩, by repeat (first | exact qAy.refl _ | apply qAy.step)⟩
 ·rw [if_neg c3] at H
  have aM : ((l0.length : Int) == (l1.length : Int)) = false := bf c3
  have aN : ((l0.length : Int) != (l1.length : Int)) = true := bne_iff_ne.mpr c3
  have aO : (l0.length == l1.length) = false := by first | simpa using c3 | (simp at c3 ⊢; omega)
  obtain rfl := Option.some.inj H
  go_enter Tryz.func82, Tryz.ntmps82
  go_wp2
  repeat (go_quiet (fail); try go_wp2)
  go_ret
  exact ⟨by first | rfl | (simp; done) | (simp [*]; done), by repeat (first | exact qAy.refl _ | apply qAy.step)⟩
end Q
end
section
namespace Q
open Go.RowKit YA YC YB
theorem qCK {α : Type} (l : List α) (d : α) (i : Int) (h0 : 0 ≤ i) (h : i < l.length) : l.drop i.toNat = l.getD i.toNat d :: l.drop (i + 1).toNat := by
 rw [show (i + 1).toNat = i.toNat + 1 from by omega, List.drop_eq_getElem_cons (by omega), List.getD_eq_getElem?_getD, List.getElem?_eq_getElem (by omega)]; rfl
theorem qBW {α : Type} (l : List α) (d : α) (k : Nat) (h : k < l.length) : l[k]? = some (l.getD k d) := by rw [List.getD_eq_getElem?_getD, List.getElem?_eq_getElem h]; rfl
noncomputable def eqB {α : Type} (a b : α) : Bool := @decide (a = b) (Classical.propDecidable _)
theorem eqB_true {α : Type} {a b : α} : eqB a b = true ↔ a = b := by
 unfold eqB
 exact @decide_eq_true_iff (a = b) (Classical.propDecidable _)
theorem eqB_of {α : Type} {a b : α} {r : Bool} (h : r = true ↔ a = b) : eqB a b = r := by
 cases r with
 | true => exact eqB_true.2 (h.1 rfl)
 | false =>
  cases e : eqB a b with
  | false => rfl
  | true => exact (h.2 (eqB_true.1 e)).symm
theorem eq_list {α : Type} (d : α) (ne : α → α → Bool) (hne : ∀ x y, ne x y = true ↔ x ≠ y) (G : Nat → Option Bool) (F : Nat → Int → Option Bool) (a b : List α) (hl : a.length ≤ 4611686018427387904)
  (hG : ∀ k, G k = if (a.length : Int) = (b.length : Int) then F k 0 else some false)
  (hF : ∀ k i, F (k + 1) i = if i < (a.length : Int) then (if 0 ≤ i then (if i < (a.length : Int) then (if i < (b.length : Int) then (if ne (a.getD i.toNat d) (b.getD i.toNat d) = true then some false else F k (wrap64 (i + 1))) else none) else none) else none) else some true) : Ev G (eqB a b) := by
 by_cases hab : a.length = b.length
 ·have loop : ∀ (n j : Nat), j + n = a.length → ∃ r, Ev (fun k => F k (j : Int)) r ∧ (r = true ↔ a.drop j = b.drop j) := by
   intro n
   induction n with
   | zero =>
    intro j hj
    refine ⟨true, Ev.step (f := fun _ => some true) (fun k => ?_) (Ev.now _), ?_⟩
    ·rw [hF, if_neg (by omega)]
    rw [List.drop_eq_nil_of_le (by omega), List.drop_eq_nil_of_le (by omega)]; simp
   | succ n ih =>
    intro j hj
    have hc := qCK a d (j : Int) (by omega) (by omega)
    have hd := qCK b d (j : Int) (by omega) (by omega)
    rw [Int.toNat_natCast, show ((j : Int) + 1).toNat = j + 1 from by omega] at hc hd
    cases hx : ne (a.getD j d) (b.getD j d) with
    | true =>
     refine ⟨false, Ev.step (f := fun _ => some false) (fun k => ?_) (Ev.now _), ?_⟩
     ·rw [hF, if_pos (by omega), if_pos (by omega), if_pos (by omega), if_pos (by omega), Int.toNat_natCast, if_pos hx]
     have h1 := (hne _ _).1 hx
     rw [hc, hd]
     constructor
     ·intro h; cases h
     intro h; injection h with h _; exact absurd h h1
    | false =>
     obtain ⟨r, hr, hq⟩ := ih (j + 1) (by omega)
     have he : a.getD j d = b.getD j d := by
      rcases Classical.em (a.getD j d = b.getD j d) with h | h
      ·exact h
      rw [(hne _ _).2 h] at hx; cases hx
     refine ⟨r, Ev.step (fun k => ?_) hr, ?_⟩
     ·rw [hF, if_pos (by omega), if_pos (by omega), if_pos (by omega), if_pos (by omega), Int.toNat_natCast, if_neg (by rw [hx]; decide), show wrap64 ((j : Int) + 1) = ((j + 1 : Nat) : Int) from by unfold wrap64; omega]
     rw [hq, hc, hd, he]
     constructor
     ·intro h; rw [h]
     intro h; injection h
  obtain ⟨r, hr, hq⟩ := loop a.length 0 (by omega)
  rw [List.drop_zero, List.drop_zero] at hq
  rw [eqB_of hq]
  refine Ev.congr (fun k => ?_) hr
  rw [hG, if_pos (by omega)]; rfl
 ·rw [eqB_of (r := false) ⟨nofun, fun h => absurd (by rw [h]) hab⟩]
  refine Ev.congr (f := fun _ => some false) (fun k => ?_) (Ev.now _)
  rw [hG, if_neg (by omega)]
theorem eqints_ev (a b : List Int) (hl : a.length ≤ 4611686018427387904) : Ev (fun k => qA1.f k a b) (eqB a b) := by
 refine eq_list 0 (fun x y => !(x == y)) (fun x y => by simp) _ (fun k i => qA1.l0 k a b (a.length : Int) i) a b hl (fun k => rfl) (fun k i => ?_)
 have hc : ∀ X : Option Bool, (if rd a i = rd b i then X else some false) = (if (!(rd a i == rd b i)) = true then some false else X) := fun X => by
  by_cases e : rd a i = rd b i <;> simp [e]
 simp only [qA1.l0, hc]
 rfl
theorem eq_take {α : Type} (a b : List α) (hl : a.length = b.length) (h : ∀ (j : Nat) x y, a[j]? = some x → b[j]? = some y → x = y) : a = b := by
 refine List.ext_getElem hl fun j h1 h2 => ?_
 exact h j _ _ (List.getElem?_eq_getElem h1) (List.getElem?_eq_getElem h2)
end Q
end
section
namespace Val
open Go.RowKit Base
def nanB (a : Int) : Bool := decide (9218868437227405312 < a % 9223372036854775808)
def qB8 (a : Int) : Int := if nanB a = true then 9221120237041090561 else a
def okV (t b : Int) : Bool := if t = 1 then true else if t = 2 then qB8 b == b else if t = 3 then decide (b < 2) else false
theorem qCv {a : Int} (h : nanB a = true) : qB8 a = 9221120237041090561 := by unfold qB8; rw [if_pos h]
theorem qBT {a : Int} (h : nanB a = false) : qB8 a = a := by unfold qB8; rw [if_neg (by simp [h])]
def U64 (a : Int) : Prop := 0 ≤ a ∧ a < 18446744073709551616
theorem andNot_sign (a : Int) (h : U64 a) : bits .andNot .u64 a 9223372036854775808 = a % 9223372036854775808 := by
 obtain ⟨n, rfl⟩ := Int.eq_ofNat_of_zero_le h.1
 have hn : n < 18446744073709551616 := by have := h.2; omega
 have k := u64_andNot_nat n 9223372036854775808 hn (by decide)
 rw [show (9223372036854775808 : Int) = ((9223372036854775808 : Nat) : Int) from rfl, k, show (18446744073709551615 - 9223372036854775808 : Nat) = 2 ^ 63 - 1 from rfl, Nat.and_two_pow_sub_one_eq_mod]
 rfl
theorem and_exp (a : Int) (h : U64 a) : bits .and .u64 (a / 4503599627370496) 2047 = a / 4503599627370496 % 2048 := by
 obtain ⟨n, rfl⟩ := Int.eq_ofNat_of_zero_le h.1
 have hn : n < 18446744073709551616 := by have := h.2; omega
 have k := u64_and_nat (n / 4503599627370496) 2047 (by omega) (by decide)
 rw [show (2047 : Int) = ((2047 : Nat) : Int) from rfl, show ((n : Int) / 4503599627370496) = ((n / 4503599627370496 : Nat) : Int) from rfl, k, show (2047 : Nat) = 2 ^ 11 - 1 from rfl, Nat.and_two_pow_sub_one_eq_mod]
 rfl
theorem wrap_low (a : Int) : IntKind.u64.wrap (a * 4096) = a * 4096 % 18446744073709551616 := by simp [IntKind.wrap, IntKind.bits, IntKind.signed]
theorem nanB_sign (a : Int) (h : U64 a) : decide (9218868437227405312 < bits .andNot .u64 a 9223372036854775808) = nanB a := by rw [andNot_sign a h]; rfl
theorem qCY (a : Int) (ha : U64 a) (w : World) : Calls Tryz.prog 70 #[.int .u64 a] w fun e w' => e = .returned (.int .u64 (qB8 a)) ∧ w = w' := by
 have hb := nanB_sign a ha
 cases hn : nanB a with
 | true =>
  rw [hn] at hb
  rw [qCv hn]
  clear ha hn
  go_enter Tryz.func70, Tryz.ntmps70
  go_wp2
  go_ret
  exact ⟨rfl, rfl⟩
 | false =>
  rw [hn] at hb
  rw [qBT hn]
  clear ha hn
  go_enter Tryz.func70, Tryz.ntmps70
  go_wp2
  go_ret
  exact ⟨rfl, rfl⟩
theorem rcanon_any (a : Int) (ha : U64 a) (w : World) : Calls Tryz.prog 78 #[.int .u64 a] w fun e w' => e = .returned (.int .u64 (qB8 a)) ∧ w = w' := by
 have h1 := and_exp a ha
 have h2 := wrap_low a
 have hn : nanB a = decide (a / 4503599627370496 % 2048 = 2047 ∧ a * 4096 % 18446744073709551616 ≠ 0) := by
  unfold nanB
  have := ha.1
  have := ha.2
  rw [decide_eq_decide]
  omega
 by_cases c1 : a / 4503599627370496 % 2048 = 2047
 rotate_left
 ·have b1 : (bits .and .u64 (a / 4503599627370496) 2047 == 2047) = false := by rw [h1]; exact beq_eq_false_iff_ne.mpr c1
  rw [qBT (by rw [hn]; simp [c1])]
  clear ha h1 h2 hn c1
  go_enter Tryz.func78, Tryz.ntmps78
  go_wp2
  go_ret
  exact ⟨rfl, rfl⟩
 have b1 : (bits .and .u64 (a / 4503599627370496) 2047 == 2047) = true := by rw [h1]; exact beq_iff_eq.mpr c1
 by_cases c2 : a * 4096 % 18446744073709551616 = 0
 ·have b2 : (IntKind.u64.wrap (a * 4096) != 0) = false := by rw [h2]; exact bne_eq_false_iff_eq.mpr c2
  have b3 : (IntKind.u64.wrap (a * 4096) == 0) = true := by rw [h2]; exact beq_iff_eq.mpr c2
  rw [qBT (by rw [hn]; simp [c2])]
  clear ha h1 h2 hn c1 c2
  go_enter Tryz.func78, Tryz.ntmps78
  go_wp2
  go_ret
  exact ⟨rfl, rfl⟩
 have b2 : (IntKind.u64.wrap (a * 4096) != 0) = true := by rw [h2]; exact bne_iff_ne.mpr c2
 have b3 : (IntKind.u64.wrap (a * 4096) == 0) = false := by rw [h2]; exact beq_eq_false_iff_ne.mpr c2
 rw [qCv (by rw [hn]; simp [c1, c2])]
 clear ha h1 h2 hn c1 c2
 go_enter Tryz.func78, Tryz.ntmps78
 go_wp2
 go_ret
 exact ⟨rfl, rfl⟩
theorem okV_1 (b : Int) : okV 1 b = true := rfl
theorem okV_2 (b : Int) : okV 2 b = (qB8 b == b) := rfl
theorem okV_3 (b : Int) : okV 3 b = decide (b < 2) := rfl
theorem okV_no (t b : Int) (h : t < 1 ∨ 3 < t) : okV t b = false := by unfold okV; rw [if_neg (by omega), if_neg (by omega), if_neg (by omega)]
theorem right_1 (b : Int) (w : World) : Calls Tryz.prog 44 #[.agg #[.int .i64 1, .int .u64 b]] w fun e w' => e = .returned (.bool true) ∧ Below w.heap.size w w' := by
 go_enter Tryz.func44, Tryz.ntmps44
 go_wp2
 go_ret
 exact ⟨rfl, (Below.refl _ _).alloc (Nat.le_refl _) _⟩
theorem right_3 (b : Int) (w : World) : Calls Tryz.prog 44 #[.agg #[.int .i64 3, .int .u64 b]] w fun e w' => e = .returned (.bool (decide (b < 2))) ∧ Below w.heap.size w w' := by
 go_enter Tryz.func44, Tryz.ntmps44
 go_wp2
 go_ret
 exact ⟨rfl, (Below.refl _ _).alloc (Nat.le_refl _) _⟩
theorem right_no (t b : Int) (h : t < 1 ∨ 3 < t) (w : World) : Calls Tryz.prog 44 #[.agg #[.int .i64 t, .int .u64 b]] w fun e w' => e = .returned (.bool false) ∧ Below w.heap.size w w' := by
 have b1 : (t == 1) = false := beq_eq_false_iff_ne.mpr (by omega)
 have b2 : (t == 2) = false := beq_eq_false_iff_ne.mpr (by omega)
 have b3 : (t == 3) = false := beq_eq_false_iff_ne.mpr (by omega)
 go_enter Tryz.func44, Tryz.ntmps44
 go_wp2
 go_ret
 exact ⟨rfl, (Below.refl _ _).alloc (Nat.le_refl _) _⟩
theorem right_2 (b : Int) (hb : U64 b) (w : World) : Calls Tryz.prog 44 #[.agg #[.int .i64 2, .int .u64 b]] w fun e w' => e = .returned (.bool (qB8 b == b)) ∧ Below w.heap.size w w' := by
 obtain ⟨c, hc⟩ : ∃ c, c = qB8 b := ⟨_, rfl⟩
 have HC : Hid (∀ W : World, Calls Tryz.prog 70 #[.int .u64 b] W fun e w' => e = .returned (.int .u64 c) ∧ w' = W) := hid fun W => by rw [hc]; exact (qCY b hb W).mono fun _ _ ⟨he, hw⟩ => ⟨he, hw.symm⟩
 rw [← hc]
 clear hb hc
 go_enter Tryz.func44, Tryz.ntmps44
 go_wp2_with fail
 go_quiet ((go_at_call 70; exact Calls.quiet_of_same (HC.out _)))
 go_wp2
 go_ret
 exact ⟨rfl, by first | exact ((Below.refl _ _).alloc (Nat.le_refl _) _).drewN _ | (exact ⟨rfl, rfl, rfl, by simp, fun k hk => Below.heap_alloc _ _ _ hk⟩)⟩
theorem right_any (t b : Int) (hb : U64 b) (w : World) : Calls Tryz.prog 44 #[.agg #[.int .i64 t, .int .u64 b]] w fun e w' => e = .returned (.bool (okV t b)) ∧ Below w.heap.size w w' := by
 by_cases h : t < 1 ∨ 3 < t
 ·rw [okV_no t b h]; exact right_no t b h w
 have ht : t = 1 ∨ t = 2 ∨ t = 3 := by omega
 rcases ht with rfl | rfl | rfl
 ·rw [okV_1]; exact right_1 b w
 ·rw [okV_2]; exact right_2 b hb w
 rw [okV_3]; exact right_3 b w
theorem rright_1 (b : Int) (w : World) : Calls Tryz.prog 50 #[.agg #[.int .i64 1, .int .u64 b]] w fun e w' => e = .returned (.bool true) ∧ Below w.heap.size w w' := by
 go_enter Tryz.func50, Tryz.ntmps50
 go_wp2
 go_ret
 exact ⟨rfl, (Below.refl _ _).alloc (Nat.le_refl _) _⟩
theorem rright_3 (b : Int) (w : World) : Calls Tryz.prog 50 #[.agg #[.int .i64 3, .int .u64 b]] w fun e w' => e = .returned (.bool (decide (b ≤ 1))) ∧ Below w.heap.size w w' := by
 go_enter Tryz.func50, Tryz.ntmps50
 go_wp2
 go_ret
 exact ⟨rfl, (Below.refl _ _).alloc (Nat.le_refl _) _⟩
theorem rright_no (t b : Int) (h : t < 1 ∨ 3 < t) (w : World) : Calls Tryz.prog 50 #[.agg #[.int .i64 t, .int .u64 b]] w fun e w' => e = .returned (.bool false) ∧ Below w.heap.size w w' := by
 have b1 : (t == 1) = false := beq_eq_false_iff_ne.mpr (by omega)
 have b2 : (t == 2) = false := beq_eq_false_iff_ne.mpr (by omega)
 have b3 : (t == 3) = false := beq_eq_false_iff_ne.mpr (by omega)
 go_enter Tryz.func50, Tryz.ntmps50
 go_wp2
 go_ret
 exact ⟨rfl, (Below.refl _ _).alloc (Nat.le_refl _) _⟩
theorem rright_2 (b : Int) (hb : U64 b) (w : World) : Calls Tryz.prog 50 #[.agg #[.int .i64 2, .int .u64 b]] w fun e w' => e = .returned (.bool (qB8 b == b)) ∧ Below w.heap.size w w' := by
 obtain ⟨c, hc⟩ : ∃ c, c = qB8 b := ⟨_, rfl⟩
 have HC : Hid (∀ W : World, Calls Tryz.prog 78 #[.int .u64 b] W fun e w' => e = .returned (.int .u64 c) ∧ w' = W) := hid fun W => by rw [hc]; exact (rcanon_any b hb W).mono fun _ _ ⟨he, hw⟩ => ⟨he, hw.symm⟩
 rw [← hc]
 clear hb hc
 go_enter Tryz.func50, Tryz.ntmps50
 go_wp2_with fail
 go_quiet ((go_at_call 78; exact Calls.quiet_of_same (HC.out _)))
 go_wp2
 go_ret
 exact ⟨rfl, by first | exact ((Below.refl _ _).alloc (Nat.le_refl _) _).drewN _ | (exact ⟨rfl, rfl, rfl, by simp, fun k hk => Below.heap_alloc _ _ _ hk⟩)⟩
theorem rright_any (t b : Int) (hb : U64 b) (w : World) : Calls Tryz.prog 50 #[.agg #[.int .i64 t, .int .u64 b]] w fun e w' => e = .returned (.bool (okV t b)) ∧ Below w.heap.size w w' := by
 by_cases h : t < 1 ∨ 3 < t
 ·rw [okV_no t b h]; exact rright_no t b h w
 have ht : t = 1 ∨ t = 2 ∨ t = 3 := by omega
 rcases ht with rfl | rfl | rfl
 ·rw [okV_1]; exact rright_1 b w
 ·rw [okV_2]; exact rright_2 b hb w
 rw [okV_3, show decide (b < 2) = decide (b ≤ 1) from by rw [decide_eq_decide]; omega]; exact rright_3 b w
end Val
end
section
namespace Tbl
open Go.RowKit Base
def qCS : Array Value := #[.string ⟨#[]⟩, .int .i64 0, .string ⟨#[112, 117, 115, 104]⟩, .int .i64 9, .string ⟨#[103, 101, 116]⟩, .int .i64 1, .string ⟨#[112, 117, 116]⟩, .int .i64 1, .string ⟨#[108, 111, 97, 100]⟩, .int .i64 2, .string ⟨#[115, 116, 111, 114, 101]⟩, .int .i64 2,
  .string ⟨#[117, 110]⟩, .int .i64 1, .string ⟨#[98, 105, 110]⟩, .int .i64 1, .string ⟨#[106, 117, 109, 112]⟩, .int .i64 2, .string ⟨#[117, 110, 108, 101, 115, 115]⟩, .int .i64 2, .string ⟨#[99, 97, 108, 108]⟩, .int .i64 2, .string ⟨#[114, 101, 116, 117, 114, 110]⟩, .int .i64 0,
  .string ⟨#[115, 104, 111, 119]⟩, .int .i64 0, .string ⟨#[102, 97, 105, 108]⟩, .int .i64 0, .string ⟨#[105, 110, 112, 117, 116]⟩, .int .i64 0, .string ⟨#[116, 114, 121]⟩, .int .i64 2, .string ⟨#[117, 110, 116, 114, 121]⟩, .int .i64 0, .string ⟨#[100, 114, 111, 112]⟩, .int .i64 0]
theorem rows_built (w : World) : (Instr.build 99 #[(1, .agg #[.string ⟨#[112, 117, 115, 104]⟩, .int .i64 9]), (2, .agg #[.string ⟨#[103, 101, 116]⟩, .int .i64 1]), (3, .agg #[.string ⟨#[112, 117, 116]⟩, .int .i64 1]), (4, .agg #[.string ⟨#[108, 111, 97, 100]⟩, .int .i64 2]), (5, .agg #[.string ⟨#[115, 116, 111, 114, 101]⟩, .int .i64 2]), (6, .agg #[.string ⟨#[117, 110]⟩, .int .i64 1]), (7, .agg #[.string ⟨#[98, 105, 110]⟩, .int .i64 1]), (8, .agg #[.string ⟨#[106, 117, 109, 112]⟩, .int .i64 2]), (9, .agg #[.string ⟨#[117, 110, 108, 101, 115, 115]⟩, .int .i64 2]), (10, .agg #[.string ⟨#[99, 97, 108, 108]⟩, .int .i64 2]), (11, .agg #[.string ⟨#[114, 101, 116, 117, 114, 110]⟩, .int .i64 0]), (12, .agg #[.string ⟨#[115, 104, 111, 119]⟩, .int .i64 0]), (13, .agg #[.string ⟨#[102, 97, 105, 108]⟩, .int .i64 0]), (14, .agg #[.string ⟨#[105, 110, 112, 117, 116]⟩, .int .i64 0]), (15, .agg #[.string ⟨#[116, 114, 121]⟩, .int .i64 2]), (16, .agg #[.string ⟨#[117, 110, 116, 114, 121]⟩, .int .i64 0]), (17, .agg #[.string ⟨#[100, 114, 111, 112]⟩, .int .i64 0])]).run Tryz.prog w = .ok (.agg qCS) w := run_build w _ _ _ (by kernel_rfl)
def rowsZ : Array Value := #[.string ⟨#[]⟩, .int .i64 0, .string ⟨#[]⟩, .int .i64 0, .string ⟨#[]⟩, .int .i64 0, .string ⟨#[]⟩, .int .i64 0, .string ⟨#[]⟩, .int .i64 0, .string ⟨#[]⟩, .int .i64 0, .string ⟨#[]⟩, .int .i64 0, .string ⟨#[]⟩, .int .i64 0, .string ⟨#[]⟩, .int .i64 0, .string ⟨#[]⟩, .int .i64 0, .string ⟨#[]⟩, .int .i64 0, .string ⟨#[]⟩, .int .i64 0, .string ⟨#[]⟩, .int .i64 0, .string ⟨#[]⟩, .int .i64 0, .string ⟨#[]⟩, .int .i64 0, .string ⟨#[]⟩, .int .i64 0, .string ⟨#[]⟩, .int .i64 0, .string ⟨#[]⟩, .int .i64 0]
theorem rows_size : (Tryz.prog.info? 99).map (·.size) = some qCS.size := by kernel_rfl
theorem rows_one : qCS.all (·.oneCell') = true := by kernel_rfl
theorem below_setRow {B : Nat} {a w : World} (h : Below B a w) {g : Nat} (hg : B ≤ g) (cs : Array Value) : Below B a (w.setRow g cs) :=
 h.trans ⟨rfl, rfl, rfl, by simp [World.setRow], fun k hk => setRow_other w g k cs (by omega)⟩
theorem qBy (w : World) : Calls Tryz.prog 45 #[] w fun e w' => e = .returned (.agg qCS) ∧ Below w.heap.size w w' := by
 have hb := rows_built
 go_enter Tryz.func45, Tryz.ntmps45
 go_wp2_with (refine wpList_store_row rfl 99 _ _ rfl w.heap.size qCS rfl rfl 99 rowsZ ?h1 ?h2 ?h3 ?h4 ?_)
 case h2 => exact rows_size
 case h3 => rfl
 case h4 => exact rows_one
 ·exact heap_alloc_new w _
 clear hb
 refine bodyPost_ret (results_cell_row rfl _ _ w.heap.size 99 qCS (0, 0) _ rfl (setRow_heap _ _ _ _ _ _ (heap_alloc_new w _)) Tryz.underlying99 rfl rows_size) rfl ⟨rfl, below_setRow ((Below.refl _ _).alloc (Nat.le_refl _) _) (Nat.le_refl _) _⟩
end Tbl
end
section
namespace Ins
open Go.RowKit Base Val Tbl
def wid (op : Int) : Int := if op = 1 then 9 else if op = 2 ∨ op = 3 ∨ op = 6 ∨ op = 7 then 1 else if op = 4 ∨ op = 5 ∨ op = 8 ∨ op = 9 ∨ op = 10 ∨ op = 15 then 2 else 0
def most (op : Int) : Int := if wid op = 0 then 0 else if wid op = 1 then 255 else 65535
def okI (op n t b : Int) : Bool :=
 if op < 1 ∨ 17 < op then false else if op = 1 then n == 0 && okV t b
 else if ¬(t = 0 ∧ b = 0 ∧ 0 ≤ n ∧ n ≤ most op) then false
 else if op = 6 then decide (1 ≤ n ∧ n ≤ 4) else if op = 7 then decide (1 ≤ n ∧ n ≤ 11) else true
def insV (op n t b : Int) : Value := .agg #[.int .i64 op, .int .i64 n, .int .i64 t, .int .u64 b]
theorem qBw (op n ty b wd mo : Int) (nm : ByteArray) (hlo : (decide (op < 1)) = false) (hhi : (decide (17 < op)) = false) (h1 : (op == 1) = false) (h6 : (op == 6) = false) (h7 : (op == 7) = false)
  (hix : ∀ w, (Instr.index 99 (.agg qCS) (.int .i64 op)).run Tryz.prog w = .ok (.agg #[.string nm, .int .i64 wd]) w)
  (hiy : ∀ w, (Instr.index 96 (.agg #[.int .i64 0, .int .i64 255, .int .i64 65535]) (.int .i64 wd)).run Tryz.prog w = .ok (.int .i64 mo) w)
  (hif : ∀ w, (Instr.field 98 (.agg #[.string nm, .int .i64 wd]) 1).run Tryz.prog w = .ok (.int .i64 wd) w) (w : World) : Calls Tryz.prog 18 #[.agg #[.int .i64 op, .int .i64 n, .int .i64 ty, .int .u64 b]] w fun e w' => e = .returned (.bool (decide (ty = 0 ∧ b = 0 ∧ 0 ≤ n ∧ n ≤ mo))) ∧ Below w.heap.size w w' := by
 go_enter Tryz.func18, Tryz.ntmps18
 go_wp2_with fail
 obtain ⟨W1, hW1⟩ : ∃ W1, W1 = w.alloc (.cells #[.int .i64 op, .int .i64 n, .int .i64 ty, .int .u64 b] 51) := ⟨_, rfl⟩
 have hB1 : Below w.heap.size w W1 := by rw [hW1]; exact (Below.refl _ _).alloc (Nat.le_refl _) _
 have hs : w.heap.size < W1.heap.size := by rw [hW1]; simp
 have c0 : W1.cell? ⟨w.heap.size, 0, none⟩ = some (.int .i64 op) := by rw [hW1, World.cell?_alloc_at _ _ _ _ rfl]; rfl
 have c1 : W1.cell? ⟨w.heap.size, 1, none⟩ = some (.int .i64 n) := by rw [hW1, World.cell?_alloc_at _ _ _ _ rfl]; rfl
 have c2 : W1.cell? ⟨w.heap.size, 2, none⟩ = some (.int .i64 ty) := by rw [hW1, World.cell?_alloc_at _ _ _ _ rfl]; rfl
 have c3 : W1.cell? ⟨w.heap.size, 3, none⟩ = some (.int .u64 b) := by rw [hW1, World.cell?_alloc_at _ _ _ _ rfl]; rfl
 rw [← hW1]
 clear hW1
 go_region_held3 (fun W => W.cell? ⟨w.heap.size, 0, none⟩ = some (.int .i64 op) ∧ W.cell? ⟨w.heap.size, 1, none⟩ = some (.int .i64 n) ∧ W.cell? ⟨w.heap.size, 2, none⟩ = some (.int .i64 ty) ∧ W.cell? ⟨w.heap.size, 3, none⟩ = some (.int .u64 b))
  (first | go_keep | exact ⟨(hbj.cell (p := ⟨w.heap.size, 0, none⟩) hs).trans c0, (hbj.cell (p := ⟨w.heap.size, 1, none⟩) hs).trans c1, (hbj.cell (p := ⟨w.heap.size, 2, none⟩) hs).trans c2, (hbj.cell (p := ⟨w.heap.size, 3, none⟩) hs).trans c3⟩)
  (first | (go_at_call 45; refine (qBy _).mono ?_; rintro e w1 ⟨rfl, hbj⟩))
 go_wp2
 all_goals have hB2 : Below w.heap.size w w1 := hB1.drew.trans (hbj.mono (by simp; omega))
 all_goals (go_ret; refine ⟨congrArg (fun x => Ending.returned (Value.bool x)) ?_, hB2⟩; simp_all <;> omega)
theorem right_6 (op n ty b wd mo : Int) (nm : ByteArray) (hlo : (decide (op < 1)) = false) (hhi : (decide (17 < op)) = false) (h1 : (op == 1) = false) (h6 : (op == 6) = true)
  (hix : ∀ w, (Instr.index 99 (.agg qCS) (.int .i64 op)).run Tryz.prog w = .ok (.agg #[.string nm, .int .i64 wd]) w)
  (hiy : ∀ w, (Instr.index 96 (.agg #[.int .i64 0, .int .i64 255, .int .i64 65535]) (.int .i64 wd)).run Tryz.prog w = .ok (.int .i64 mo) w)
  (hif : ∀ w, (Instr.field 98 (.agg #[.string nm, .int .i64 wd]) 1).run Tryz.prog w = .ok (.int .i64 wd) w) (w : World) : Calls Tryz.prog 18 #[.agg #[.int .i64 op, .int .i64 n, .int .i64 ty, .int .u64 b]] w fun e w' => e = .returned (.bool (decide (ty = 0 ∧ b = 0 ∧ 0 ≤ n ∧ n ≤ mo ∧ 1 ≤ n ∧ n ≤ 4))) ∧ Below w.heap.size w w' := by
 go_enter Tryz.func18, Tryz.ntmps18
 go_wp2_with fail
 obtain ⟨W1, hW1⟩ : ∃ W1, W1 = w.alloc (.cells #[.int .i64 op, .int .i64 n, .int .i64 ty, .int .u64 b] 51) := ⟨_, rfl⟩
 have hB1 : Below w.heap.size w W1 := by rw [hW1]; exact (Below.refl _ _).alloc (Nat.le_refl _) _
 have hs : w.heap.size < W1.heap.size := by rw [hW1]; simp
 have c0 : W1.cell? ⟨w.heap.size, 0, none⟩ = some (.int .i64 op) := by rw [hW1, World.cell?_alloc_at _ _ _ _ rfl]; rfl
 have c1 : W1.cell? ⟨w.heap.size, 1, none⟩ = some (.int .i64 n) := by rw [hW1, World.cell?_alloc_at _ _ _ _ rfl]; rfl
 have c2 : W1.cell? ⟨w.heap.size, 2, none⟩ = some (.int .i64 ty) := by rw [hW1, World.cell?_alloc_at _ _ _ _ rfl]; rfl
 have c3 : W1.cell? ⟨w.heap.size, 3, none⟩ = some (.int .u64 b) := by rw [hW1, World.cell?_alloc_at _ _ _ _ rfl]; rfl
 rw [← hW1]
 clear hW1
 go_region_held3 (fun W => W.cell? ⟨w.heap.size, 0, none⟩ = some (.int .i64 op) ∧ W.cell? ⟨w.heap.size, 1, none⟩ = some (.int .i64 n) ∧ W.cell? ⟨w.heap.size, 2, none⟩ = some (.int .i64 ty) ∧ W.cell? ⟨w.heap.size, 3, none⟩ = some (.int .u64 b))
  (first | go_keep | exact ⟨(hbj.cell (p := ⟨w.heap.size, 0, none⟩) hs).trans c0, (hbj.cell (p := ⟨w.heap.size, 1, none⟩) hs).trans c1, (hbj.cell (p := ⟨w.heap.size, 2, none⟩) hs).trans c2, (hbj.cell (p := ⟨w.heap.size, 3, none⟩) hs).trans c3⟩)
  (first | (go_at_call 45; refine (qBy _).mono ?_; rintro e w1 ⟨rfl, hbj⟩))
 go_wp2
 all_goals have hB2 : Below w.heap.size w w1 := hB1.drew.trans (hbj.mono (by simp; omega))
 all_goals (go_ret; refine ⟨congrArg (fun x => Ending.returned (Value.bool x)) ?_, hB2⟩; simp_all <;> omega)
theorem right_7 (op n ty b wd mo : Int) (nm : ByteArray) (hlo : (decide (op < 1)) = false) (hhi : (decide (17 < op)) = false) (h1 : (op == 1) = false) (h6 : (op == 6) = false) (h7 : (op == 7) = true)
  (hix : ∀ w, (Instr.index 99 (.agg qCS) (.int .i64 op)).run Tryz.prog w = .ok (.agg #[.string nm, .int .i64 wd]) w)
  (hiy : ∀ w, (Instr.index 96 (.agg #[.int .i64 0, .int .i64 255, .int .i64 65535]) (.int .i64 wd)).run Tryz.prog w = .ok (.int .i64 mo) w)
  (hif : ∀ w, (Instr.field 98 (.agg #[.string nm, .int .i64 wd]) 1).run Tryz.prog w = .ok (.int .i64 wd) w) (w : World) : Calls Tryz.prog 18 #[.agg #[.int .i64 op, .int .i64 n, .int .i64 ty, .int .u64 b]] w fun e w' => e = .returned (.bool (decide (ty = 0 ∧ b = 0 ∧ 0 ≤ n ∧ n ≤ mo ∧ 1 ≤ n ∧ n ≤ 11))) ∧ Below w.heap.size w w' := by
 go_enter Tryz.func18, Tryz.ntmps18
 go_wp2_with fail
 obtain ⟨W1, hW1⟩ : ∃ W1, W1 = w.alloc (.cells #[.int .i64 op, .int .i64 n, .int .i64 ty, .int .u64 b] 51) := ⟨_, rfl⟩
 have hB1 : Below w.heap.size w W1 := by rw [hW1]; exact (Below.refl _ _).alloc (Nat.le_refl _) _
 have hs : w.heap.size < W1.heap.size := by rw [hW1]; simp
 have c0 : W1.cell? ⟨w.heap.size, 0, none⟩ = some (.int .i64 op) := by rw [hW1, World.cell?_alloc_at _ _ _ _ rfl]; rfl
 have c1 : W1.cell? ⟨w.heap.size, 1, none⟩ = some (.int .i64 n) := by rw [hW1, World.cell?_alloc_at _ _ _ _ rfl]; rfl
 have c2 : W1.cell? ⟨w.heap.size, 2, none⟩ = some (.int .i64 ty) := by rw [hW1, World.cell?_alloc_at _ _ _ _ rfl]; rfl
 have c3 : W1.cell? ⟨w.heap.size, 3, none⟩ = some (.int .u64 b) := by rw [hW1, World.cell?_alloc_at _ _ _ _ rfl]; rfl
 rw [← hW1]
 clear hW1
 go_region_held3 (fun W => W.cell? ⟨w.heap.size, 0, none⟩ = some (.int .i64 op) ∧ W.cell? ⟨w.heap.size, 1, none⟩ = some (.int .i64 n) ∧ W.cell? ⟨w.heap.size, 2, none⟩ = some (.int .i64 ty) ∧ W.cell? ⟨w.heap.size, 3, none⟩ = some (.int .u64 b))
  (first | go_keep | exact ⟨(hbj.cell (p := ⟨w.heap.size, 0, none⟩) hs).trans c0, (hbj.cell (p := ⟨w.heap.size, 1, none⟩) hs).trans c1, (hbj.cell (p := ⟨w.heap.size, 2, none⟩) hs).trans c2, (hbj.cell (p := ⟨w.heap.size, 3, none⟩) hs).trans c3⟩)
  (first | (go_at_call 45; refine (qBy _).mono ?_; rintro e w1 ⟨rfl, hbj⟩))
 go_wp2
 all_goals have hB2 : Below w.heap.size w w1 := hB1.drew.trans (hbj.mono (by simp; omega))
 all_goals (go_ret; refine ⟨congrArg (fun x => Ending.returned (Value.bool x)) ?_, hB2⟩; simp_all <;> omega)
theorem right_lo (op n ty b : Int) (hlo : (decide (op < 1)) = true) (w : World) : Calls Tryz.prog 18 #[.agg #[.int .i64 op, .int .i64 n, .int .i64 ty, .int .u64 b]] w fun e w' => e = .returned (.bool false) ∧ Below w.heap.size w w' := by
 go_enter Tryz.func18, Tryz.ntmps18
 go_wp2
 go_ret
 exact ⟨rfl, (Below.refl _ _).alloc (Nat.le_refl _) _⟩
theorem right_hi (op n ty b : Int) (hlo : (decide (op < 1)) = false) (hhi : (decide (17 < op)) = true) (w : World) : Calls Tryz.prog 18 #[.agg #[.int .i64 op, .int .i64 n, .int .i64 ty, .int .u64 b]] w fun e w' => e = .returned (.bool false) ∧ Below w.heap.size w w' := by
 go_enter Tryz.func18, Tryz.ntmps18
 go_wp2
 go_ret
 exact ⟨rfl, (Below.refl _ _).alloc (Nat.le_refl _) _⟩
theorem right_push_no (n ty b : Int) (h : (n == 0) = false) (w : World) : Calls Tryz.prog 18 #[.agg #[.int .i64 1, .int .i64 n, .int .i64 ty, .int .u64 b]] w fun e w' => e = .returned (.bool false) ∧ Below w.heap.size w w' := by
 go_enter Tryz.func18, Tryz.ntmps18
 go_wp2
 go_ret
 exact ⟨rfl, (Below.refl _ _).alloc (Nat.le_refl _) _⟩
theorem right_push (ty b : Int) (hb : U64 b) (w : World) : Calls Tryz.prog 18 #[.agg #[.int .i64 1, .int .i64 0, .int .i64 ty, .int .u64 b]] w fun e w' => e = .returned (.bool (okV ty b)) ∧ Below w.heap.size w w' := by
 have HR := hid (right_any ty b hb)
 clear hb
 go_enter Tryz.func18, Tryz.ntmps18
 go_wp2_with fail
 go_at_call 44
 refine (HR.out _).mono ?_
 rintro e w1 ⟨rfl, hb1⟩
 go_wp2
 go_ret
 exact ⟨rfl, ((Below.refl _ _).alloc (Nat.le_refl _) _).trans (hb1.mono (by simp))⟩
theorem qAG (op n t b mo : Int) (hlo : (decide (op < 1)) = false) (hhi : (decide (17 < op)) = false) (h1 : (op == 1) = false) (h6 : (op == 6) = false) (h7 : (op == 7) = false) (hm : most op = mo) : okI op n t b = decide (t = 0 ∧ b = 0 ∧ 0 ≤ n ∧ n ≤ mo) := by
 unfold okI
 rw [hm, if_neg (by simp at hlo hhi; omega), if_neg (by simpa using h1)]
 by_cases h : t = 0 ∧ b = 0 ∧ 0 ≤ n ∧ n ≤ mo
 rotate_left
 ·rw [if_pos h]; simp [h]
 rw [if_neg (by simpa using h), if_neg (by simpa using h6), if_neg (by simpa using h7)]; simp [h]
theorem okI_lo (op n t b : Int) (h : op < 1) : okI op n t b = false := by unfold okI; rw [if_pos (Or.inl h)]
theorem okI_hi (op n t b : Int) (h : 17 < op) : okI op n t b = false := by unfold okI; rw [if_pos (Or.inr h)]
theorem okI_1 (n t b : Int) : okI 1 n t b = (n == 0 && okV t b) := rfl
theorem okI_6 (n t b : Int) : okI 6 n t b = decide (t = 0 ∧ b = 0 ∧ 0 ≤ n ∧ n ≤ 255 ∧ 1 ≤ n ∧ n ≤ 4) := by
 unfold okI
 rw [if_neg (by decide), if_neg (by decide), show most 6 = 255 from rfl]
 by_cases h : t = 0 ∧ b = 0 ∧ 0 ≤ n ∧ n ≤ 255
 ·obtain ⟨h1, h2, h3, h4⟩ := h
  simp [h1, h2, h3, h4]
 rw [if_pos h]; simp; intro a b c d; exact absurd ⟨a, b, c, d⟩ h
theorem okI_7 (n t b : Int) : okI 7 n t b = decide (t = 0 ∧ b = 0 ∧ 0 ≤ n ∧ n ≤ 255 ∧ 1 ≤ n ∧ n ≤ 11) := by
 unfold okI
 rw [if_neg (by decide), if_neg (by decide), show most 7 = 255 from rfl]
 by_cases h : t = 0 ∧ b = 0 ∧ 0 ≤ n ∧ n ≤ 255
 ·obtain ⟨h1, h2, h3, h4⟩ := h
  simp [h1, h2, h3, h4]
 rw [if_pos h]; simp; intro a b c d; exact absurd ⟨a, b, c, d⟩ h
theorem qBY (op n ty b : Int) (hb : U64 b) (w : World) : Calls Tryz.prog 18 #[insV op n ty b] w fun e w' => e = .returned (.bool (okI op n ty b)) ∧ Below w.heap.size w w' := by
 unfold insV
 by_cases hl : op < 1
 ·rw [okI_lo op n ty b hl]; exact right_lo op n ty b (by simpa using hl) w
 by_cases hh : 17 < op
 ·rw [okI_hi op n ty b hh]; exact right_hi op n ty b (by simpa using hl) (by simpa using hh) w
 have ho : op = 1 ∨ op = 2 ∨ op = 3 ∨ op = 4 ∨ op = 5 ∨ op = 6 ∨ op = 7 ∨ op = 8 ∨ op = 9 ∨ op = 10 ∨ op = 11 ∨ op = 12 ∨ op = 13 ∨ op = 14 ∨ op = 15 ∨ op = 16 ∨ op = 17 := by omega
 rcases ho with rfl | rfl | rfl | rfl | rfl | rfl | rfl | rfl | rfl | rfl | rfl | rfl | rfl | rfl | rfl | rfl | rfl
 ·rw [okI_1]
  by_cases hn : n = 0
  ·rw [hn]; exact right_push ty b hb w
  rw [show (n == 0) = false from beq_eq_false_iff_ne.mpr hn]; exact right_push_no n ty b (beq_eq_false_iff_ne.mpr hn) w
 ·rw [qAG 2 n ty b 255 rfl rfl rfl rfl rfl rfl]; exact qBw 2 n ty b 1 255 ⟨#[103, 101, 116]⟩ rfl rfl rfl rfl rfl (fun _ => by kernel_rfl) (fun _ => by kernel_rfl) (fun _ => by kernel_rfl) w
 ·rw [qAG 3 n ty b 255 rfl rfl rfl rfl rfl rfl]; exact qBw 3 n ty b 1 255 ⟨#[112, 117, 116]⟩ rfl rfl rfl rfl rfl (fun _ => by kernel_rfl) (fun _ => by kernel_rfl) (fun _ => by kernel_rfl) w
 ·rw [qAG 4 n ty b 65535 rfl rfl rfl rfl rfl rfl]; exact qBw 4 n ty b 2 65535 ⟨#[108, 111, 97, 100]⟩ rfl rfl rfl rfl rfl (fun _ => by kernel_rfl) (fun _ => by kernel_rfl) (fun _ => by kernel_rfl) w
 ·rw [qAG 5 n ty b 65535 rfl rfl rfl rfl rfl rfl]; exact qBw 5 n ty b 2 65535 ⟨#[115, 116, 111, 114, 101]⟩ rfl rfl rfl rfl rfl (fun _ => by kernel_rfl) (fun _ => by kernel_rfl) (fun _ => by kernel_rfl) w
 ·rw [okI_6]; exact right_6 6 n ty b 1 255 ⟨#[117, 110]⟩ rfl rfl rfl rfl (fun _ => by kernel_rfl) (fun _ => by kernel_rfl) (fun _ => by kernel_rfl) w
 ·rw [okI_7]; exact right_7 7 n ty b 1 255 ⟨#[98, 105, 110]⟩ rfl rfl rfl rfl rfl (fun _ => by kernel_rfl) (fun _ => by kernel_rfl) (fun _ => by kernel_rfl) w
 ·rw [qAG 8 n ty b 65535 rfl rfl rfl rfl rfl rfl]; exact qBw 8 n ty b 2 65535 ⟨#[106, 117, 109, 112]⟩ rfl rfl rfl rfl rfl (fun _ => by kernel_rfl) (fun _ => by kernel_rfl) (fun _ => by kernel_rfl) w
 ·rw [qAG 9 n ty b 65535 rfl rfl rfl rfl rfl rfl]; exact qBw 9 n ty b 2 65535 ⟨#[117, 110, 108, 101, 115, 115]⟩ rfl rfl rfl rfl rfl (fun _ => by kernel_rfl) (fun _ => by kernel_rfl) (fun _ => by kernel_rfl) w
 ·rw [qAG 10 n ty b 65535 rfl rfl rfl rfl rfl rfl]; exact qBw 10 n ty b 2 65535 ⟨#[99, 97, 108, 108]⟩ rfl rfl rfl rfl rfl (fun _ => by kernel_rfl) (fun _ => by kernel_rfl) (fun _ => by kernel_rfl) w
 ·rw [qAG 11 n ty b 0 rfl rfl rfl rfl rfl rfl]; exact qBw 11 n ty b 0 0 ⟨#[114, 101, 116, 117, 114, 110]⟩ rfl rfl rfl rfl rfl (fun _ => by kernel_rfl) (fun _ => by kernel_rfl) (fun _ => by kernel_rfl) w
 ·rw [qAG 12 n ty b 0 rfl rfl rfl rfl rfl rfl]; exact qBw 12 n ty b 0 0 ⟨#[115, 104, 111, 119]⟩ rfl rfl rfl rfl rfl (fun _ => by kernel_rfl) (fun _ => by kernel_rfl) (fun _ => by kernel_rfl) w
 ·rw [qAG 13 n ty b 0 rfl rfl rfl rfl rfl rfl]; exact qBw 13 n ty b 0 0 ⟨#[102, 97, 105, 108]⟩ rfl rfl rfl rfl rfl (fun _ => by kernel_rfl) (fun _ => by kernel_rfl) (fun _ => by kernel_rfl) w
 ·rw [qAG 14 n ty b 0 rfl rfl rfl rfl rfl rfl]; exact qBw 14 n ty b 0 0 ⟨#[105, 110, 112, 117, 116]⟩ rfl rfl rfl rfl rfl (fun _ => by kernel_rfl) (fun _ => by kernel_rfl) (fun _ => by kernel_rfl) w
 ·rw [qAG 15 n ty b 65535 rfl rfl rfl rfl rfl rfl]; exact qBw 15 n ty b 2 65535 ⟨#[116, 114, 121]⟩ rfl rfl rfl rfl rfl (fun _ => by kernel_rfl) (fun _ => by kernel_rfl) (fun _ => by kernel_rfl) w
 ·rw [qAG 16 n ty b 0 rfl rfl rfl rfl rfl rfl]; exact qBw 16 n ty b 0 0 ⟨#[117, 110, 116, 114, 121]⟩ rfl rfl rfl rfl rfl (fun _ => by kernel_rfl) (fun _ => by kernel_rfl) (fun _ => by kernel_rfl) w
 rw [qAG 17 n ty b 0 rfl rfl rfl rfl rfl rfl]; exact qBw 17 n ty b 0 0 ⟨#[100, 114, 111, 112]⟩ rfl rfl rfl rfl rfl (fun _ => by kernel_rfl) (fun _ => by kernel_rfl) (fun _ => by kernel_rfl) w
end Ins
end
section
namespace Q
open Go.RowKit YA YC YB
open Val Ins
def okT (t : Int) : Bool := decide (1 ≤ t ∧ t ≤ 3)
theorem okT_true {t : Int} (h1 : 1 ≤ t) (h2 : t ≤ 3) : okT t = true := by unfold okT; simp [h1, h2]
theorem okT_false {t : Int} (h : t < 1 ∨ 3 < t) : okT t = false := by unfold okT; simp; omega
theorem any_hit {α : Type} (p : α → Bool) (l : List α) (k : Nat) (x : α) (hx : l[k]? = some x) (h : p x = true) : l.any p = true :=
 List.any_eq_true.2 ⟨x, List.mem_of_getElem? hx, h⟩
theorem any_miss {α : Type} (p : α → Bool) (l : List α) (h : ∀ (j : Nat) (x : α), l[j]? = some x → p x = false) : l.any p = false := by
 rw [List.any_eq_false]
 intro x hx
 obtain ⟨j, hj⟩ := List.getElem?_of_mem hx
 rw [h j x hj]; decide
def IdxPost (b : Bool) (W0 : World) (e : Ending) (w' : World) : Prop := ∃ i : Int, e = .returned (.int .i64 i) ∧ (0 ≤ i ↔ b = true) ∧ Below W0.heap.size W0 w'
def okS (x : S51) : Bool := okI x.f0 x.f1 x.f2.f0 x.f2.f1
def u64S (x : S51) : Bool := decide (0 ≤ x.f2.f1 ∧ x.f2.f1 < 18446744073709551616)
theorem u64S_U {x : S51} (h : u64S x = true) : U64 x.f2.f1 := by
 have h := of_decide_eq_true (p := 0 ≤ x.f2.f1 ∧ x.f2.f1 < 18446744073709551616) h
 exact ⟨h.1, by omega⟩
end Q
end
section
namespace Q
open Go.RowKit YA YC YB
def ShBox (W : World) (g : Nat) (m : Bool) (A : Option Addr) (n c : Nat) (B : Option Addr) (k d : Nat) : Prop := W.heap[g]? = some (.cells #[.bool m, .slice A n c, .slice B k d] 113 (0, 0))
theorem ShBox.set {W : World} {g : Nat} {m : Bool} {A : Option Addr} {n c : Nat} {B : Option Addr} {k d : Nat} (h : ShBox W g m A n c B k d) (A' : Option Addr) (n' c' : Nat) : ShBox (W.setCell ⟨g, 1, none⟩ (.slice A' n' c')) g m A' n' c' B k d := by
 unfold ShBox at h ⊢
 simp [World.setCell, h, Array.getElem?_modify]
theorem take_none (g : Nat) (m : Bool) (A : Option Addr) (c : Nat) (B : Option Addr) (k d : Nat) (W : World) (hg : ShBox W g m A 0 c B k d) :
  Calls Tryz.prog 114 #[.pointer (some ⟨g, 0, none⟩)] W fun e w' => e = .returned (.tuple #[.int .i64 0, .bool false]) ∧ w' = W := by
 have c1 : W.cell? ⟨g, 1, none⟩ = some (.slice A 0 c) := (qAc hg 1).trans rfl
 go_enter Tryz.func114, Tryz.ntmps114
 go_wp2
 go_ret2
 exact ⟨rfl, rfl⟩
theorem take_some (g : Nat) (m : Bool) (ad : Addr) (n c : Nat) (B : Option Addr) (k d : Nat) (x : Int) (W : World) (hg : ShBox W g m (some ad) (n + 1) c B k d) (hx : W.cell? (ad.add n) = some (.int .i64 x)) (hc : n + 1 ≤ c) (hn : n + 1 ≤ 4611686018427387904) :
  Calls Tryz.prog 114 #[.pointer (some ⟨g, 0, none⟩)] W fun e w' => e = .returned (.tuple #[.int .i64 x, .bool true]) ∧ w' = W.setCell ⟨g, 1, none⟩ (.slice (some ad) n c) := by
 have c1 : W.cell? ⟨g, 1, none⟩ = some (.slice (some ad) (n + 1) c) := (qAc hg 1).trans rfl
 have f1 := qAm hg 1
 have hz : (((n + 1 : Nat) : Int) == 0) = false := beq_eq_false_iff_ne.mpr (by omega)
 have hs : IntKind.i64.wrap (((n + 1 : Nat) : Int) - 1) = (n : Int) := by simp [IntKind.wrap, IntKind.bits, IntKind.signed]; omega
 have hgl : g < W.heap.size := qBf hg
 go_enter Tryz.func114, Tryz.ntmps114
 go_wp2
 go_ret2
 exact ⟨rfl, rfl⟩
theorem qCa : (Tryz.prog.info? 160).map (fun i => (i.zero, i.size, i.bytes)) = some (some (.agg #[.int .i64 0, .slice none 0 0]), 2, 32) := by kernel_rfl
theorem qBL : (Tryz.prog.info? 3).map (fun i => (i.zero, i.size, i.bytes)) = some (some (.int .i64 0), 1, 8) := by kernel_rfl
theorem cloneO_any (A : Option Addr) (n c : Nat) (tr : List S160) (ok : Nat → Prop) (W : World) (HF : Kd.F k160 W ok A n tr) (hn : n ≤ 2000000) :
  Calls Tryz.prog 90 #[.slice A n c] W fun e w' => ∃ v, e = .returned v ∧ Kd.N k160 160 w' W.heap.size (fun k => ok k ∨ W.heap.size ≤ k) v tr ∧ Below W.heap.size W w' := by
 have hlen := Kd.F_len HF
 cases A with
 | none =>
  have h0 : n = 0 := by
   rcases Nat.eq_zero_or_pos n with h | h
   ·exact h
   obtain ⟨ad, had, _⟩ := (Kd.F_now HF).2.2 h; cases had
  subst h0
  obtain rfl : tr = [] := List.length_eq_zero_iff.1 hlen
  have hq := Lib.run_eql_slice_nil (P := Tryz.prog) W 111 160 none 0 c 0 0 Tryz.underlying111
  clear HF hlen
  go_enter Tryz.func90, Tryz.ntmps90
  go_wp2
  go_ret
  exact ⟨_, rfl, Kd.N_nil _ _ _ _ _, Below.refl _ _⟩
 | some a =>
  have hq := Lib.run_eql_slice_nil (P := Tryz.prog) W 111 160 (some a) n c 0 0 Tryz.underlying111
  have hown : (W.alloc (.cells #[] 160)).ownsRow W.heap.size 160 2 (.slice (some ⟨W.heap.size, 0, none⟩) 0 0) 0 [] := World.ownsRow_made W #[] 0 (Nat.le_refl _) (by unfold maxLen; omega) rfl
  have HR : Kd.R k160 160 (W.alloc (.cells #[] 160)) W.heap.size (fun k => ok k ∨ W.heap.size ≤ k) (.slice (some ⟨W.heap.size, 0, none⟩) 0 0) [] := ⟨fun k hk => .inr (by cases hk; exact Nat.le_refl _), [], hown, Reps.none _ _⟩
  have HN := am (Kd.R_N HR)
  have HF' := am (Kd.F_alloc (Kd.F_bound HF) (.cells #[] 160))
  clear HF hown HR
  go_enter Tryz.func90, Tryz.ntmps90
  go_wp2_with (at_builtin; refine Kd.N_append_rows k160 (w0 := W) W.heap.size rfl (.tmp 5) (.tmp 6) 111 160 _ 32 rfl Tryz.underlying111 qCa rfl (by decide) (by decide) _ [] tr (some a) n c _ _ rfl rfl HN.out HF'.out ?h1 ?h2 ?h3 ?h4 ?h5 ?_; (case h1 => exact fun k hk => ⟨.inl hk.1, fun he => by cases he; exact absurd hk.2 (Nat.lt_irrefl _)⟩); (case h2 => intro k hk; exact .inr (by simp at hk; omega)); (case h3 => exact (Below.refl _ _).alloc (Nat.le_refl _) _); (case h4 => simp); (case h5 => simp; omega); intro v1 w1 hN hB _ _; have HN1 := am hN; have HB1 := am hB; clear hN hB)
  go_ret
  exact ⟨_, rfl, HN1.out, HB1.out⟩
theorem qCe (A : Option Addr) (c : Nat) (st : List Int) (W : World) (HC0 : Kd.C (Kd.int .i64) W A st.length st) (hn : st.length ≤ 2000000) :
  Calls Tryz.prog 54 #[.slice A st.length c] W fun e w' => ∃ v, e = .returned v ∧ Kd.R (Kd.int .i64) 3 w' W.heap.size (fun _ => True) v st ∧ Below W.heap.size W w' := by
 obtain ⟨n, hnn⟩ : ∃ n, n = st.length := ⟨_, rfl⟩
 rw [← hnn] at HC0 hn ⊢
 cases A with
 | none =>
  have h0 : n = 0 := by
   rcases Nat.eq_zero_or_pos n with h | h
   ·exact h
   obtain ⟨ad, had, _⟩ := HC0.2.2 h; cases had
  subst h0
  obtain rfl : st = [] := List.length_eq_zero_iff.1 hnn.symm
  have hq := Lib.run_eql_slice_nil (P := Tryz.prog) W 22 3 none 0 c 0 0 Tryz.underlying22
  clear HC0 hn hnn
  go_enter Tryz.func54, Tryz.ntmps54
  go_wp2
  go_ret
  exact ⟨_, rfl, Kd.R_nil _ _ _ _ _, Below.refl _ _⟩
 | some a =>
  have hq := Lib.run_eql_slice_nil (P := Tryz.prog) W 22 3 (some a) n c 0 0 Tryz.underlying22
  have hown : (W.alloc (.cells #[] 3)).ownsRow W.heap.size 3 1 (.slice (some ⟨W.heap.size, 0, none⟩) 0 0) 0 [] := World.ownsRow_made W #[] 0 (Nat.le_refl _) (by unfold maxLen; omega) rfl
  have HR : qAi (Kd.R (Kd.int .i64) 3 (W.alloc (.cells #[] 3)) W.heap.size (fun _ => True) (.slice (some ⟨W.heap.size, 0, none⟩) 0 0) []) := ⟨fun k hk => trivial, [], hown, Reps.none _ _⟩
  have HRR : qAi (qAJ (fun x cs => cs = [Value.int .i64 x]) (Kd.int .i64).sz (W.alloc (.cells #[] 3)) (some a) n st) := ⟨Kd.C_below HC0 ((Below.refl _ _).alloc (Nat.le_refl _) _)⟩
  have HNN := am hnn
  have HN0 := am hn
  clear HC0 hown hn hnn
  go_enter Tryz.func54, Tryz.ntmps54
  go_wp2_with (at_builtin; refine Kd.R_append_rows (Kd.int .i64) (w0 := W) W.heap.size rfl (.tmp 5) (.tmp 6) 22 3 _ 8 rfl Tryz.underlying22 qBL rfl (by decide) (by decide) _ [] st (some a) n c _ (fun _ => False) rfl rfl HR.out HRR.out ?h0 ?h1 ?h2 ?h3 ?h4 ?h5 ?_; (case h0 => exact fun x cs h => h); (case h1 => exact fun k hk => hk.elim); (case h2 => intro k hk; exact trivial); (case h3 => exact (Below.refl _ _).alloc (Nat.le_refl _) _); (case h4 => simp); (case h5 => have := HN0.out; simp; omega); intro v1 w1 hN hB _ _; have HN1 := am hN; have HB1 := am hB; clear hN hB)
  go_ret
  exact ⟨_, rfl, HN1.out, HB1.out⟩
def qCV (m : Bool) (st : List Int) (tr : List S160) (ok2 : Nat → Prop) (W : World) (e : Ending) (w' : World) : Prop :=
 ∃ v1 v2, e = .returned (.agg #[.bool m, v1, v2]) ∧ Kd.R (Kd.int .i64) 3 w' W.heap.size (fun _ => True) v1 st ∧ Kd.N k160 160 w' W.heap.size (fun q => (ok2 q ∨ W.heap.size ≤ q) ∧ some q ≠ v1.ownBlock) v2 tr ∧ Below W.heap.size W w'
theorem qC8 (m : Bool) (A : Option Addr) (c : Nat) (st : List Int) (B : Option Addr) (k d : Nat) (tr : List S160) (ok1 ok2 : Nat → Prop) (W : World) (H1 : Kd.F (Kd.int .i64) W ok1 A st.length st) (H2 : Kd.F k160 W ok2 B k tr) (hn : st.length ≤ 2000000) (hk : k ≤ 2000000) (hnc : st.length ≤ c) :
  Calls Tryz.prog 64 #[.agg #[.bool m, .slice A st.length c, .slice B k d]] W (qCV m st tr ok2 W) := by
 have HC1 : qAi (∀ W', Below W.heap.size W W' → Calls Tryz.prog 54 #[.slice A st.length c] W' fun e w' => ∃ v, e = .returned v ∧ Kd.R (Kd.int .i64) 3 w' W'.heap.size (fun _ => True) v st ∧ Below W'.heap.size W' w') :=
  ⟨fun W' hW => qCe A c st W' (Kd.F_now (Kd.F_below H1 hW)) hn⟩
 have HC2 : qAi (∀ W', Below W.heap.size W W' → Calls Tryz.prog 90 #[.slice B k d] W' fun e w' => ∃ v, e = .returned v ∧ Kd.N k160 160 w' W'.heap.size (fun q => (ok2 q ∧ q < W.heap.size) ∨ W'.heap.size ≤ q) v tr ∧ Below W'.heap.size W' w') :=
  ⟨fun W' hW => cloneO_any B k d tr _ W' (Kd.F_below (Kd.F_bound H2) hW) hk⟩
 obtain ⟨n, hn'⟩ : ∃ n, n = st.length := ⟨_, rfl⟩
 rw [← hn'] at HC1 ⊢
 clear H1 H2 hn hk hnc hn'
 obtain ⟨WB, hWB⟩ : ∃ WB, WB = (W.alloc (.cells #[.bool m, .slice A n c, .slice B k d] 113)).alloc (.cells #[.bool false, .slice none 0 0, .slice none 0 0] 113) := ⟨_, rfl⟩
 have hBB : Below W.heap.size W WB := hWB ▸ ((Below.refl _ _).alloc (Nat.le_refl _) _).alloc (by simp) _
 have hz : WB.heap.size = W.heap.size + 1 + 1 := by rw [hWB]; simp
 have b0 : WB.heap[W.heap.size]? = some (.cells #[.bool m, .slice A n c, .slice B k d] 113 (0, 0)) := by rw [hWB]; exact qAs (qAF W _) (qAb (Below.refl _ _) _)
 have b1 : WB.heap[W.heap.size + 1]? = some (.cells #[.bool false, .slice none 0 0, .slice none 0 0] 113 (0, 0)) := by rw [hWB]; simpa using qAF (W.alloc (.cells #[.bool m, .slice A n c, .slice B k d] 113)) _
 have HWB := am hWB
 have HBB := am hBB
 have e0 := (qAc b0 0).trans rfl
 have e1 := (qAc b0 1).trans rfl
 have e2 := (qAc b0 2).trans rfl
 go_enter Tryz.func64, Tryz.ntmps64
 go_wp2_with fail
 rw [← hWB]
 clear hWB
 go_region_held3 (fun W' => W'.cell? ⟨W.heap.size, 0, none⟩ = some (.bool m) ∧ W'.cell? ⟨W.heap.size, 1, none⟩ = some (.slice A n c) ∧ W'.cell? ⟨W.heap.size, 2, none⟩ = some (.slice B k d))
  (first | go_keep | exact ⟨g0, g1, g2⟩ | exact ⟨f0, f1, f2⟩ | exact ⟨e0, e1, e2⟩)
  (first
    | (go_at_call 54;
       refine (HC1.out _ (qAr HBB.out)).mono ?_;
       rintro e w1 ⟨v1, rfl, hR1, hb1⟩;
       have hb1' : Below WB.heap.size WB w1 := (qAr (Below.refl _ _)).trans hb1;
       have b0' := qAs b0 hb1';
       have b1' := qAs b1 hb1';
       have f0 := (qAc b0' 0).trans rfl;
       have f1 := (qAc b0' 1).trans rfl;
       have f2 := (qAc b0' 2).trans rfl;
       have hBB1 := Below.trans hBB (hb1'.mono (by omega));
       have HBB1 := am hBB1;
       obtain ⟨A1, c1, ev1⟩ := Kd.R_slice hR1;
       subst ev1;
       have HR1 := am hR1;
       have HB1 := am hb1';
       clear hR1 hb1 hb1' hBB1)
    | (go_at_call 90;
       refine (HC2.out _ HBB1.out).mono ?_;
       rintro e w2 ⟨v2, rfl, hN2, hb2⟩;
       have b0'' := qAs b0' hb2;
       have b1'' := qAs b1' hb2;
       have g0 := (qAc b0'' 0).trans rfl;
       have g1 := (qAc b0'' 1).trans rfl;
       have g2 := (qAc b0'' 2).trans rfl;
       have hcz0 := (qAc b1'' 0).trans rfl;
       have hcz1 := (qAc b1'' 1).trans rfl;
       have hcz2 := (qAc b1'' 2).trans rfl;
       have hfz0 := qAm b1'' 0;
       have hfz1 := qAm b1'' 1;
       have hfz2 := qAm b1'' 2;
       obtain ⟨A2, c2, ev2⟩ := Kd.N_slice hN2;
       subst ev2;
       have HN2 := am hN2;
       have HB2 := am hb2;
       clear hN2 hb2))
 have hv1a := Kd.R_base HR1.out
 have hv1b := Kd.R_lt HR1.out
 have hz' : WB.drew.heap.size = W.heap.size + 1 + 1 := hz
 have hs2 := HB2.out.size
 have hs1 : W.heap.size + 1 < w1.heap.size := by
  rcases Nat.lt_or_ge (W.heap.size + 1) w1.heap.size with h | h
  ·exact h
  rw [Array.getElem?_eq_none h] at b1'; cases b1'
 go_wp2
 refine bodyPost_ret (results_cell_row rfl _ _ (W.heap.size + 1) 113 #[.bool m, .slice A1 st.length c1, .slice A2 tr.length c2] (0, 0) _ rfl (by refine qAS (cs := #[.bool m, .slice A1 st.length c1, .slice none 0 0]) ?_ 2 _ rfl; refine qAS (cs := #[.bool m, .slice none 0 0, .slice none 0 0]) ?_ 1 _ rfl; refine qAS (cs := #[.bool false, .slice none 0 0, .slice none 0 0]) ?_ 0 _ rfl; exact b1'') Tryz.underlying113 rfl (by kernel_rfl)) rfl ?_
 generalize hWf : ((w2.setCell _ _).setCell _ _).setCell _ _ = Wf
 have hE : ∀ q, q ≠ W.heap.size + 1 → Wf.heap[q]? = w2.heap[q]? := fun q hq => by
  rw [← hWf, Below.heap_setCell _ _ _ _ hq, Below.heap_setCell _ _ _ _ hq, Below.heap_setCell _ _ _ _ hq]
 have hBf : Below W.heap.size W Wf := by
  rw [← hWf]
  exact qA8 (qA8 (qA8 (HBB1.out.trans (HB2.out.mono (by omega))) (by simp)) (by simp)) (by simp)
 refine ⟨_, _, rfl, ?_, ?_, hBf⟩
 ·have h1 := Kd.R_lower (Kd.R_below (Kd.R_bound HR1.out) HB2.out) (show W.heap.size ≤ WB.drew.heap.size by omega)
  exact Kd.R_mono (Kd.R_step h1 (fun q hq _ => hE q (by omega))) (fun _ _ => trivial)
 ·have h2 := Kd.N_lower HN2.out (show W.heap.size ≤ w1.heap.size by omega)
  refine Kd.N_mono (Kd.N_step h2 (fun q hq _ => hE q (by omega))) (fun q hq => ⟨?_, fun he => ?_⟩)
  ·rcases hq with h | h
   ·exact .inl h.1
   ·exact .inr (by omega)
  ·have := hv1a q he.symm; have := hv1b q he.symm; omega
def Fr (W w' : World) (S : Nat → Prop) : Prop := Below 0 W w' ∧ Kept W w' S
theorem below_zero {n : Nat} {W W' : World} (h : Below n W W') : Below 0 W W' := h.mono (Nat.zero_le _)
theorem Fr.refl (W : World) (S : Nat → Prop) : Fr W W S := ⟨Below.refl _ _, Kept.refl _ _⟩
theorem Fr.of_below {W W' : World} {S : Nat → Prop} (h : Below W.heap.size W W') : Fr W W' S := ⟨below_zero h, Kept.of_below h S⟩
theorem Fr.then_ {W W1 W2 : World} {S S1 : Nat → Prop} (h : Fr W W1 S) (k : Fr W1 W2 S1) (hs : ∀ q, S1 q → S q ∨ W.heap.size ≤ q) : Fr W W2 S := ⟨h.1.trans k.1, h.2.then_ k.2 hs⟩
theorem Fr.trans {W W1 W2 : World} {S : Nat → Prop} (h : Fr W W1 S) (k : Fr W1 W2 S) : Fr W W2 S := h.then_ k (fun _ h => .inl h)
theorem Fr.mono {W W1 : World} {S S' : Nat → Prop} (h : Fr W W1 S) (hs : ∀ q, S q → S' q) : Fr W W1 S' := ⟨h.1, h.2.mono hs⟩
theorem Fr.set {W W1 : World} {S : Nat → Prop} (h : Fr W W1 S) {p : Addr} (hp : S p.block ∨ W.heap.size ≤ p.block) (u : Value) : Fr W (W1.setCell p u) S :=
 ⟨h.1.setCell (Nat.zero_le _) u, by
   refine ⟨Nat.le_trans h.2.1 (by simp [World.setCell]), fun i hi hn => ?_⟩
   rw [Below.heap_setCell _ _ _ _ (fun e => by subst e; rcases hp with hp | hp; exact hn hp; omega)]
   exact h.2.2 i hi hn⟩
theorem Fr.size {W W1 : World} {S : Nat → Prop} (h : Fr W W1 S) : W.heap.size ≤ W1.heap.size := h.2.1
theorem Fr.blk {W W1 : World} {S : Nat → Prop} (h : Fr W W1 S) {q : Nat} {o : Obj} (hq : W.heap[q]? = some o) (hn : ¬ S q) : W1.heap[q]? = some o := by
 have hlt : q < W.heap.size := (Array.getElem?_eq_some_iff.1 hq).1
 rw [h.2.2 q hlt hn]; exact hq
theorem Fr.cell {W W1 : World} {S : Nat → Prop} (h : Fr W W1 S) {p : Addr} {v : Value} (hc : W.cell? p = some v) (hn : ¬ S p.block) : W1.cell? p = some v :=
 (World.cell?_of_block (h.2.2 p.block (World.block_lt_of_cell? W p hc) hn)).trans hc
section
variable {P : Program} {ops : Array Oper} {Q : Exit → Act → World → Prop} {md : Region.Mode} {S : World → Prop}
theorem hT (i : Nat) {oi : Oper} {v : Value} {fuel : Nat} {l l' : Array Bool} {a a' : Act} {w : World} (h : wpAnyH P md ops Q S fuel l' a' w) (hi : ops[i]? = some oi := by rfl) (hs : Region.noSelect ops = true := by kernel_rfl) (hf : Region.free md ops l i = true := by kernel_rfl) (hr : (Region.ready md ops l).contains i = true := by kernel_rfl)
  (hQ : ∀ c a w, Q (.panic c) (a.put oi.dst v) w → Q (.panic c) a w := by exact fun _ _ _ h => h) (hg : Region.wanted oi (yielded ops a.tmps) = true := by rfl) (hy : ∀ w, S w → (execOp a.eval oi).run P w = .ok (.value v) w := by (intro w hSw; (try dsimp only at hSw); go_simp <;> with_reducible rfl)) (hS : S w := by assumption)
  (hl : l.setIfInBounds i true = l' := by first | (simp only [List.setIfInBounds_toArray, List.set_cons_zero, List.set_cons_succ]; rfl) | rfl) (ha : a.put oi.dst v = a' := by first | (simp only [Act.put, List.getElem_toArray, List.getElem_cons_zero, List.getElem_cons_succ, List.setIfInBounds_toArray, List.set_cons_zero, List.set_cons_succ]; rfl) | rfl) : wpAnyH P md ops Q S (fuel + 1) l a w :=
 wpAnyH_take hi hs hf hr hQ (.inl ⟨hg, hy⟩) hS (by rw [hl, ha]; exact h)
theorem hO (i : Nat) {oi : Oper} {fuel : Nat} {l l' : Array Bool} {a a' : Act} {w : World} (h : wpAnyH P md ops Q S fuel l' a' w) (hi : ops[i]? = some oi := by rfl) (hs : Region.noSelect ops = true := by kernel_rfl) (hf : Region.free md ops l i = true := by kernel_rfl) (hr : (Region.ready md ops l).contains i = true := by kernel_rfl)
  (hQ : ∀ c a w, Q (.panic c) (a.put oi.dst undef) w → Q (.panic c) a w := by exact fun _ _ _ h => h) (hg : Region.wanted oi (yielded ops a.tmps) = false := by rfl) (hS : S w := by assumption)
  (hl : l.setIfInBounds i true = l' := by first | (simp only [List.setIfInBounds_toArray, List.set_cons_zero, List.set_cons_succ]; rfl) | rfl) (ha : a.put oi.dst undef = a' := by first | (simp only [Act.put, List.getElem_toArray, List.getElem_cons_zero, List.getElem_cons_succ, List.setIfInBounds_toArray, List.set_cons_zero, List.set_cons_succ]; rfl) | rfl) : wpAnyH P md ops Q S (fuel + 1) l a w :=
 wpAnyH_take hi hs hf hr hQ (.inr ⟨hg, rfl⟩) hS (by rw [hl, ha]; exact h)
end
theorem qAz {W : World} {p : Addr} {v : Value} (o : Obj) (hc : W.cell? p = some v) : (W.alloc o).cell? p = some v :=
 (Below.cell (qAb (Below.refl _ _) o) (World.block_lt_of_cell? W p hc)).trans hc
theorem qA4 {W : World} {p : Addr} {v : Value} (hc : W.cell? p = some v) (c : Addr) (u : Value) (hne : p.block ≠ c.block) : (W.setCell c u).cell? p = some v :=
 (World.cell?_setCell_other _ _ _ _ (fun e => hne (congrArg Addr.block e.symm))).trans hc
theorem qA9 {W : World} {S : Nat → Prop} {p : Addr} {v : Value} {g : Nat} (hc : W.cell? p = some v) (j : Nat) (u : Value) (hn : ¬ S p.block) (hg : S g) : (W.setCell ⟨g, j, none⟩ u).cell? p = some v :=
 qA4 hc _ _ (fun e => hn (by rw [e]; exact hg))
theorem Fr.below {W W1 : World} {S : Nat → Prop} {n : Nat} (h : Fr W W1 S) (hs : ∀ q, S q → n ≤ q) (hn : n ≤ W.heap.size) : Below n W W1 :=
 ⟨h.1.os, h.1.tape, h.1.output, h.2.1, fun k hk => h.2.2 k (by omega) (fun e => by have := hs k e; omega)⟩
def ShV (W : World) (g : Nat) (m : Bool) (st : List Int) (tr : List S160) (S okT : Nat → Prop) (v1 v2 : Value) : Prop :=
 W.heap[g]? = some (.cells #[.bool m, v1, v2] 113 (0, 0)) ∧ S g ∧ Kd.N (Kd.int .i64) 3 W 0 (fun q => S q ∧ q ≠ g) v1 st ∧ (∀ k, v2.ownBlock = some k → S k) ∧ Kd.N k160 160 W 0 (fun q => (S q ∨ okT q) ∧ q ≠ g ∧ some q ≠ v1.ownBlock) v2 tr
def ShO (W : World) (g : Nat) (m : Bool) (st : List Int) (tr : List S160) (S okT : Nat → Prop) : Prop := ∃ v1 v2, ShV W g m st tr S okT v1 v2
theorem ShO.below {W W' : World} {g : Nat} {m : Bool} {st : List Int} {tr : List S160} {S okT : Nat → Prop} (h : ShO W g m st tr S okT) (hb : Below W.heap.size W W') : ShO W' g m st tr (fun q => (S q ∧ q < W.heap.size) ∨ W'.heap.size ≤ q) okT := by
 obtain ⟨v1, v2, hg, h0, h1, h2, h3⟩ := h
 have h4 := Kd.N_lt h3
 refine ⟨v1, v2, qAs hg hb, .inl ⟨h0, qBf hg⟩, ?_, fun k hk => .inl ⟨h2 k hk, h4 k hk⟩, ?_⟩
 ·exact Kd.N_mono (Kd.N_below (Kd.N_bound h1) hb) (fun q hq => ⟨.inl ⟨hq.1.1, hq.2⟩, hq.1.2⟩)
 refine Kd.N_mono (Kd.N_below (Kd.N_bound h3) hb) (fun q hq => ⟨?_, hq.1.2⟩)
 rcases hq.1.1 with h | h
 ·exact .inl (.inl ⟨h, hq.2⟩)
 exact .inr h
theorem ShO.mono {W : World} {g : Nat} {m : Bool} {st : List Int} {tr : List S160} {S S' okT okT' : Nat → Prop} (h : ShO W g m st tr S okT) (hs : ∀ q, S q → S' q) (hk : ∀ q, okT q → okT' q) : ShO W g m st tr S' okT' := by
 obtain ⟨v1, v2, hg, h0, h1, h2, h3⟩ := h
 refine ⟨v1, v2, hg, hs _ h0, Kd.N_mono h1 (fun q hq => ⟨hs _ hq.1, hq.2⟩), fun k hk => hs _ (h2 k hk), Kd.N_mono h3 (fun q hq => ⟨?_, hq.2⟩)⟩
 rcases hq.1 with h | h
 ·exact .inl (hs _ h)
 exact .inr (hk _ h)
theorem ShO.lt {W : World} {g : Nat} {m : Bool} {st : List Int} {tr : List S160} {S okT : Nat → Prop} (h : ShO W g m st tr S okT) : g < W.heap.size := by
 obtain ⟨v1, v2, hg, _⟩ := h
 exact qBf hg
def topV (st : List Int) : Value := .tuple #[.int .i64 (st.getLast?.getD 0), .bool st.getLast?.isSome]
theorem qDi {W : World} {A : Option Addr} {n : Nat} {xs : List Int} (h : Kd.C (Kd.int .i64) W A n xs) (i : Nat) (hi : i < n) : ∃ ad, A = some ad ∧ W.cell? (ad.add i) = some (.int .i64 (xs.getD i 0)) := by
 obtain ⟨ad, c, e, _, hK, hc0⟩ := Kd.C_get h (0 : Int) (i : Int) (by omega) (by omega)
 obtain rfl : c = [Value.int .i64 (xs.getD i 0)] := hK
 refine ⟨ad, e, ?_⟩
 have h2 := hc0 0 _ rfl
 rwa [show ((i : Int).toNat * (Kd.int .i64).sz + 0) = i from Nat.mul_one i] at h2
theorem take_o {g : Nat} {m : Bool} {st : List Int} {tr : List S160} {S okT : Nat → Prop} {W : World} (H : ShO W g m st tr S okT) (hl : st.length ≤ 2000000) :
  Calls Tryz.prog 114 #[.pointer (some ⟨g, 0, none⟩)] W fun e w' => e = .returned (topV st) ∧ ShO w' g m st.dropLast tr S okT ∧ Fr W w' S := by
 obtain ⟨v1, v2, hg, hb, hN1, hSv, hN2⟩ := H
 obtain ⟨A, c, rfl⟩ := Kd.N_slice hN1
 obtain ⟨B, d, rfl⟩ := Kd.N_slice hN2
 rcases List.eq_nil_or_concat st with rfl | ⟨l, x, rfl⟩
 ·refine (take_none g m A c B tr.length d W hg).mono ?_
  rintro e w' ⟨rfl, rfl⟩
  exact ⟨rfl, ⟨_, _, hg, hb, hN1, hSv, hN2⟩, Fr.refl _ _⟩
 ·rw [List.concat_eq_append] at *
  have hn : (l ++ [x]).length = l.length + 1 := by simp
  obtain ⟨q, cap, hq, _⟩ := Kd.N_form hN1 (by omega)
  injection hq with hqA hqn hqc
  subst hqA
  have hC := Kd.N_reads' hN1
  obtain ⟨ad, had, hcell⟩ := qDi hC.2.2 l.length (by omega)
  injection had with had
  subst had
  have hx : (l ++ [x]).getD l.length 0 = x := by simp
  rw [hx] at hcell
  rw [hn] at hg
  refine (take_some g m ⟨q, 0, none⟩ l.length c B tr.length d x W hg hcell (by omega) (by omega)).mono ?_
  rintro e w' ⟨rfl, rfl⟩
  refine ⟨by simp [topV], ⟨.slice (some ⟨q, 0, none⟩) l.length c, .slice B tr.length d, ?_, hb, ?_, hSv, ?_⟩, Fr.set (Fr.refl _ _) (.inl hb) _⟩
  ·exact ShBox.set hg (some ⟨q, 0, none⟩) l.length c
  ·have := Kd.N_take hN1 (m := l.length) (by omega)
   rw [show (l ++ [x]).take l.length = l from by simp] at this
   rw [show (l ++ [x]).dropLast = l from by simp]
   exact Kd.N_far this (fun _ hk => hk.2) _
  ·exact Kd.N_far hN2 (fun _ hk => hk.2.1) _
def qBb (t : Int) (st : List Int) : Bool := st.getLast? == some t
theorem qCI {g : Nat} {m : Bool} {st : List Int} {tr : List S160} {S okT : Nat → Prop} {W : World} (t : Int) (H : ShO W g m st tr S okT) (hl : st.length ≤ 2000000) :
  Calls Tryz.prog 88 #[.pointer (some ⟨g, 0, none⟩), .int .i64 t] W fun e w' => e = .returned (.bool (qBb t st)) ∧ ShO w' g m st.dropLast tr S okT ∧ Fr W w' S := by
 have HT := am (take_o H hl)
 have hgl : g < W.heap.size := H.lt
 clear H hl
 obtain ⟨x, hx⟩ : ∃ x, x = st.getLast?.getD 0 := ⟨_, rfl⟩
 obtain ⟨b, hb⟩ : ∃ b, b = st.getLast?.isSome := ⟨_, rfl⟩
 obtain ⟨sd, hsd⟩ : ∃ sd, sd = st.dropLast := ⟨_, rfl⟩
 have hr : qBb t st = (b && (x == t)) := by
  rw [hb, hx]
  unfold qBb
  cases st.getLast? <;> simp
 unfold topV at HT
 rw [hr]
 rw [← hx, ← hb, ← hsd] at HT
 rw [← hsd]
 clear hr hx hb hsd
 go_enter Tryz.func88, Tryz.ntmps88
 go_wp2_with (go_at_call 114; refine HT.out.mono ?_; rintro e w1 ⟨rfl, hS1, hb1⟩; have HS1 := am hS1; have HB1 := am hb1; clear hS1 hb1)
 all_goals (go_ret; exact ⟨by simp_all, HS1.out, HB1.out⟩)
section
variable {ops : Array Oper} {rest : List Oper} {o : Oper} {a : Act} {Q : Exit → Act → World → Prop} {Kc : Act → World → Prop}
theorem push_done {W w3 : World} {g : Nat} {m : Bool} {st st' : List Int} {tr : List S160} {S okT : Nat → Prop} {v1 v2 v3 : Value} (H : ShV W g m st tr S okT v1 v2) (hN : Kd.N (Kd.int .i64) 3 w3 0 (fun q => S q ∧ q ≠ g) v3 st') (hB : Below 0 W w3) (hgr : W.grownBy w3 v1.ownBlock) (hat : v3.ownBlock = v1.ownBlock ∨ ∃ b, v3.ownBlock = some b ∧ W.heap.size ≤ b) :
  w3.heap[g]? = some (.cells #[.bool m, v1, v2] 113 (0, 0)) ∧ Fr W w3 S ∧ ShO (w3.setCell ⟨g, 1, none⟩ v3) g m st' tr S okT ∧ Fr W (w3.setCell ⟨g, 1, none⟩ v3) S := by
 obtain ⟨hg, h0, h1, h2, h3⟩ := H
 have hlt := qBf hg
 have hne : some g ≠ v1.ownBlock := fun e => (h1.1 g e.symm).2 rfl
 have hg3 : w3.heap[g]? = some (.cells #[.bool m, v1, v2] 113 (0, 0)) := (hgr.block g hlt hne).trans hg
 have hfr : Fr W w3 S := ⟨hB, hgr.size, fun i hi hn => hgr.block i hi (fun e => hn (h1.1 i e.symm).1)⟩
 refine ⟨hg3, hfr, ⟨v3, v2, qAS (cs := #[.bool m, v1, v2]) hg3 1 _ rfl, h0, Kd.N_far hN (fun _ hk => hk.2) _, h2, ?_⟩, Fr.set hfr (.inl h0) _⟩
 have h4 := Kd.N_after (Kd.N_mono h3 (fun q hq => show ((S q ∨ okT q) ∧ q ≠ g) ∧ some q ≠ v1.ownBlock from ⟨⟨hq.1, hq.2.1⟩, hq.2.2⟩)) hgr hat
 exact Kd.N_mono (Kd.N_far h4 (fun q hk => hk.1.2) _) (fun q hq => ⟨hq.1.1, hq.1.2, hq.2⟩)
theorem qCF {W : World} {g : Nat} {m : Bool} {st : List Int} {tr : List S160} {S okT : Nat → Prop} {v1 v2 : Value} (H : ShV W g m st tr S okT v1 v2) (y : Int) (hgd : o.guard = none) (s x : Operand)
  (ho : o.op = .call { callee := .builtin .append, args := #[s, x], argTypes := #[22, 22] }) (hs : a.eval s = v1) (hx : a.eval x = .slice (some ⟨W.heap.size, 0, none⟩) 1 1) (hfr : ∀ k, W.heap.size ≤ k → S k) (hl : st.length ≤ 2000000)
  (h : ∀ A3 c3 w3, w3.heap[g]? = some (.cells #[.bool m, v1, v2] 113 (0, 0)) → Fr W w3 S → ShO (w3.setCell ⟨g, 1, none⟩ (.slice A3 (st.length + 1) c3)) g m (st ++ [y]) tr S okT → Fr W (w3.setCell ⟨g, 1, none⟩ (.slice A3 (st.length + 1) c3)) S → wpList Tryz.prog ops Q rest (a.put o.dst (.slice A3 (st.length + 1) c3)) w3) :
  wpList Tryz.prog ops Q (o :: rest) a (W.alloc (.cells #[.int .i64 y] 3)) := by
 refine Kd.N_append (Kd.int .i64) (w0 := W) 0 hgd s x 22 3 _ 8 ho Tryz.underlying22 qBL rfl (by decide) (by decide) v1 st y [.int .i64 y] (fun q => S q ∧ q ≠ g) (fun _ => False) hs hx (fun _ _ => rfl) (fun _ h => h.elim) (fun k hk => ⟨hfr k hk, fun e => by have := qBf H.1; omega⟩) H.2.2.1 (Below.refl _ _) (Nat.zero_le _) (by omega) ?_
 intro v3 w3 hN hB hgr hat
 obtain ⟨h5, h5b, h6, h7⟩ := push_done H hN hB hgr hat
 obtain ⟨A3, c3, rfl⟩ := Kd.N_slice hN
 rw [show (st ++ [y]).length = st.length + 1 by simp] at *
 exact h A3 c3 w3 h5 h5b h6 h7
theorem qAD {W : World} {g : Nat} {m : Bool} {st : List Int} {tr : List S160} {S okT : Nat → Prop} {v1 v2 : Value} (H : ShV W g m st tr S okT v1 v2) (y : Int) (hw : Region.wanted o (yielded ops a.tmps) = true) (s x : Operand)
  (ho : o.op = .call { callee := .builtin .append, args := #[s, x], argTypes := #[22, 22] }) (hs : a.eval s = v1) (hx : a.eval x = .slice (some ⟨W.heap.size, 0, none⟩) 1 1) (hfr : ∀ k, W.heap.size ≤ k → S k) (hl : st.length ≤ 2000000)
  (h : ∀ A3 c3 w3, w3.heap[g]? = some (.cells #[.bool m, v1, v2] 113 (0, 0)) → Fr W w3 S → ShO (w3.setCell ⟨g, 1, none⟩ (.slice A3 (st.length + 1) c3)) g m (st ++ [y]) tr S okT → Fr W (w3.setCell ⟨g, 1, none⟩ (.slice A3 (st.length + 1) c3)) S → Kc (a.put o.dst (.slice A3 (st.length + 1) c3)) w3) :
  if Region.wanted o (yielded ops a.tmps) = true then Oper.wp Tryz.prog o a (W.alloc (.cells #[.int .i64 y] 3)) Kc Q else Kc (a.put o.dst undef) (W.alloc (.cells #[.int .i64 y] 3)) := by
 refine Kd.N_append_step (Kd.int .i64) (w0 := W) 0 hw s x 22 3 _ 8 ho Tryz.underlying22 qBL rfl (by decide) (by decide) v1 st y [.int .i64 y] (fun q => S q ∧ q ≠ g) (fun _ => False) hs hx (fun _ _ => rfl) (fun _ h => h.elim) (fun k hk => ⟨hfr k hk, fun e => by have := qBf H.1; omega⟩) H.2.2.1 (Below.refl _ _) (Nat.zero_le _) (by omega) ?_
 intro v3 w3 hN hB hgr hat
 obtain ⟨h5, h5b, h6, h7⟩ := push_done H hN hB hgr hat
 obtain ⟨A3, c3, rfl⟩ := Kd.N_slice hN
 rw [show (st ++ [y]).length = st.length + 1 by simp] at *
 exact h A3 c3 w3 h5 h5b h6 h7
end
end Q
end
section
namespace Ty1
open Go.RowKit
theorem qAq (a : Int) (w : World) (h1 : 1 ≤ a) (h2 : a ≤ 3) : Calls Tryz.prog 80 #[.int .i64 a] w fun e w' => e = .returned (.bool true) ∧ w = w' := by
 have hb : decide (1 ≤ a) = true := decide_eq_true h1
 have hc : decide (a ≤ 3) = true := decide_eq_true h2
 go_enter Tryz.func80, Tryz.ntmps80
 go_wp2
 go_ret
 exact ⟨rfl, rfl⟩
theorem valued_no (a : Int) (w : World) (h : a < 1 ∨ 3 < a) : Calls Tryz.prog 80 #[.int .i64 a] w fun e w' => e = .returned (.bool false) ∧ w = w' := by
 rcases h with h | h
 ·have hb : decide (1 ≤ a) = false := decide_eq_false (by omega)
  go_enter Tryz.func80, Tryz.ntmps80
  go_wp2
  go_ret
  exact ⟨rfl, rfl⟩
 have hb : decide (1 ≤ a) = true := decide_eq_true (by omega)
 have hc : decide (a ≤ 3) = false := decide_eq_false (by omega)
 go_enter Tryz.func80, Tryz.ntmps80
 go_wp2
 go_ret
 exact ⟨rfl, rfl⟩
theorem unary_arg (op t : Int) (w : World) (h : op < 1 ∨ 4 < op) : Calls Tryz.prog 55 #[.int .i64 op, .int .i64 t] w fun e w' => e = .returned (.tuple #[.int .i64 0, .int .i64 1]) ∧ w = w' := by
 rcases h with h | h
 ·have hb : decide (op < 1) = true := decide_eq_true h
  go_enter Tryz.func55, Tryz.ntmps55
  go_wp2
  go_ret2
  exact ⟨rfl, rfl⟩
 have hb : decide (op < 1) = false := decide_eq_false (by omega)
 have hc : decide (4 < op) = true := decide_eq_true h
 go_enter Tryz.func55, Tryz.ntmps55
 go_wp2
 go_ret2
 exact ⟨rfl, rfl⟩
theorem unary_type (op t : Int) (w : World) (h1 : 1 ≤ op) (h2 : op ≤ 4) (h : t < 1 ∨ 3 < t) : Calls Tryz.prog 55 #[.int .i64 op, .int .i64 t] w fun e w' => e = .returned (.tuple #[.int .i64 0, .int .i64 22]) ∧ w = w' := by
 have hb : decide (op < 1) = false := decide_eq_false (by omega)
 have hc : decide (4 < op) = false := decide_eq_false (by omega)
 go_enter Tryz.func55, Tryz.ntmps55
 go_wp2_with (go_at_call 80; refine (valued_no _ _ h).mono ?_; rintro e w' ⟨rfl, rfl⟩)
 go_ret2
 exact ⟨rfl, rfl⟩
theorem big_1 (w : World) : (Instr.index 153 (.agg #[.int .i64 0, .int .i64 0, .int .i64 0, .int .i64 0, .int .i64 0, .int .i64 1, .int .i64 2, .int .i64 0, .int .i64 0, .int .i64 0, .int .i64 0, .int .i64 3, .int .i64 0, .int .i64 0, .int .i64 1, .int .i64 0, .int .i64 0, .int .i64 2, .int .i64 0, .int .i64 0]) (.int .i64 1)).run Tryz.prog w = .ok (.agg #[.int .i64 0, .int .i64 1, .int .i64 2, .int .i64 0]) w := by kernel_rfl
theorem big_2 (w : World) : (Instr.index 153 (.agg #[.int .i64 0, .int .i64 0, .int .i64 0, .int .i64 0, .int .i64 0, .int .i64 1, .int .i64 2, .int .i64 0, .int .i64 0, .int .i64 0, .int .i64 0, .int .i64 3, .int .i64 0, .int .i64 0, .int .i64 1, .int .i64 0, .int .i64 0, .int .i64 2, .int .i64 0, .int .i64 0]) (.int .i64 2)).run Tryz.prog w = .ok (.agg #[.int .i64 0, .int .i64 0, .int .i64 0, .int .i64 3]) w := by kernel_rfl
theorem big_3 (w : World) : (Instr.index 153 (.agg #[.int .i64 0, .int .i64 0, .int .i64 0, .int .i64 0, .int .i64 0, .int .i64 1, .int .i64 2, .int .i64 0, .int .i64 0, .int .i64 0, .int .i64 0, .int .i64 3, .int .i64 0, .int .i64 0, .int .i64 1, .int .i64 0, .int .i64 0, .int .i64 2, .int .i64 0, .int .i64 0]) (.int .i64 3)).run Tryz.prog w = .ok (.agg #[.int .i64 0, .int .i64 0, .int .i64 1, .int .i64 0]) w := by kernel_rfl
theorem big_4 (w : World) : (Instr.index 153 (.agg #[.int .i64 0, .int .i64 0, .int .i64 0, .int .i64 0, .int .i64 0, .int .i64 1, .int .i64 2, .int .i64 0, .int .i64 0, .int .i64 0, .int .i64 0, .int .i64 3, .int .i64 0, .int .i64 0, .int .i64 1, .int .i64 0, .int .i64 0, .int .i64 2, .int .i64 0, .int .i64 0]) (.int .i64 4)).run Tryz.prog w = .ok (.agg #[.int .i64 0, .int .i64 2, .int .i64 0, .int .i64 0]) w := by kernel_rfl
theorem row_1_1 (w : World) : (Instr.index 152 (.agg #[.int .i64 0, .int .i64 1, .int .i64 2, .int .i64 0]) (.int .i64 1)).run Tryz.prog w = .ok (.int .i64 1) w := by kernel_rfl
theorem row_1_2 (w : World) : (Instr.index 152 (.agg #[.int .i64 0, .int .i64 1, .int .i64 2, .int .i64 0]) (.int .i64 2)).run Tryz.prog w = .ok (.int .i64 2) w := by kernel_rfl
theorem row_1_3 (w : World) : (Instr.index 152 (.agg #[.int .i64 0, .int .i64 1, .int .i64 2, .int .i64 0]) (.int .i64 3)).run Tryz.prog w = .ok (.int .i64 0) w := by kernel_rfl
theorem row_2_1 (w : World) : (Instr.index 152 (.agg #[.int .i64 0, .int .i64 0, .int .i64 0, .int .i64 3]) (.int .i64 1)).run Tryz.prog w = .ok (.int .i64 0) w := by kernel_rfl
theorem row_2_2 (w : World) : (Instr.index 152 (.agg #[.int .i64 0, .int .i64 0, .int .i64 0, .int .i64 3]) (.int .i64 2)).run Tryz.prog w = .ok (.int .i64 0) w := by kernel_rfl
theorem row_2_3 (w : World) : (Instr.index 152 (.agg #[.int .i64 0, .int .i64 0, .int .i64 0, .int .i64 3]) (.int .i64 3)).run Tryz.prog w = .ok (.int .i64 3) w := by kernel_rfl
theorem row_3_1 (w : World) : (Instr.index 152 (.agg #[.int .i64 0, .int .i64 0, .int .i64 1, .int .i64 0]) (.int .i64 1)).run Tryz.prog w = .ok (.int .i64 0) w := by kernel_rfl
theorem row_3_2 (w : World) : (Instr.index 152 (.agg #[.int .i64 0, .int .i64 0, .int .i64 1, .int .i64 0]) (.int .i64 2)).run Tryz.prog w = .ok (.int .i64 1) w := by kernel_rfl
theorem row_3_3 (w : World) : (Instr.index 152 (.agg #[.int .i64 0, .int .i64 0, .int .i64 1, .int .i64 0]) (.int .i64 3)).run Tryz.prog w = .ok (.int .i64 0) w := by kernel_rfl
theorem row_4_1 (w : World) : (Instr.index 152 (.agg #[.int .i64 0, .int .i64 2, .int .i64 0, .int .i64 0]) (.int .i64 1)).run Tryz.prog w = .ok (.int .i64 2) w := by kernel_rfl
theorem row_4_2 (w : World) : (Instr.index 152 (.agg #[.int .i64 0, .int .i64 2, .int .i64 0, .int .i64 0]) (.int .i64 2)).run Tryz.prog w = .ok (.int .i64 0) w := by kernel_rfl
theorem row_4_3 (w : World) : (Instr.index 152 (.agg #[.int .i64 0, .int .i64 2, .int .i64 0, .int .i64 0]) (.int .i64 3)).run Tryz.prog w = .ok (.int .i64 0) w := by kernel_rfl
theorem unary_1_1 (w : World) : Calls Tryz.prog 55 #[.int .i64 1, .int .i64 1] w fun e w' => e = .returned (.tuple #[.int .i64 1, .int .i64 0]) ∧ w = w' := by
 have hbig := big_1
 have hrow := row_1_1
 go_enter Tryz.func55, Tryz.ntmps55
 go_wp2_with (go_at_call 80; refine (qAq _ _ (by omega) (by omega)).mono ?_; rintro e w' ⟨rfl, rfl⟩)
 go_ret2
 exact ⟨rfl, rfl⟩
theorem unary_1_2 (w : World) : Calls Tryz.prog 55 #[.int .i64 1, .int .i64 2] w fun e w' => e = .returned (.tuple #[.int .i64 2, .int .i64 0]) ∧ w = w' := by
 have hbig := big_1
 have hrow := row_1_2
 go_enter Tryz.func55, Tryz.ntmps55
 go_wp2_with (go_at_call 80; refine (qAq _ _ (by omega) (by omega)).mono ?_; rintro e w' ⟨rfl, rfl⟩)
 go_ret2
 exact ⟨rfl, rfl⟩
theorem unary_1_3 (w : World) : Calls Tryz.prog 55 #[.int .i64 1, .int .i64 3] w fun e w' => e = .returned (.tuple #[.int .i64 0, .int .i64 22]) ∧ w = w' := by
 have hbig := big_1
 have hrow := row_1_3
 go_enter Tryz.func55, Tryz.ntmps55
 go_wp2_with (go_at_call 80; refine (qAq _ _ (by omega) (by omega)).mono ?_; rintro e w' ⟨rfl, rfl⟩)
 go_ret2
 exact ⟨rfl, rfl⟩
theorem unary_2_1 (w : World) : Calls Tryz.prog 55 #[.int .i64 2, .int .i64 1] w fun e w' => e = .returned (.tuple #[.int .i64 0, .int .i64 22]) ∧ w = w' := by
 have hbig := big_2
 have hrow := row_2_1
 go_enter Tryz.func55, Tryz.ntmps55
 go_wp2_with (go_at_call 80; refine (qAq _ _ (by omega) (by omega)).mono ?_; rintro e w' ⟨rfl, rfl⟩)
 go_ret2
 exact ⟨rfl, rfl⟩
theorem unary_2_2 (w : World) : Calls Tryz.prog 55 #[.int .i64 2, .int .i64 2] w fun e w' => e = .returned (.tuple #[.int .i64 0, .int .i64 22]) ∧ w = w' := by
 have hbig := big_2
 have hrow := row_2_2
 go_enter Tryz.func55, Tryz.ntmps55
 go_wp2_with (go_at_call 80; refine (qAq _ _ (by omega) (by omega)).mono ?_; rintro e w' ⟨rfl, rfl⟩)
 go_ret2
 exact ⟨rfl, rfl⟩
theorem unary_2_3 (w : World) : Calls Tryz.prog 55 #[.int .i64 2, .int .i64 3] w fun e w' => e = .returned (.tuple #[.int .i64 3, .int .i64 0]) ∧ w = w' := by
 have hbig := big_2
 have hrow := row_2_3
 go_enter Tryz.func55, Tryz.ntmps55
 go_wp2_with (go_at_call 80; refine (qAq _ _ (by omega) (by omega)).mono ?_; rintro e w' ⟨rfl, rfl⟩)
 go_ret2
 exact ⟨rfl, rfl⟩
theorem unary_3_1 (w : World) : Calls Tryz.prog 55 #[.int .i64 3, .int .i64 1] w fun e w' => e = .returned (.tuple #[.int .i64 0, .int .i64 22]) ∧ w = w' := by
 have hbig := big_3
 have hrow := row_3_1
 go_enter Tryz.func55, Tryz.ntmps55
 go_wp2_with (go_at_call 80; refine (qAq _ _ (by omega) (by omega)).mono ?_; rintro e w' ⟨rfl, rfl⟩)
 go_ret2
 exact ⟨rfl, rfl⟩
theorem unary_3_2 (w : World) : Calls Tryz.prog 55 #[.int .i64 3, .int .i64 2] w fun e w' => e = .returned (.tuple #[.int .i64 1, .int .i64 0]) ∧ w = w' := by
 have hbig := big_3
 have hrow := row_3_2
 go_enter Tryz.func55, Tryz.ntmps55
 go_wp2_with (go_at_call 80; refine (qAq _ _ (by omega) (by omega)).mono ?_; rintro e w' ⟨rfl, rfl⟩)
 go_ret2
 exact ⟨rfl, rfl⟩
theorem unary_3_3 (w : World) : Calls Tryz.prog 55 #[.int .i64 3, .int .i64 3] w fun e w' => e = .returned (.tuple #[.int .i64 0, .int .i64 22]) ∧ w = w' := by
 have hbig := big_3
 have hrow := row_3_3
 go_enter Tryz.func55, Tryz.ntmps55
 go_wp2_with (go_at_call 80; refine (qAq _ _ (by omega) (by omega)).mono ?_; rintro e w' ⟨rfl, rfl⟩)
 go_ret2
 exact ⟨rfl, rfl⟩
theorem unary_4_1 (w : World) : Calls Tryz.prog 55 #[.int .i64 4, .int .i64 1] w fun e w' => e = .returned (.tuple #[.int .i64 2, .int .i64 0]) ∧ w = w' := by
 have hbig := big_4
 have hrow := row_4_1
 go_enter Tryz.func55, Tryz.ntmps55
 go_wp2_with (go_at_call 80; refine (qAq _ _ (by omega) (by omega)).mono ?_; rintro e w' ⟨rfl, rfl⟩)
 go_ret2
 exact ⟨rfl, rfl⟩
theorem unary_4_2 (w : World) : Calls Tryz.prog 55 #[.int .i64 4, .int .i64 2] w fun e w' => e = .returned (.tuple #[.int .i64 0, .int .i64 22]) ∧ w = w' := by
 have hbig := big_4
 have hrow := row_4_2
 go_enter Tryz.func55, Tryz.ntmps55
 go_wp2_with (go_at_call 80; refine (qAq _ _ (by omega) (by omega)).mono ?_; rintro e w' ⟨rfl, rfl⟩)
 go_ret2
 exact ⟨rfl, rfl⟩
theorem unary_4_3 (w : World) : Calls Tryz.prog 55 #[.int .i64 4, .int .i64 3] w fun e w' => e = .returned (.tuple #[.int .i64 0, .int .i64 22]) ∧ w = w' := by
 have hbig := big_4
 have hrow := row_4_3
 go_enter Tryz.func55, Tryz.ntmps55
 go_wp2_with (go_at_call 80; refine (qAq _ _ (by omega) (by omega)).mono ?_; rintro e w' ⟨rfl, rfl⟩)
 go_ret2
 exact ⟨rfl, rfl⟩
def unary (op t : Int) : Int × Int :=
 if op < 1 ∨ 4 < op then (0, 1)
 else if t < 1 ∨ 3 < t then (0, 22)
 else if op = 1 ∧ t = 1 then (1, 0)
 else if op = 1 ∧ t = 2 then (2, 0)
 else if op = 2 ∧ t = 3 then (3, 0)
 else if op = 3 ∧ t = 2 then (1, 0)
 else if op = 4 ∧ t = 1 then (2, 0)
 else (0, 22)
theorem unary_any (op t : Int) (w : World) : Calls Tryz.prog 55 #[.int .i64 op, .int .i64 t] w fun e w' => e = .returned (.tuple #[.int .i64 (unary op t).1, .int .i64 (unary op t).2]) ∧ w = w' := by
 by_cases h : op < 1 ∨ 4 < op
 ·have e : unary op t = (0, 1) := by unfold unary; rw [if_pos h]
  rw [e]
  exact unary_arg op t w h
 by_cases k : t < 1 ∨ 3 < t
 ·have e : unary op t = (0, 22) := by unfold unary; rw [if_neg h, if_pos k]
  rw [e]
  exact unary_type op t w (by omega) (by omega) k
 have ho : op = 1 ∨ op = 2 ∨ op = 3 ∨ op = 4 := by omega
 have ht : t = 1 ∨ t = 2 ∨ t = 3 := by omega
 rcases ho with rfl | rfl | rfl | rfl <;> rcases ht with rfl | rfl | rfl
 ·exact unary_1_1 w
 ·exact unary_1_2 w
 ·exact unary_1_3 w
 ·exact unary_2_1 w
 ·exact unary_2_2 w
 ·exact unary_2_3 w
 ·exact unary_3_1 w
 ·exact unary_3_2 w
 ·exact unary_3_3 w
 ·exact unary_4_1 w
 ·exact unary_4_2 w
 exact unary_4_3 w
end Ty1
end
section
namespace Ty2
open Go.RowKit Ty1
def binary (op a b : Int) : Int × Int :=
 if op < 1 ∨ 13 < op then (0, 1)
 else if a ≠ b ∨ (a < 1 ∨ 3 < a) then (0, 22)
 else if op ≤ 4 then (if a = 3 then (0, 22) else (a, 0))
 else if op = 5 then (if a = 1 then (1, 0) else (0, 22))
 else if op ≤ 7 then (3, 0)
 else if op ≤ 11 then (if a = 3 then (0, 22) else (3, 0))
 else (if a = 3 then (3, 0) else (0, 22))
theorem binary_arg (op a b : Int) (w : World) (h : op < 1 ∨ 13 < op) : Calls Tryz.prog 56 #[.int .i64 op, .int .i64 a, .int .i64 b] w fun e w' => e = .returned (.tuple #[.int .i64 0, .int .i64 1]) ∧ w = w' := by
 rcases h with h | h
 ·have hb : decide (op < 1) = true := decide_eq_true h
  go_enter Tryz.func56, Tryz.ntmps56
  go_wp2
  go_ret2
  exact ⟨rfl, rfl⟩
 have hb : decide (op < 1) = false := decide_eq_false (by omega)
 have hc : decide (13 < op) = true := decide_eq_true h
 go_enter Tryz.func56, Tryz.ntmps56
 go_wp2
 go_ret2
 exact ⟨rfl, rfl⟩
theorem binary_ne (op a b : Int) (w : World) (h1 : 1 ≤ op) (h2 : op ≤ 13) (h : a ≠ b) : Calls Tryz.prog 56 #[.int .i64 op, .int .i64 a, .int .i64 b] w fun e w' => e = .returned (.tuple #[.int .i64 0, .int .i64 22]) ∧ w = w' := by
 have hb : decide (op < 1) = false := decide_eq_false (by omega)
 have hc : decide (13 < op) = false := decide_eq_false (by omega)
 have hd : (a != b) = true := bne_iff_ne.mpr h
 go_enter Tryz.func56, Tryz.ntmps56
 go_wp2
 go_ret2
 exact ⟨rfl, rfl⟩
theorem binary_type (op a : Int) (w : World) (h1 : 1 ≤ op) (h2 : op ≤ 13) (h : a < 1 ∨ 3 < a) : Calls Tryz.prog 56 #[.int .i64 op, .int .i64 a, .int .i64 a] w fun e w' => e = .returned (.tuple #[.int .i64 0, .int .i64 22]) ∧ w = w' := by
 have hb : decide (op < 1) = false := decide_eq_false (by omega)
 have hc : decide (13 < op) = false := decide_eq_false (by omega)
 have hd : (a != a) = false := by simp
 go_enter Tryz.func56, Tryz.ntmps56
 go_wp2_with (go_at_call 80; refine (valued_no _ _ h).mono ?_; rintro e w' ⟨rfl, rfl⟩)
 go_ret2
 exact ⟨rfl, rfl⟩
theorem binary_1_1 (w : World) : Calls Tryz.prog 56 #[.int .i64 1, .int .i64 1, .int .i64 1] w fun e w' => e = .returned (.tuple #[.int .i64 1, .int .i64 0]) ∧ w = w' := by
 go_enter Tryz.func56, Tryz.ntmps56
 go_wp2_with (go_at_call 80; refine (qAq _ _ (by omega) (by omega)).mono ?_; rintro e w' ⟨rfl, rfl⟩)
 go_ret2
 exact ⟨rfl, rfl⟩
theorem binary_1_2 (w : World) : Calls Tryz.prog 56 #[.int .i64 1, .int .i64 2, .int .i64 2] w fun e w' => e = .returned (.tuple #[.int .i64 2, .int .i64 0]) ∧ w = w' := by
 go_enter Tryz.func56, Tryz.ntmps56
 go_wp2_with (go_at_call 80; refine (qAq _ _ (by omega) (by omega)).mono ?_; rintro e w' ⟨rfl, rfl⟩)
 go_ret2
 exact ⟨rfl, rfl⟩
theorem binary_1_3 (w : World) : Calls Tryz.prog 56 #[.int .i64 1, .int .i64 3, .int .i64 3] w fun e w' => e = .returned (.tuple #[.int .i64 0, .int .i64 22]) ∧ w = w' := by
 go_enter Tryz.func56, Tryz.ntmps56
 go_wp2_with (go_at_call 80; refine (qAq _ _ (by omega) (by omega)).mono ?_; rintro e w' ⟨rfl, rfl⟩)
 go_ret2
 exact ⟨rfl, rfl⟩
theorem binary_2_1 (w : World) : Calls Tryz.prog 56 #[.int .i64 2, .int .i64 1, .int .i64 1] w fun e w' => e = .returned (.tuple #[.int .i64 1, .int .i64 0]) ∧ w = w' := by
 go_enter Tryz.func56, Tryz.ntmps56
 go_wp2_with (go_at_call 80; refine (qAq _ _ (by omega) (by omega)).mono ?_; rintro e w' ⟨rfl, rfl⟩)
 go_ret2
 exact ⟨rfl, rfl⟩
theorem binary_2_2 (w : World) : Calls Tryz.prog 56 #[.int .i64 2, .int .i64 2, .int .i64 2] w fun e w' => e = .returned (.tuple #[.int .i64 2, .int .i64 0]) ∧ w = w' := by
 go_enter Tryz.func56, Tryz.ntmps56
 go_wp2_with (go_at_call 80; refine (qAq _ _ (by omega) (by omega)).mono ?_; rintro e w' ⟨rfl, rfl⟩)
 go_ret2
 exact ⟨rfl, rfl⟩
theorem binary_2_3 (w : World) : Calls Tryz.prog 56 #[.int .i64 2, .int .i64 3, .int .i64 3] w fun e w' => e = .returned (.tuple #[.int .i64 0, .int .i64 22]) ∧ w = w' := by
 go_enter Tryz.func56, Tryz.ntmps56
 go_wp2_with (go_at_call 80; refine (qAq _ _ (by omega) (by omega)).mono ?_; rintro e w' ⟨rfl, rfl⟩)
 go_ret2
 exact ⟨rfl, rfl⟩
theorem binary_3_1 (w : World) : Calls Tryz.prog 56 #[.int .i64 3, .int .i64 1, .int .i64 1] w fun e w' => e = .returned (.tuple #[.int .i64 1, .int .i64 0]) ∧ w = w' := by
 go_enter Tryz.func56, Tryz.ntmps56
 go_wp2_with (go_at_call 80; refine (qAq _ _ (by omega) (by omega)).mono ?_; rintro e w' ⟨rfl, rfl⟩)
 go_ret2
 exact ⟨rfl, rfl⟩
theorem binary_3_2 (w : World) : Calls Tryz.prog 56 #[.int .i64 3, .int .i64 2, .int .i64 2] w fun e w' => e = .returned (.tuple #[.int .i64 2, .int .i64 0]) ∧ w = w' := by
 go_enter Tryz.func56, Tryz.ntmps56
 go_wp2_with (go_at_call 80; refine (qAq _ _ (by omega) (by omega)).mono ?_; rintro e w' ⟨rfl, rfl⟩)
 go_ret2
 exact ⟨rfl, rfl⟩
theorem binary_3_3 (w : World) : Calls Tryz.prog 56 #[.int .i64 3, .int .i64 3, .int .i64 3] w fun e w' => e = .returned (.tuple #[.int .i64 0, .int .i64 22]) ∧ w = w' := by
 go_enter Tryz.func56, Tryz.ntmps56
 go_wp2_with (go_at_call 80; refine (qAq _ _ (by omega) (by omega)).mono ?_; rintro e w' ⟨rfl, rfl⟩)
 go_ret2
 exact ⟨rfl, rfl⟩
theorem binary_4_1 (w : World) : Calls Tryz.prog 56 #[.int .i64 4, .int .i64 1, .int .i64 1] w fun e w' => e = .returned (.tuple #[.int .i64 1, .int .i64 0]) ∧ w = w' := by
 go_enter Tryz.func56, Tryz.ntmps56
 go_wp2_with (go_at_call 80; refine (qAq _ _ (by omega) (by omega)).mono ?_; rintro e w' ⟨rfl, rfl⟩)
 go_ret2
 exact ⟨rfl, rfl⟩
theorem binary_4_2 (w : World) : Calls Tryz.prog 56 #[.int .i64 4, .int .i64 2, .int .i64 2] w fun e w' => e = .returned (.tuple #[.int .i64 2, .int .i64 0]) ∧ w = w' := by
 go_enter Tryz.func56, Tryz.ntmps56
 go_wp2_with (go_at_call 80; refine (qAq _ _ (by omega) (by omega)).mono ?_; rintro e w' ⟨rfl, rfl⟩)
 go_ret2
 exact ⟨rfl, rfl⟩
theorem binary_4_3 (w : World) : Calls Tryz.prog 56 #[.int .i64 4, .int .i64 3, .int .i64 3] w fun e w' => e = .returned (.tuple #[.int .i64 0, .int .i64 22]) ∧ w = w' := by
 go_enter Tryz.func56, Tryz.ntmps56
 go_wp2_with (go_at_call 80; refine (qAq _ _ (by omega) (by omega)).mono ?_; rintro e w' ⟨rfl, rfl⟩)
 go_ret2
 exact ⟨rfl, rfl⟩
theorem binary_5_1 (w : World) : Calls Tryz.prog 56 #[.int .i64 5, .int .i64 1, .int .i64 1] w fun e w' => e = .returned (.tuple #[.int .i64 1, .int .i64 0]) ∧ w = w' := by
 go_enter Tryz.func56, Tryz.ntmps56
 go_wp2_with (go_at_call 80; refine (qAq _ _ (by omega) (by omega)).mono ?_; rintro e w' ⟨rfl, rfl⟩)
 go_ret2
 exact ⟨rfl, rfl⟩
theorem binary_5_2 (w : World) : Calls Tryz.prog 56 #[.int .i64 5, .int .i64 2, .int .i64 2] w fun e w' => e = .returned (.tuple #[.int .i64 0, .int .i64 22]) ∧ w = w' := by
 go_enter Tryz.func56, Tryz.ntmps56
 go_wp2_with (go_at_call 80; refine (qAq _ _ (by omega) (by omega)).mono ?_; rintro e w' ⟨rfl, rfl⟩)
 go_ret2
 exact ⟨rfl, rfl⟩
theorem binary_5_3 (w : World) : Calls Tryz.prog 56 #[.int .i64 5, .int .i64 3, .int .i64 3] w fun e w' => e = .returned (.tuple #[.int .i64 0, .int .i64 22]) ∧ w = w' := by
 go_enter Tryz.func56, Tryz.ntmps56
 go_wp2_with (go_at_call 80; refine (qAq _ _ (by omega) (by omega)).mono ?_; rintro e w' ⟨rfl, rfl⟩)
 go_ret2
 exact ⟨rfl, rfl⟩
theorem binary_6_1 (w : World) : Calls Tryz.prog 56 #[.int .i64 6, .int .i64 1, .int .i64 1] w fun e w' => e = .returned (.tuple #[.int .i64 3, .int .i64 0]) ∧ w = w' := by
 go_enter Tryz.func56, Tryz.ntmps56
 go_wp2_with (go_at_call 80; refine (qAq _ _ (by omega) (by omega)).mono ?_; rintro e w' ⟨rfl, rfl⟩)
 go_ret2
 exact ⟨rfl, rfl⟩
theorem binary_6_2 (w : World) : Calls Tryz.prog 56 #[.int .i64 6, .int .i64 2, .int .i64 2] w fun e w' => e = .returned (.tuple #[.int .i64 3, .int .i64 0]) ∧ w = w' := by
 go_enter Tryz.func56, Tryz.ntmps56
 go_wp2_with (go_at_call 80; refine (qAq _ _ (by omega) (by omega)).mono ?_; rintro e w' ⟨rfl, rfl⟩)
 go_ret2
 exact ⟨rfl, rfl⟩
theorem binary_6_3 (w : World) : Calls Tryz.prog 56 #[.int .i64 6, .int .i64 3, .int .i64 3] w fun e w' => e = .returned (.tuple #[.int .i64 3, .int .i64 0]) ∧ w = w' := by
 go_enter Tryz.func56, Tryz.ntmps56
 go_wp2_with (go_at_call 80; refine (qAq _ _ (by omega) (by omega)).mono ?_; rintro e w' ⟨rfl, rfl⟩)
 go_ret2
 exact ⟨rfl, rfl⟩
theorem binary_7_1 (w : World) : Calls Tryz.prog 56 #[.int .i64 7, .int .i64 1, .int .i64 1] w fun e w' => e = .returned (.tuple #[.int .i64 3, .int .i64 0]) ∧ w = w' := by
 go_enter Tryz.func56, Tryz.ntmps56
 go_wp2_with (go_at_call 80; refine (qAq _ _ (by omega) (by omega)).mono ?_; rintro e w' ⟨rfl, rfl⟩)
 go_ret2
 exact ⟨rfl, rfl⟩
theorem binary_7_2 (w : World) : Calls Tryz.prog 56 #[.int .i64 7, .int .i64 2, .int .i64 2] w fun e w' => e = .returned (.tuple #[.int .i64 3, .int .i64 0]) ∧ w = w' := by
 go_enter Tryz.func56, Tryz.ntmps56
 go_wp2_with (go_at_call 80; refine (qAq _ _ (by omega) (by omega)).mono ?_; rintro e w' ⟨rfl, rfl⟩)
 go_ret2
 exact ⟨rfl, rfl⟩
theorem binary_7_3 (w : World) : Calls Tryz.prog 56 #[.int .i64 7, .int .i64 3, .int .i64 3] w fun e w' => e = .returned (.tuple #[.int .i64 3, .int .i64 0]) ∧ w = w' := by
 go_enter Tryz.func56, Tryz.ntmps56
 go_wp2_with (go_at_call 80; refine (qAq _ _ (by omega) (by omega)).mono ?_; rintro e w' ⟨rfl, rfl⟩)
 go_ret2
 exact ⟨rfl, rfl⟩
theorem binary_8_1 (w : World) : Calls Tryz.prog 56 #[.int .i64 8, .int .i64 1, .int .i64 1] w fun e w' => e = .returned (.tuple #[.int .i64 3, .int .i64 0]) ∧ w = w' := by
 go_enter Tryz.func56, Tryz.ntmps56
 go_wp2_with (go_at_call 80; refine (qAq _ _ (by omega) (by omega)).mono ?_; rintro e w' ⟨rfl, rfl⟩)
 go_ret2
 exact ⟨rfl, rfl⟩
theorem binary_8_2 (w : World) : Calls Tryz.prog 56 #[.int .i64 8, .int .i64 2, .int .i64 2] w fun e w' => e = .returned (.tuple #[.int .i64 3, .int .i64 0]) ∧ w = w' := by
 go_enter Tryz.func56, Tryz.ntmps56
 go_wp2_with (go_at_call 80; refine (qAq _ _ (by omega) (by omega)).mono ?_; rintro e w' ⟨rfl, rfl⟩)
 go_ret2
 exact ⟨rfl, rfl⟩
theorem binary_8_3 (w : World) : Calls Tryz.prog 56 #[.int .i64 8, .int .i64 3, .int .i64 3] w fun e w' => e = .returned (.tuple #[.int .i64 0, .int .i64 22]) ∧ w = w' := by
 go_enter Tryz.func56, Tryz.ntmps56
 go_wp2_with (go_at_call 80; refine (qAq _ _ (by omega) (by omega)).mono ?_; rintro e w' ⟨rfl, rfl⟩)
 go_ret2
 exact ⟨rfl, rfl⟩
theorem binary_9_1 (w : World) : Calls Tryz.prog 56 #[.int .i64 9, .int .i64 1, .int .i64 1] w fun e w' => e = .returned (.tuple #[.int .i64 3, .int .i64 0]) ∧ w = w' := by
 go_enter Tryz.func56, Tryz.ntmps56
 go_wp2_with (go_at_call 80; refine (qAq _ _ (by omega) (by omega)).mono ?_; rintro e w' ⟨rfl, rfl⟩)
 go_ret2
 exact ⟨rfl, rfl⟩
theorem binary_9_2 (w : World) : Calls Tryz.prog 56 #[.int .i64 9, .int .i64 2, .int .i64 2] w fun e w' => e = .returned (.tuple #[.int .i64 3, .int .i64 0]) ∧ w = w' := by
 go_enter Tryz.func56, Tryz.ntmps56
 go_wp2_with (go_at_call 80; refine (qAq _ _ (by omega) (by omega)).mono ?_; rintro e w' ⟨rfl, rfl⟩)
 go_ret2
 exact ⟨rfl, rfl⟩
theorem binary_9_3 (w : World) : Calls Tryz.prog 56 #[.int .i64 9, .int .i64 3, .int .i64 3] w fun e w' => e = .returned (.tuple #[.int .i64 0, .int .i64 22]) ∧ w = w' := by
 go_enter Tryz.func56, Tryz.ntmps56
 go_wp2_with (go_at_call 80; refine (qAq _ _ (by omega) (by omega)).mono ?_; rintro e w' ⟨rfl, rfl⟩)
 go_ret2
 exact ⟨rfl, rfl⟩
theorem binary_10_1 (w : World) : Calls Tryz.prog 56 #[.int .i64 10, .int .i64 1, .int .i64 1] w fun e w' => e = .returned (.tuple #[.int .i64 3, .int .i64 0]) ∧ w = w' := by
 go_enter Tryz.func56, Tryz.ntmps56
 go_wp2_with (go_at_call 80; refine (qAq _ _ (by omega) (by omega)).mono ?_; rintro e w' ⟨rfl, rfl⟩)
 go_ret2
 exact ⟨rfl, rfl⟩
theorem binary_10_2 (w : World) : Calls Tryz.prog 56 #[.int .i64 10, .int .i64 2, .int .i64 2] w fun e w' => e = .returned (.tuple #[.int .i64 3, .int .i64 0]) ∧ w = w' := by
 go_enter Tryz.func56, Tryz.ntmps56
 go_wp2_with (go_at_call 80; refine (qAq _ _ (by omega) (by omega)).mono ?_; rintro e w' ⟨rfl, rfl⟩)
 go_ret2
 exact ⟨rfl, rfl⟩
theorem binary_10_3 (w : World) : Calls Tryz.prog 56 #[.int .i64 10, .int .i64 3, .int .i64 3] w fun e w' => e = .returned (.tuple #[.int .i64 0, .int .i64 22]) ∧ w = w' := by
 go_enter Tryz.func56, Tryz.ntmps56
 go_wp2_with (go_at_call 80; refine (qAq _ _ (by omega) (by omega)).mono ?_; rintro e w' ⟨rfl, rfl⟩)
 go_ret2
 exact ⟨rfl, rfl⟩
theorem binary_11_1 (w : World) : Calls Tryz.prog 56 #[.int .i64 11, .int .i64 1, .int .i64 1] w fun e w' => e = .returned (.tuple #[.int .i64 3, .int .i64 0]) ∧ w = w' := by
 go_enter Tryz.func56, Tryz.ntmps56
 go_wp2_with (go_at_call 80; refine (qAq _ _ (by omega) (by omega)).mono ?_; rintro e w' ⟨rfl, rfl⟩)
 go_ret2
 exact ⟨rfl, rfl⟩
theorem binary_11_2 (w : World) : Calls Tryz.prog 56 #[.int .i64 11, .int .i64 2, .int .i64 2] w fun e w' => e = .returned (.tuple #[.int .i64 3, .int .i64 0]) ∧ w = w' := by
 go_enter Tryz.func56, Tryz.ntmps56
 go_wp2_with (go_at_call 80; refine (qAq _ _ (by omega) (by omega)).mono ?_; rintro e w' ⟨rfl, rfl⟩)
 go_ret2
 exact ⟨rfl, rfl⟩
theorem binary_11_3 (w : World) : Calls Tryz.prog 56 #[.int .i64 11, .int .i64 3, .int .i64 3] w fun e w' => e = .returned (.tuple #[.int .i64 0, .int .i64 22]) ∧ w = w' := by
 go_enter Tryz.func56, Tryz.ntmps56
 go_wp2_with (go_at_call 80; refine (qAq _ _ (by omega) (by omega)).mono ?_; rintro e w' ⟨rfl, rfl⟩)
 go_ret2
 exact ⟨rfl, rfl⟩
theorem binary_12_1 (w : World) : Calls Tryz.prog 56 #[.int .i64 12, .int .i64 1, .int .i64 1] w fun e w' => e = .returned (.tuple #[.int .i64 0, .int .i64 22]) ∧ w = w' := by
 go_enter Tryz.func56, Tryz.ntmps56
 go_wp2_with (go_at_call 80; refine (qAq _ _ (by omega) (by omega)).mono ?_; rintro e w' ⟨rfl, rfl⟩)
 go_ret2
 exact ⟨rfl, rfl⟩
theorem binary_12_2 (w : World) : Calls Tryz.prog 56 #[.int .i64 12, .int .i64 2, .int .i64 2] w fun e w' => e = .returned (.tuple #[.int .i64 0, .int .i64 22]) ∧ w = w' := by
 go_enter Tryz.func56, Tryz.ntmps56
 go_wp2_with (go_at_call 80; refine (qAq _ _ (by omega) (by omega)).mono ?_; rintro e w' ⟨rfl, rfl⟩)
 go_ret2
 exact ⟨rfl, rfl⟩
theorem binary_12_3 (w : World) : Calls Tryz.prog 56 #[.int .i64 12, .int .i64 3, .int .i64 3] w fun e w' => e = .returned (.tuple #[.int .i64 3, .int .i64 0]) ∧ w = w' := by
 go_enter Tryz.func56, Tryz.ntmps56
 go_wp2_with (go_at_call 80; refine (qAq _ _ (by omega) (by omega)).mono ?_; rintro e w' ⟨rfl, rfl⟩)
 go_ret2
 exact ⟨rfl, rfl⟩
theorem binary_13_1 (w : World) : Calls Tryz.prog 56 #[.int .i64 13, .int .i64 1, .int .i64 1] w fun e w' => e = .returned (.tuple #[.int .i64 0, .int .i64 22]) ∧ w = w' := by
 go_enter Tryz.func56, Tryz.ntmps56
 go_wp2_with (go_at_call 80; refine (qAq _ _ (by omega) (by omega)).mono ?_; rintro e w' ⟨rfl, rfl⟩)
 go_ret2
 exact ⟨rfl, rfl⟩
theorem binary_13_2 (w : World) : Calls Tryz.prog 56 #[.int .i64 13, .int .i64 2, .int .i64 2] w fun e w' => e = .returned (.tuple #[.int .i64 0, .int .i64 22]) ∧ w = w' := by
 go_enter Tryz.func56, Tryz.ntmps56
 go_wp2_with (go_at_call 80; refine (qAq _ _ (by omega) (by omega)).mono ?_; rintro e w' ⟨rfl, rfl⟩)
 go_ret2
 exact ⟨rfl, rfl⟩
theorem binary_13_3 (w : World) : Calls Tryz.prog 56 #[.int .i64 13, .int .i64 3, .int .i64 3] w fun e w' => e = .returned (.tuple #[.int .i64 3, .int .i64 0]) ∧ w = w' := by
 go_enter Tryz.func56, Tryz.ntmps56
 go_wp2_with (go_at_call 80; refine (qAq _ _ (by omega) (by omega)).mono ?_; rintro e w' ⟨rfl, rfl⟩)
 go_ret2
 exact ⟨rfl, rfl⟩
theorem binary_any (op a b : Int) (w : World) : Calls Tryz.prog 56 #[.int .i64 op, .int .i64 a, .int .i64 b] w fun e w' => e = .returned (.tuple #[.int .i64 (binary op a b).1, .int .i64 (binary op a b).2]) ∧ w = w' := by
 by_cases h : op < 1 ∨ 13 < op
 ·have e : binary op a b = (0, 1) := by unfold binary; rw [if_pos h]
  rw [e]
  exact binary_arg op a b w h
 by_cases hne : a ≠ b
 ·have e : binary op a b = (0, 22) := by unfold binary; rw [if_neg h, if_pos (Or.inl hne)]
  rw [e]
  exact binary_ne op a b w (by omega) (by omega) hne
 obtain rfl : a = b := by omega
 by_cases k : a < 1 ∨ 3 < a
 ·have e : binary op a a = (0, 22) := by unfold binary; rw [if_neg h, if_pos (Or.inr k)]
  rw [e]
  exact binary_type op a w (by omega) (by omega) k
 have ho : op = 1 ∨ op = 2 ∨ op = 3 ∨ op = 4 ∨ op = 5 ∨ op = 6 ∨ op = 7 ∨ op = 8 ∨ op = 9 ∨ op = 10 ∨ op = 11 ∨ op = 12 ∨ op = 13 := by omega
 have ht : a = 1 ∨ a = 2 ∨ a = 3 := by omega
 rcases ho with rfl | rfl | rfl | rfl | rfl | rfl | rfl | rfl | rfl | rfl | rfl | rfl | rfl <;> rcases ht with rfl | rfl | rfl
 ·exact binary_1_1 w
 ·exact binary_1_2 w
 ·exact binary_1_3 w
 ·exact binary_2_1 w
 ·exact binary_2_2 w
 ·exact binary_2_3 w
 ·exact binary_3_1 w
 ·exact binary_3_2 w
 ·exact binary_3_3 w
 ·exact binary_4_1 w
 ·exact binary_4_2 w
 ·exact binary_4_3 w
 ·exact binary_5_1 w
 ·exact binary_5_2 w
 ·exact binary_5_3 w
 ·exact binary_6_1 w
 ·exact binary_6_2 w
 ·exact binary_6_3 w
 ·exact binary_7_1 w
 ·exact binary_7_2 w
 ·exact binary_7_3 w
 ·exact binary_8_1 w
 ·exact binary_8_2 w
 ·exact binary_8_3 w
 ·exact binary_9_1 w
 ·exact binary_9_2 w
 ·exact binary_9_3 w
 ·exact binary_10_1 w
 ·exact binary_10_2 w
 ·exact binary_10_3 w
 ·exact binary_11_1 w
 ·exact binary_11_2 w
 ·exact binary_11_3 w
 ·exact binary_12_1 w
 ·exact binary_12_2 w
 ·exact binary_12_3 w
 ·exact binary_13_1 w
 ·exact binary_13_2 w
 exact binary_13_3 w
end Ty2
end
section
namespace Q
open Go.RowKit YA YC YB
def qDm (op n : Int) (st : List Int) : Bool × List Int :=
 if st.getLast?.isSome = true then
  if op == 7 then
   if st.dropLast.getLast?.isSome = true then ((Ty2.binary n (st.dropLast.getLast?.getD 0) (st.getLast?.getD 0)).2 == 0, st.dropLast.dropLast ++ [(Ty2.binary n (st.dropLast.getLast?.getD 0) (st.getLast?.getD 0)).1])
   else (false, st.dropLast.dropLast)
  else ((Ty1.unary n (st.getLast?.getD 0)).2 == 0, st.dropLast ++ [(Ty1.unary n (st.getLast?.getD 0)).1])
 else (false, st.dropLast)
theorem operate_o {g : Nat} {m : Bool} {st : List Int} {tr : List S160} {S okT : Nat → Prop} {W : World} (op n ty bb : Int) (H : ShO W g m st tr S okT) (hl : st.length ≤ 2000000) (hfr : ∀ k, W.heap.size ≤ k → S k) :
  Calls Tryz.prog 115 #[.agg #[.int .i64 op, .int .i64 n, .int .i64 ty, .int .u64 bb], .pointer (some ⟨g, 0, none⟩)] W fun e w' => e = .returned (.bool (qDm op n st).1) ∧ ShO w' g m (qDm op n st).2 tr S okT ∧ Fr W w' S := by
 obtain ⟨x1, hx1⟩ : ∃ x, x = st.getLast?.getD 0 := ⟨_, rfl⟩
 obtain ⟨b1, hb1⟩ : ∃ b, b = st.getLast?.isSome := ⟨_, rfl⟩
 obtain ⟨st1, hst1⟩ : ∃ sd, sd = st.dropLast := ⟨_, rfl⟩
 obtain ⟨x2, hx2⟩ : ∃ x, x = st1.getLast?.getD 0 := ⟨_, rfl⟩
 obtain ⟨b2, hb2⟩ : ∃ b, b = st1.getLast?.isSome := ⟨_, rfl⟩
 obtain ⟨st2, hst2⟩ : ∃ sd, sd = st1.dropLast := ⟨_, rfl⟩
 obtain ⟨ut, hut⟩ : ∃ t, t = (Ty1.unary n x1).1 := ⟨_, rfl⟩
 obtain ⟨ue, hue⟩ : ∃ t, t = (Ty1.unary n x1).2 := ⟨_, rfl⟩
 obtain ⟨bt, hbt⟩ : ∃ t, t = (Ty2.binary n x2 x1).1 := ⟨_, rfl⟩
 obtain ⟨be, hbe⟩ : ∃ t, t = (Ty2.binary n x2 x1).2 := ⟨_, rfl⟩
 obtain ⟨rr, hrr⟩ : ∃ rr, rr = qDm op n st := ⟨_, rfl⟩
 have hr : qDm op n st = if b1 = true then (if op == 7 then (if b2 = true then (be == 0, st2 ++ [bt]) else (false, st2)) else (ue == 0, st1 ++ [ut])) else (false, st1) := by
  rw [hbe, hbt, hue, hut, hst2, hb2, hx2, hst1, hb1, hx1]; rfl
 rw [← hrr]
 rw [← hrr] at hr
 have HRR := am hr
 clear hr hrr
 have h1 : st1.length ≤ 2000000 := by rw [hst1]; simp; omega
 have h2 : st2.length ≤ 2000000 := by rw [hst2]; simp; omega
 obtain ⟨S1, hS1⟩ : ∃ S1, S1 = (fun q => (S q ∧ q < W.heap.size) ∨ (W.alloc (.cells #[.int .i64 op, .int .i64 n, .int .i64 ty, .int .u64 bb] 51)).heap.size ≤ q) := ⟨_, rfl⟩
 have hn1 : ¬ S1 W.heap.size := by rw [hS1]; simp
 have hf1 : ∀ k, W.heap.size + 1 ≤ k → S1 k := by rw [hS1]; intro k hk; simp; omega
 have hs1 : ∀ k, S1 k → S k := by rw [hS1]; intro k hk; simp at hk; rcases hk with h | h; exact h.1; exact hfr k (by omega)
 have HC1 : qAi (Calls Tryz.prog 114 #[.pointer (some ⟨g, 0, none⟩)] (W.alloc (.cells #[.int .i64 op, .int .i64 n, .int .i64 ty, .int .u64 bb] 51)) fun e w' => e = .returned (.tuple #[.int .i64 x1, .bool b1]) ∧ ShO w' g m st1 tr S1 okT ∧ Fr (W.alloc (.cells #[.int .i64 op, .int .i64 n, .int .i64 ty, .int .u64 bb] 51)) w' S1) :=
  ⟨by have := take_o (H.below ((Below.refl _ _).alloc (Nat.le_refl _) (.cells #[.int .i64 op, .int .i64 n, .int .i64 ty, .int .u64 bb] 51))) hl; unfold topV at this; rw [← hx1, ← hb1, ← hst1, ← hS1] at this; exact this⟩
 have HC2 : qAi (∀ W', ShO W' g m st1 tr S1 okT → Calls Tryz.prog 114 #[.pointer (some ⟨g, 0, none⟩)] W' fun e w' => e = .returned (.tuple #[.int .i64 x2, .bool b2]) ∧ ShO w' g m st2 tr S1 okT ∧ Fr W' w' S1) :=
  ⟨fun W' hW => by have := take_o hW h1; unfold topV at this; rw [← hx2, ← hb2, ← hst2] at this; exact this⟩
 have HU : qAi (∀ W', Calls Tryz.prog 55 #[.int .i64 n, .int .i64 x1] W' fun e w' => e = .returned (.tuple #[.int .i64 ut, .int .i64 ue]) ∧ W' = w') := ⟨fun W' => by rw [hut, hue]; exact Ty1.unary_any n x1 W'⟩
 have HB : qAi (∀ W', Calls Tryz.prog 56 #[.int .i64 n, .int .i64 x2, .int .i64 x1] W' fun e w' => e = .returned (.tuple #[.int .i64 bt, .int .i64 be]) ∧ W' = w') := ⟨fun W' => by rw [hbt, hbe]; exact Ty2.binary_any n x2 x1 W'⟩
 have HE : qAi (∀ w' st', ShO w' g m st' tr S1 okT → Fr (W.alloc (.cells #[.int .i64 op, .int .i64 n, .int .i64 ty, .int .u64 bb] 51)) w' S1 → ShO w' g m st' tr S okT ∧ Fr W w' S) :=
  ⟨fun w' st' h k => ⟨h.mono hs1 (fun _ h => h), (Fr.of_below ((Below.refl _ _).alloc (Nat.le_refl _) _)).then_ k (fun q hq => .inl (hs1 q hq))⟩⟩
 have HL1 := am h1
 have HL2 := am h2
 have HN1 := am hn1
 have HF1 := am hf1
 have hgl : g < W.heap.size := H.lt
 have HH := am H
 clear H hl h1 h2 hx1 hb1 hst1 hx2 hb2 hst2 hut hue hbt hbe hS1 hn1 hf1
 go_enter Tryz.func115, Tryz.ntmps115
 go_wp2_with (first
   | (go_at_call 114; refine HC1.out.mono ?_; clear HC1; rintro e w1 ⟨rfl, hS1, hb1⟩; have HS1 := am hS1; have HB1 := am hb1; have hbx := hb1.blk (qAF W _) HN1.out; have ea0 := (qAc hbx 0).trans rfl; have ea1 := (qAc hbx 1).trans rfl; obtain ⟨u1, u2, hV⟩ := hS1; have HV := am hV; have eg1 := (qAc hV.1 1).trans rfl; have hsz1 := hb1.size; clear hV hb1)
   | (go_at_call 114; refine (HC2.out _ HS1.out).mono ?_; clear HC2 eg1; rintro e w2 ⟨rfl, hS2, hb2⟩; have HS2 := am hS2; have HB2 := am hb2; have hbx2 := hb2.blk hbx HN1.out; have eb0 := (qAc hbx2 0).trans rfl; have eb1 := (qAc hbx2 1).trans rfl; obtain ⟨u1', u2', hV2⟩ := hS2; have HV2 := am hV2; have eg2 := (qAc hV2.1 1).trans rfl; have hsz2 := hb2.size; clear hV2 hb2)
   | (go_at_call 55; refine (HU.out _).mono ?_; rintro e w3 ⟨rfl, rfl⟩)
   | (go_at_call 56; refine (HB.out _).mono ?_; rintro e w3 ⟨rfl, rfl⟩)
   | (at_builtin; refine qCF HV2.out bt rfl _ _ rfl rfl rfl (fun k hk => HF1.out k (by simp at hsz1; omega)) HL2.out ?_; intro A3 c3 w3 h5 h5b h6 h7; have H6 := am h6; have H7 := am h7; have eg3 := (qAc h5 1).trans rfl; have ef3 := qAm h5 1; clear h5 h5b h6 h7)
   | (at_builtin; refine qCF HV.out ut rfl _ _ rfl rfl rfl (fun k hk => HF1.out k (by simp at hsz1; omega)) HL1.out ?_; intro A3 c3 w3 h5 h5b h6 h7; have H6 := am h6; have H7 := am h7; have eg3 := (qAc h5 1).trans rfl; have ef3 := qAm h5 1; clear h5 h5b h6 h7))
 ·have e1 : b1 = false := by simp_all only [Bool.not_eq_true', Bool.not_eq_false', Bool.not_eq_eq_eq_not, Bool.not_true, Bool.not_false]
  have hr := HRR.out
  subst e1
  rw [if_neg (by simp)] at hr
  subst hr
  go_ret
  exact ⟨rfl, HE.out _ _ ⟨u1, u2, HV.out⟩ HB1.out⟩
 ·have e1 : b1 = true := by simp_all only [Bool.not_eq_true', Bool.not_eq_false', Bool.not_eq_eq_eq_not, Bool.not_true, Bool.not_false]
  have e3 : b2 = false := by simp_all only [Bool.not_eq_true', Bool.not_eq_false', Bool.not_eq_eq_eq_not, Bool.not_true, Bool.not_false]
  have hr := HRR.out
  subst e1; subst e3
  rw [if_pos rfl, if_pos (by assumption), if_neg (by simp)] at hr
  subst hr
  go_ret
  exact ⟨rfl, HE.out _ _ ⟨u1', u2', HV2.out⟩ (HB1.out.trans HB2.out)⟩
 ·have e1 : b1 = true := by simp_all only [Bool.not_eq_true', Bool.not_eq_false', Bool.not_eq_eq_eq_not, Bool.not_true, Bool.not_false]
  have e3 : b2 = true := by simp_all only [Bool.not_eq_true', Bool.not_eq_false', Bool.not_eq_eq_eq_not, Bool.not_true, Bool.not_false]
  have hr := HRR.out
  subst e1; subst e3
  rw [if_pos rfl, if_pos (by assumption), if_pos rfl] at hr
  subst hr
  go_ret
  exact ⟨rfl, HE.out _ _ H6.out ((HB1.out.trans HB2.out).trans H7.out)⟩
 ·have e1 : b1 = true := by simp_all only [Bool.not_eq_true', Bool.not_eq_false', Bool.not_eq_eq_eq_not, Bool.not_true, Bool.not_false]
  have hr := HRR.out
  subst e1
  rw [if_pos rfl, if_neg (by simp_all)] at hr
  subst hr
  go_ret
  exact ⟨rfl, HE.out _ _ H6.out (HB1.out.trans H7.out)⟩
theorem ShV.drew {W : World} {g : Nat} {m : Bool} {st : List Int} {tr : List S160} {S okT : Nat → Prop} {v1 v2 : Value} (h : ShV W g m st tr S okT v1 v2) : ShV W.drew g m st tr S okT v1 v2 :=
 ⟨h.1, h.2.1, Kd.N_drew h.2.2.1, h.2.2.2.1, Kd.N_drew h.2.2.2.2⟩
theorem ShO.drew {W : World} {g : Nat} {m : Bool} {st : List Int} {tr : List S160} {S okT : Nat → Prop} (h : ShO W g m st tr S okT) : ShO W.drew g m st tr S okT := by
 obtain ⟨v1, v2, h⟩ := h
 exact ⟨v1, v2, h.drew⟩
theorem ShO.far {W : World} {g : Nat} {m : Bool} {st : List Int} {tr : List S160} {S okT : Nat → Prop} (h : ShO W g m st tr S okT) {p : Addr} (hp : ¬ S p.block) (hq : ¬ okT p.block) (u : Value) : ShO (W.setCell p u) g m st tr S okT := by
 obtain ⟨v1, v2, hg, h0, h1, h2, h3⟩ := h
 refine ⟨v1, v2, (Below.heap_setCell _ _ _ _ (fun e => hp (e ▸ h0))).trans hg, h0, Kd.N_far h1 (fun q hk e => hp (e ▸ hk.1)) _, h2, Kd.N_far h3 (fun q hk e => ?_) _⟩
 rcases hk.1 with h | h
 ·exact hp (e ▸ h)
 exact hq (e ▸ h)
structure PB (b g : Nat) (fv pv iv : Array Value) (lv : Array Value) (W : World) : Prop where
 f : W.heap[b]? = some (.cells fv 37 (0, 0))
 p : W.heap[b + 1]? = some (.cells pv 41 (0, 0))
 i : W.heap[b + 1 + 1]? = some (.cells iv 51 (0, 0))
 s : W.heap[b + 1 + 1 + 1]? = some (.cells #[.pointer (some ⟨g, 0, none⟩)] 162 (0, 0))
 r : W.heap[b + 1 + 1 + 1 + 1]? = some (.cells #[.bool false] 4 (0, 0))
 l : W.heap[b + 1 + 1 + 1 + 1 + 1]? = some (.cells lv 192 (0, 0))
theorem PB.fr {b g : Nat} {fv pv iv lv : Array Value} {W W' : World} {S : Nat → Prop} (h : PB b g fv pv iv lv W) (hf : Fr W W' S) (hn : ∀ q, b ≤ q → q < b + 6 → ¬ S q) : PB b g fv pv iv lv W' :=
 ⟨hf.blk h.f (hn _ (by omega) (by omega)), hf.blk h.p (hn _ (by omega) (by omega)), hf.blk h.i (hn _ (by omega) (by omega)), hf.blk h.s (hn _ (by omega) (by omega)), hf.blk h.r (hn _ (by omega) (by omega)), hf.blk h.l (hn _ (by omega) (by omega))⟩
def plW (W : World) (g : Nat) (fv pv iv lv : Array Value) : World := ((((((W.alloc (.cells fv 37)).alloc (.cells pv 41)).alloc (.cells iv 51)).alloc (.cells #[.pointer (some ⟨g, 0, none⟩)] 162)).alloc (.cells #[.bool false] 4)).alloc (.cells lv 192))
theorem qAQ (W : World) (g : Nat) (fv pv iv lv : Array Value) : (plW W g fv pv iv lv).heap.size = W.heap.size + 6 := by simp [plW]
theorem qAM (W : World) (g : Nat) (fv pv iv lv : Array Value) : Below W.heap.size W (plW W g fv pv iv lv) :=
 ((((((Below.refl _ _).alloc (by simp) _).alloc (by simp) _).alloc (by simp; omega) _).alloc (by simp; omega) _).alloc (by simp; omega) _).alloc (by simp; omega) _
theorem qBm (W : World) (g : Nat) (fv pv iv lv : Array Value) : PB W.heap.size g fv pv iv lv (plW W g fv pv iv lv) := by
 have e : ∀ (V : World) (o o' : Obj) (k : Nat), V.heap[k]? = some o → (V.alloc o').heap[k]? = some o := fun V o o' k h => qAs h (qAb (Below.refl _ _) _)
 have n : ∀ (V : World) (o : Obj) (k : Nat), V.heap.size = k → (V.alloc o).heap[k]? = some o := fun V o k hk => hk ▸ qAF V o
 exact ⟨e _ _ _ _ (e _ _ _ _ (e _ _ _ _ (e _ _ _ _ (e _ _ _ _ (n _ _ _ (by simp)))))), e _ _ _ _ (e _ _ _ _ (e _ _ _ _ (e _ _ _ _ (n _ _ _ (by simp))))), e _ _ _ _ (e _ _ _ _ (e _ _ _ _ (n _ _ _ (by simp)))), e _ _ _ _ (e _ _ _ _ (n _ _ _ (by simp))), e _ _ _ _ (n _ _ _ (by simp)), n _ _ _ (by simp)⟩
theorem qA5 {fn : Func} {p : Tmp} (h : fn.results = #[.cell p 4]) (tmps : Array Value) (w : World) (ad : Addr) (b : Bool) (hp : tmps.getD p undef = .pointer (some ad)) (hc : w.cell? ad = some (.bool b)) : (results fn tmps).run Tryz.prog w = .ok (.bool b) w := by
 have hp' : tmps[p]?.getD undef = .pointer (some ad) := by simpa using hp
 have hu : Tryz.prog.underlying 4 = some .bool := by kernel_rfl
 simp [results, h, hp', asAddr]
 go_simp
theorem qBp {w : World} {a c : Addr} {u v x : Value} (h : w.cell? a = some x) (hne : c ≠ a) : ((w.setCell c v).setCell a u).cell? a = some u :=
 World.cell?_setCell_same _ _ _ (u := x) ((World.cell?_setCell_other _ _ _ _ hne).trans h)
end Q
end
end Go.Proofs.YtfddibbignedkaaGreatDoor
