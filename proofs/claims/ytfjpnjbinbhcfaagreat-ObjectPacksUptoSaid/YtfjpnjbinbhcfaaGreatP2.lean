/- object.Pack and the document's Pack of any object, where what is read is of bulk at most 1048576: the same bytes and the same error. Part 2 of 8. -/
import Derived.Test.YtfjpnjbinbhcfaaGreatP1
import Derived.Deep.AppendLies
import Derived.Laws.BitsAllLaws
import Derived.Lib.ConvBytes
import Derived.Lib.SmallJoins
import Derived.Deep.QuietTactic
import Derived.BigQuiet
import Derived.Laws.Tables
import Derived.Laws.Rows
import Derived.Deep.RegionHeld3
import Derived.RangeFuncNested
import Derived.RangeFuncBound
import Derived.RangeFuncCalls
import Derived.RangeFuncLeaves
import Derived.Shelf.Abstract
import Derived.WalkKit
import Derived.OwnWalkIn
import Derived.TacticsInMore
import Derived.LoopNIn
import Derived.LoopIn
import Derived.RangeFuncBox
import Derived.WalkLawsBesides
import Derived.Defers
import Derived.Recover
set_option maxHeartbeats 8000000
set_option maxRecDepth 100000
set_option linter.unusedVariables false
set_option linter.unusedSimpArgs false
namespace Go.Proofs.YtfjpnjbinbhcfaaGreat
section
namespace Wr
open Go.RowKit Base
theorem infoU8 : (Tryz.prog.info? 5).map (fun i => (i.zero, i.size, i.bytes)) = some (some (.int .u8 0), 1, 1) := by kernel_rfl
def bv (bs : List Int) : List Value := bs.map (Value.int .u8)
theorem qD3 (bs : List Int) : (bv bs).length = bs.length := List.length_map _
theorem qDb (a b : List Int) : bv (a ++ b) = bv a ++ bv b := List.map_append
structure WrSt (W : World) (p : Nat) (v : Value) (bs : List Int) : Prop where
 cell : W.cell? ⟨p, 0, none⟩ = some v
 free : W.frozen? ⟨p, 0, none⟩ = false
 own : W.ownsRow 0 5 1 v bs.length (bv bs)
 ne : ∀ k, v.ownBlock = some k → k ≠ p
structure qBo (p : Nat) (w : World) (v : Value) (w' : World) (v' : Value) : Prop where
 os : w'.os = w.os
 tape : w'.tape = w.tape
 output : w'.output = w.output
 size : w.heap.size ≤ w'.heap.size
 block : ∀ k, k < w.heap.size → k ≠ p → some k ≠ v.ownBlock → w'.heap[k]? = w.heap[k]?
 row : ∀ k, v'.ownBlock = some k → v.ownBlock = some k ∨ w.heap.size ≤ k
theorem qBo.refl (p : Nat) (w : World) (v : Value) : qBo p w v w v := ⟨rfl, rfl, rfl, Nat.le_refl _, fun _ _ _ _ => rfl, fun _ h => .inl h⟩
theorem qBo.trans {p : Nat} {a b c : World} {u v x : Value} (h : qBo p a u b v) (k : qBo p b v c x) : qBo p a u c x :=
 ⟨k.os.trans h.os, k.tape.trans h.tape, k.output.trans h.output, Nat.le_trans h.size k.size,
   fun i hi hp hu => (k.block i (Nat.lt_of_lt_of_le hi h.size) hp (fun e => by
     rcases h.row i e.symm with r | r
     · exact hu r.symm
     · omega)).trans (h.block i hi hp hu),
   fun i hi => by
     rcases k.row i hi with r | r
     · exact h.row i r
     · exact .inr (Nat.le_trans h.size r)⟩
theorem qBo.below {p : Nat} {w w' : World} {v v' : Value} {N : Nat} (h : qBo p w v w' v') (hp : N ≤ p) (hN : N ≤ w.heap.size) (hv : ∀ k, v.ownBlock = some k → N ≤ k) : Below N w w' :=
 ⟨h.os, h.tape, h.output, h.size, fun k hk => h.block k (by omega) (by omega) (fun e => by have := hv k e.symm; omega)⟩
theorem qBo.cell {p : Nat} {w w' : World} {v v' : Value} (h : qBo p w v w' v') {a : Addr} (ha : a.block < w.heap.size) (hp : a.block ≠ p) (hv : some a.block ≠ v.ownBlock) : w'.cell? a = w.cell? a :=
 World.cell?_of_block (h.block a.block ha hp hv)
def qCk (p : Nat) (bs : List Int) (w : World) (v : Value) (e : Ending) (w' : World) : Prop :=
 ∃ v', e = .returned (.tuple #[]) ∧ WrSt w' p v' bs ∧ qBo p w v w' v'
theorem wr_close {p g cap H n : Nat} {v : Value} {bs xs : List Int} {w wA w1 : World} (h : WrSt w p v bs)
  (hA : Below w.heap.size w wA) (hg : wA.grownBy w1 v.ownBlock) (hown : w1.ownsRow 0 5 1 (.slice (some ⟨g, 0, none⟩) n cap) n (bv bs ++ bv xs)) (hn : n = bs.length + xs.length)
  (hgg : v.ownBlock = some g ∨ g = H) (hH : w.heap.size ≤ H) :
  WrSt (w1.setCell ⟨p, 0, none⟩ (.slice (some ⟨g, 0, none⟩) n cap)) p (.slice (some ⟨g, 0, none⟩) n cap) (bs ++ xs) ∧
   qBo p w v (w1.setCell ⟨p, 0, none⟩ (.slice (some ⟨g, 0, none⟩) n cap)) (.slice (some ⟨g, 0, none⟩) n cap) := by
 have hp : p < w.heap.size := World.block_lt_of_cell? w _ h.cell
 have hpv : some p ≠ v.ownBlock := fun e => h.ne p e.symm rfl
 have hcA : wA.cell? ⟨p, 0, none⟩ = some v := (hA.cell (p := ⟨p, 0, none⟩) hp).trans h.cell
 have hc1 : w1.cell? ⟨p, 0, none⟩ = some v := hg.cell hcA hpv
 have hf1 : w1.frozen? ⟨p, 0, none⟩ = false := by
  rw [World.frozen?_of_block (w := wA) (hg.block p (Nat.lt_of_lt_of_le hp hA.size) hpv), hA.frozen (p := ⟨p, 0, none⟩) hp]; exact h.free
 have hgp : g ≠ p := by
  rcases hgg with e | e
  ·exact h.ne g e
  omega
 refine ⟨⟨World.cell?_setCell_same _ _ _ hc1, (World.frozen?_setCell _ _ _ _).trans hf1, ?_, fun k hk => ?_⟩, ?_⟩
 ·have e : (bs ++ xs).length = n := by rw [hn, List.length_append]
  rw [e, qDb]
  refine ⟨hown.1, ?_⟩
  rcases hown.2 with r | ⟨g', cap', cur, hv, hb, hh, r⟩
  ·exact .inl r
  ·refine .inr ⟨g', cap', cur, hv, hb, ?_, r⟩
   have : g' = g := by injection hv with h1; injection h1 with h1; injection h1 with h1; exact h1.symm
   subst this
   rw [Below.heap_setCell _ _ _ _ hgp]; exact hh
 ·have : k = g := by simpa [Value.ownBlock] using hk.symm
  omega
 ·refine ⟨hg.os.trans hA.os, hg.tape.trans hA.tape, hg.output.trans hA.output, ?_, fun k hk hkp hkv => ?_, fun k hk => ?_⟩
  ·simp only [World.setCell, Array.size_modify]; exact Nat.le_trans hA.size hg.size
  ·rw [Below.heap_setCell _ _ _ _ hkp, hg.block k (Nat.lt_of_lt_of_le hk hA.size) hkv, hA.block k hk]
  ·have e : k = g := by simpa [Value.ownBlock] using hk.symm
   subst e
   rcases hgg with e | e
   ·exact .inl e
   ·exact .inr (by omega)
theorem qCb (p : Nat) (x : Int) (v : Value) (bs : List Int) (w : World) (h : WrSt w p v bs) (hl : bs.length ≤ 1000000000) :
  Calls Tryz.prog 42 #[.pointer (some ⟨p, 0, none⟩), .int .u8 x] w (qCk p (bs ++ [x]) w v) := by
 obtain ⟨i0, hi, hz0, hz1, hz2⟩ := info_parts infoU8
 have HW := hid h
 obtain ⟨hc, hf, hown, hne⟩ := h
 have hp : p < w.heap.size := World.block_lt_of_cell? w _ hc
 have hpv : some p ≠ v.ownBlock := fun e => hne p e.symm rfl
 clear hne
 go_enter Tryz.func42, Tryz.ntmps42
 go_wp2_with (at_builtin; refine wpList_append_lies _ rfl _ _ 38 rfl 0 5 i0 (.int .u8 0) 1 1 Tryz.underlying38 hi hz0 hz1 hz2 rfl (by decide) _ _ _ rfl (hown.alloc _) ⟨w.heap.size, 0, none⟩ 1 1 [.int .u8 x] rfl rfl ?c1 ?c2 ?c0 ?c3 ?c4 ?c5 _ rfl ?_)
 case c2 => simp [Value.oneCell']
 case c3 => unfold maxLen; omega
 case c4 => omega
 ·exact cell_one_new _ _ _
 ·omega
 ·omega
 intro g cap w1 hown' hgrow hgg hlt
 have hcl := wr_close (xs := [x]) HW.out ((Below.refl _ _).alloc (Nat.le_refl _) _) hgrow hown' (by simp) hgg (by simp)
 have HC := hid hcl
 have hc1 : w1.cell? ⟨p, 0, none⟩ = some v := hgrow.cell ((World.cell?_alloc_past _ _ _ hp).trans hc) hpv
 have hf1 : w1.frozen? ⟨p, 0, none⟩ = false := by
  rw [World.frozen?_of_block (hgrow.block p (by simp; omega) hpv)]; exact (World.frozen?_alloc_past _ _ _ hp).trans hf
 clear hcl hown' hgrow hgg hlt hown hc hf
 go_wp2
 go_end0
 exact ⟨_, rfl, HC.out.1, HC.out.2⟩
def be (n : Int) (m j : Nat) : List Int := (List.range j).map fun t => n / 2 ^ (8 * (m - 1 - t)) % 256
theorem be_succ (n : Int) (m j : Nat) : be n m (j + 1) = be n m j ++ [n / 2 ^ (8 * (m - 1 - j)) % 256] := by
 unfold be; rw [List.range_succ, List.map_append]; rfl
theorem qAQ (n : Int) (m j : Nat) : (be n m j).length = j := by simp [be]
theorem qCg (p m : Nat) (n : Int) (v : Value) (bs : List Int) (w : World) (h : WrSt w p v bs) (_hn : 0 ≤ n) (hn2 : n ≤ 18446744073709551615) (hm : m ≤ 8) (hm1 : 1 ≤ m) (hl : bs.length ≤ 900000000) :
  Calls Tryz.prog 139 #[.pointer (some ⟨p, 0, none⟩), .int .u64 n, .int .i64 m] w (qCk p (bs ++ be n m m) w v) := by
 have HW := hid h
 have HN2 := hid hn2
 clear h hn2
 go_enter Tryz.func139, Tryz.ntmps139
 go_wp2
 go_loopw [6] (fun i wr => ∃ j : Nat, j ≤ m ∧ i = .int .i64 (8 * ((m : Int) - 1 - j)) ∧ Hid (∃ v', WrSt wr p v' (bs ++ be n m j) ∧ qBo p w v wr v')) (fun i _ => (8 + intOf i).toNat)
 case atStart => exact ⟨0, Nat.zero_le _, by go_num, hid ⟨v, by simpa [be] using HW.out, qBo.refl _ _ _⟩⟩
 case round =>
  obtain ⟨j, hj, rfl, hst⟩ := hrel
  by_cases hlt : j < m
  rotate_left
  ·have hjm : j = m := by omega
   subst hjm
   obtain ⟨v1, hw1, hs1⟩ := hst.out
   have H1 : Hid (WrSt wr p v1 (bs ++ be n j j) ∧ qBo p w v wr v1) := hid ⟨hw1, hs1⟩
   clear hst hw1 hs1
   go_wp2
   go_end0
   exact ⟨v1, rfl, H1.out.1, H1.out.2⟩
  have hi0 : 0 ≤ 8 * ((m : Int) - 1 - j) := by omega
  obtain ⟨v1, hw1, hs1⟩ := hst.out
  have HW1 := hid hw1
  have HS1 := hid hs1
  clear hst hw1 hs1
  go_wp2_with fail
  refine (qCb p _ v1 _ wr HW1.out (by rw [List.length_append, qAQ]; omega)).mono ?_
  rintro e w2 ⟨v2, rfl, h2, h3⟩
  have H2 : Hid (∃ v', WrSt w2 p v' (bs ++ be n m (j + 1)) ∧ qBo p w v w2 v') := hid ⟨v2, by rw [be_succ, ← List.append_assoc]; exact h2, HS1.out.trans h3⟩
  clear h2 h3
  go_wp2
  go_roundw
  case rel => exact ⟨j + 1, by omega, by go_num, H2⟩
  case measure => simp [intOf]; omega
theorem short_any (p : Nat) (n : Int) (v : Value) (bs : List Int) (w : World) (h : WrSt w p v bs) (hn : 0 ≤ n) (hn2 : n ≤ 9223372036854775807) (hl : bs.length ≤ 900000000) :
  Calls Tryz.prog 115 #[.pointer (some ⟨p, 0, none⟩), .int .i64 n] w (qCk p (bs ++ be n 2 2) w v) := by
 have HC : Hid (Calls Tryz.prog 139 #[.pointer (some ⟨p, 0, none⟩), .int .u64 n, .int .i64 2] w (qCk p (bs ++ be n 2 2) w v)) := hid (qCg p 2 n v bs w h hn (by omega) (by omega) (by omega) hl)
 clear h
 go_enter Tryz.func115, Tryz.ntmps115
 go_wp2_with fail
 refine HC.out.mono ?_
 rintro e w2 ⟨v2, rfl, h2, h3⟩
 have H2 := hid (And.intro h2 h3)
 clear h2 h3
 go_wp2
 go_end0
 exact ⟨v2, rfl, H2.out.1, H2.out.2⟩
theorem long_any (p : Nat) (n : Int) (v : Value) (bs : List Int) (w : World) (h : WrSt w p v bs) (hn : 0 ≤ n) (hn2 : n ≤ 18446744073709551615) (hl : bs.length ≤ 900000000) :
  Calls Tryz.prog 82 #[.pointer (some ⟨p, 0, none⟩), .int .u64 n] w (qCk p (bs ++ be n 8 8) w v) := by
 have HC : Hid (Calls Tryz.prog 139 #[.pointer (some ⟨p, 0, none⟩), .int .u64 n, .int .i64 8] w (qCk p (bs ++ be n 8 8) w v)) := hid (qCg p 8 n v bs w h hn hn2 (by omega) (by omega) hl)
 clear h
 go_enter Tryz.func82, Tryz.ntmps82
 go_wp2_with fail
 refine HC.out.mono ?_
 rintro e w2 ⟨v2, rfl, h2, h3⟩
 have H2 := hid (And.intro h2 h3)
 clear h2 h3
 go_wp2
 go_end0
 exact ⟨v2, rfl, H2.out.1, H2.out.2⟩
theorem and31 (n : Int) (h0 : 0 ≤ n) (h1 : n ≤ 2147483647) : bits .and .u64 n 2147483647 = n := by
 obtain ⟨a, rfl⟩ := Int.eq_ofNat_of_zero_le h0
 have h := u64_and_nat a 2147483647 (by omega) (by omega)
 rw [show (2147483647 : Int) = ((2147483647 : Nat) : Int) from rfl, h, show (2147483647 : Nat) = 2 ^ 31 - 1 from rfl, Nat.and_two_pow_sub_one_eq_mod, Nat.mod_eq_of_lt (by omega)]
theorem qFt (p : Nat) (n : Int) (v : Value) (bs : List Int) (w : World) (h : WrSt w p v bs) (hn : 0 ≤ n) (hn2 : n ≤ 2147483647) (hl : bs.length ≤ 900000000) :
  Calls Tryz.prog 81 #[.pointer (some ⟨p, 0, none⟩), .int .i64 n] w (qCk p (bs ++ be n 4 4) w v) := by
 have HC : Hid (Calls Tryz.prog 139 #[.pointer (some ⟨p, 0, none⟩), .int .u64 n, .int .i64 4] w (qCk p (bs ++ be n 4 4) w v)) := hid (qCg p 4 n v bs w h hn (by omega) (by omega) (by omega) hl)
 have HA := hid (and31 n hn hn2)
 clear h
 go_enter Tryz.func81, Tryz.ntmps81
 go_wp2_with fail
 rw [HA.out]
 refine HC.out.mono ?_
 rintro e w2 ⟨v2, rfl, h2, h3⟩
 have H2 := hid (And.intro h2 h3)
 clear h2 h3
 go_wp2
 go_end0
 exact ⟨v2, rfl, H2.out.1, H2.out.2⟩
def rawB (ys : List Int) : List Int := be ys.length 4 4 ++ ys
theorem raw_some (p b o c : Nat) (ys : List Int) (v : Value) (bs : List Int) (w : World) (h : WrSt w p v bs) (hb : b < w.heap.size) (hbp : b ≠ p) (hbv : some b ≠ v.ownBlock) (h0 : 0 < ys.length)
  (hy : ∀ j y, ys[j]? = some y → w.cell? ⟨b, o + j, none⟩ = some (.int .u8 y)) (hl : bs.length ≤ 400000000) (hl2 : ys.length ≤ 400000000) :
  Calls Tryz.prog 85 #[.pointer (some ⟨p, 0, none⟩), .slice (some ⟨b, o, none⟩) ys.length c] w (qCk p (bs ++ rawB ys) w v) := by
 obtain ⟨i0, hi, hz0, hz1, hz2⟩ := info_parts infoU8
 have HC : Hid (Calls Tryz.prog 81 #[.pointer (some ⟨p, 0, none⟩), .int .i64 ys.length] w (qCk p (bs ++ be ys.length 4 4) w v)) := hid (qFt p ys.length v bs w h (by omega) (by omega) (by omega))
 have HY := hid hy
 clear h hy
 go_enter Tryz.func85, Tryz.ntmps85
 go_wp2_with fail
 refine HC.out.mono ?_
 rintro e w2 ⟨v2, rfl, h2, h3⟩
 have hlen : (bs ++ be ys.length 4 4).length = bs.length + 4 := by rw [List.length_append, qAQ]
 have hcell : ∀ j y, ys[j]? = some y → w2.cell? ⟨b, o + j, none⟩ = some (.int .u8 y) := fun j y hj => (h3.cell (a := ⟨b, o + j, none⟩) hb hbp hbv).trans (HY.out j y hj)
 have H2 := hid h2
 have H3 := hid h3
 obtain ⟨hc, hf, hown, hne⟩ := h2
 have hp : p < w2.heap.size := World.block_lt_of_cell? w2 _ hc
 have hpv : some p ≠ v2.ownBlock := fun e => hne p e.symm rfl
 have hnews : ∀ j u, (bv ys)[j]? = some u → w2.cell? ((⟨b, o, none⟩ : Addr).add j) = some u := fun j u hu => by
  have hadd : (⟨b, o, none⟩ : Addr).add j = ⟨b, o + j, none⟩ := by unfold Addr.add; split <;> simp_all
  rw [hadd]
  unfold bv at hu
  rw [List.getElem?_map] at hu
  cases hj : ys[j]? with
  | none => rw [hj] at hu; cases hu
  | some y => rw [hj] at hu; cases hu; exact hcell j y hj
 have HN := hid hnews
 have HL := hid hlen
 clear hne h3 hcell hnews hlen
 go_wp2_with (at_builtin; refine wpList_append_lies _ rfl _ _ 38 rfl 0 5 i0 (.int .u8 0) 1 1 Tryz.underlying38 hi hz0 hz1 hz2 rfl (by decide) _ _ _ rfl hown ⟨b, o, none⟩ ys.length c (bv ys) rfl ?c9 HN.out ?c2 ?c0 ?c3 ?c4 ?c5 _ rfl ?_)
 case c9 => rw [qD3]; omega
 case c2 => intro u hu; unfold bv at hu; obtain ⟨y, _, rfl⟩ := List.mem_map.1 hu; rfl
 case c0 => exact h0
 case c3 => rw [HL.out]; unfold maxLen; omega
 case c4 => rw [HL.out]; omega
 case c5 => omega
 intro g cap w1 hown' hgrow hgg hlt
 have hcl := wr_close (xs := ys) H2.out (Below.refl _ _) hgrow hown' (by rw [List.length_append]) hgg (Nat.le_refl _)
 rw [List.append_assoc] at hcl
 have HCL := hid hcl
 have hc1 : w1.cell? ⟨p, 0, none⟩ = some v2 := hgrow.cell hc hpv
 have hf1 : w1.frozen? ⟨p, 0, none⟩ = false := by rw [World.frozen?_of_block (hgrow.block p hp hpv)]; exact hf
 clear hcl hown' hgrow hgg hlt hown hc hf
 go_wp2
 go_end0
 exact ⟨_, rfl, HCL.out.1, H3.out.trans HCL.out.2⟩
theorem wr_same {p : Nat} {v : Value} {bs : List Int} {w : World} (h : WrSt w p v bs) : WrSt (w.setCell ⟨p, 0, none⟩ v) p v bs ∧ qBo p w v (w.setCell ⟨p, 0, none⟩ v) v := by
 refine ⟨⟨World.cell?_setCell_same _ _ _ h.cell, (World.frozen?_setCell _ _ _ _).trans h.free, ?_, h.ne⟩, ?_⟩
 ·refine ⟨h.own.1, ?_⟩
  rcases h.own.2 with r | ⟨g, cap, cur, hv, hb, hh, r⟩
  ·exact .inl r
  refine .inr ⟨g, cap, cur, hv, hb, ?_, r⟩
  rw [Below.heap_setCell _ _ _ _ (h.ne g (by rw [hv]; rfl))]; exact hh
 exact ⟨rfl, rfl, rfl, by simp [World.setCell], fun k _ hkp _ => Below.heap_setCell _ _ _ _ hkp, fun k hk => .inl hk⟩
theorem raw_none (p : Nat) (A : Option Addr) (c : Nat) (v : Value) (bs : List Int) (w : World) (h : WrSt w p v bs) (hl : bs.length ≤ 400000000) :
  Calls Tryz.prog 85 #[.pointer (some ⟨p, 0, none⟩), .slice A 0 c] w (qCk p (bs ++ rawB []) w v) := by
 obtain ⟨i0, hi, hz0, hz1, hz2⟩ := info_parts infoU8
 have HC : Hid (Calls Tryz.prog 81 #[.pointer (some ⟨p, 0, none⟩), .int .i64 0] w (qCk p (bs ++ be 0 4 4) w v)) := hid (qFt p 0 v bs w h (by omega) (by omega) (by omega))
 clear h
 go_enter Tryz.func85, Tryz.ntmps85
 go_wp2_with fail
 refine HC.out.mono ?_
 rintro e w2 ⟨v2, rfl, h2, h3⟩
 have H2 := hid h2
 have H3 := hid h3
 obtain ⟨hc, hf, hown, hne⟩ := h2
 have hsh : v2 = .slice none 0 0 ∨ ∃ g n cap, v2 = .slice (some ⟨g, 0, none⟩) n cap := by
  rcases hown.2 with ⟨rfl, _⟩ | ⟨g, cap, _, rfl, _⟩
  ·exact .inl rfl
  exact .inr ⟨_, _, _, rfl⟩
 have HCL : Hid (WrSt (w2.setCell ⟨p, 0, none⟩ v2) p v2 (bs ++ rawB []) ∧ qBo p w2 v2 (w2.setCell ⟨p, 0, none⟩ v2) v2) := hid (by have k := wr_same H2.out; rw [show rawB [] = be 0 4 4 from by simp [rawB]]; exact k)
 clear hne h3
 rcases hsh with rfl | ⟨g, n, cap, rfl⟩
 all_goals
  go_wp2_with (at_builtin; refine wpList_append_zero rfl _ _ 38 rfl 0 5 i0 1 Tryz.underlying38 hi _ _ _ rfl hown A c rfl ?_)
  go_end0
  exact ⟨_, rfl, HCL.out.1, H3.out.trans HCL.out.2⟩
def qBu (s : ByteArray) : List Int := s.data.toList.map fun b => (b.toNat : Int)
theorem qBH (s : ByteArray) : (qBu s).length = s.size := by simp [qBu]
theorem conv_cells (w : World) (e : TypeId) (s : ByteArray) : ∀ j y, (qBu s)[j]? = some y → (Lib.bytesWorld w e s).cell? ⟨w.heap.size, 0 + j, none⟩ = some (.int .u8 y) := by
 intro j y hj
 have hlt : j < s.size := by have := (List.getElem?_eq_some_iff.1 hj).1; rwa [qBH] at this
 rw [Nat.zero_add, Lib.bytesWorld_cell w e s j hlt]
 unfold qBu at hj
 rw [List.getElem?_map] at hj
 have hl : j < s.data.toList.length := by simpa using hlt
 rw [List.getElem?_eq_getElem hl] at hj
 rw [List.getD_eq_getElem?_getD, List.getElem?_eq_getElem hl]
 simpa using hj
theorem WrSt.below {W W' : World} {p : Nat} {v : Value} {bs : List Int} (h : WrSt W p v bs) (hb : Below W.heap.size W W') : WrSt W' p v bs := by
 have hp : p < W.heap.size := World.block_lt_of_cell? W _ h.cell
 refine ⟨(hb.cell (p := ⟨p, 0, none⟩) hp).trans h.cell, (hb.frozen (p := ⟨p, 0, none⟩) hp).trans h.free, ?_, h.ne⟩
 refine ⟨h.own.1, ?_⟩
 rcases h.own.2 with r | ⟨g, cap, cur, hv, hg, hh, r⟩
 ·exact .inl r
 exact .inr ⟨g, cap, cur, hv, hg, (hb.block g (Array.getElem?_eq_some_iff.1 hh).1).trans hh, r⟩
theorem qBo.of_below {W W' : World} {p : Nat} {v : Value} (hb : Below W.heap.size W W') : qBo p W v W' v :=
 ⟨hb.os, hb.tape, hb.output, hb.size, fun k hk _ _ => hb.block k hk, fun _ h => .inl h⟩
theorem qEt (p : Nat) (s : ByteArray) (v : Value) (bs : List Int) (w : World) (h : WrSt w p v bs) (hl : bs.length ≤ 400000000) (hs : s.size ≤ 400000000) :
  Calls Tryz.prog 43 #[.pointer (some ⟨p, 0, none⟩), .string s] w (qCk p (bs ++ rawB (qBu s)) w v) := by
 obtain ⟨W1, hW1⟩ : ∃ W1, W1 = Lib.bytesWorld w 5 s := ⟨_, rfl⟩
 obtain ⟨c, hc⟩ : ∃ c, c = grownCap w s.size 0 5 := ⟨_, rfl⟩
 have hcv : (convert 9 38 (.string s)).run Tryz.prog w = .ok (.slice (some ⟨w.heap.size, 0, none⟩) s.size c) W1 := by
  rw [hW1, hc]; exact Lib.run_convert_string_bytes w _ _ _ s Tryz.underlying9 Tryz.underlying38 Tryz.underlying5
 have hb : Below w.heap.size w W1 := by rw [hW1]; exact Joins.below_bytesWorld _ _ _ _ (Nat.le_refl _)
 have hsz : W1.heap.size = w.heap.size + 1 := by rw [hW1]; exact Lib.bytesWorld_size _ _ _
 have hp : p < w.heap.size := World.block_lt_of_cell? w _ h.cell
 have hv : some w.heap.size ≠ v.ownBlock := fun e => by have := (h.own.lt _ e.symm).2; omega
 have HC : Hid (Calls Tryz.prog 85 #[.pointer (some ⟨p, 0, none⟩), .slice (some ⟨w.heap.size, 0, none⟩) s.size c] W1 (qCk p (bs ++ rawB (qBu s)) W1 v)) := by
  by_cases h0 : s.size = 0
  ·have e0 : qBu s = [] := List.length_eq_zero_iff.1 (by rw [qBH]; exact h0)
   rw [h0, e0]
   exact hid (raw_none p _ c v bs W1 (h.below hb) hl)
  have k := raw_some p w.heap.size 0 c (qBu s) v bs W1 (h.below hb) (by omega) (by omega) hv (by rw [qBH]; omega) (by rw [hW1]; exact conv_cells w 5 s) hl (by rw [qBH]; exact hs)
  rw [qBH] at k
  exact hid k
 have HB := hid hb
 clear hb hsz hW1 hc hv h hp
 go_enter Tryz.func43, Tryz.ntmps43
 go_wp2_with fail
 refine HC.out.mono ?_
 rintro e w2 ⟨v2, rfl, h2, h3⟩
 have H2 := hid h2
 have H3 := hid h3
 clear h2 h3 hcv
 go_wp2
 go_end0
 exact ⟨v2, rfl, H2.out, (qBo.of_below HB.out).trans H3.out⟩
theorem len_any (p : Nat) (v : Value) (bs : List Int) (w : World) (h : WrSt w p v bs) :
  Calls Tryz.prog 47 #[.pointer (some ⟨p, 0, none⟩)] w fun e w' => e = .returned (.int .i64 bs.length) ∧ w = w' := by
 obtain ⟨hc, hf, hown, hne⟩ := h
 rcases hown.2 with ⟨rfl, h0⟩ | ⟨g, cap, cur, rfl, _⟩
 ·rw [h0]
  clear hown hne hf
  go_enter Tryz.func47, Tryz.ntmps47
  go_wp2
  go_ret
  exact ⟨rfl, rfl⟩
 ·clear hown hne hf
  go_enter Tryz.func47, Tryz.ntmps47
  go_wp2
  go_ret
  exact ⟨rfl, rfl⟩
end Wr
end
section
namespace Q
open Go.RowKit PA PC PB
open Wr
theorem long_loop (n : Int) : ∀ (d j : Nat), j + d = 8 → Ev (fun k => qAA.l0 k n (be n 8 j) (56 - 8 * (j : Int))) (be n 8 8) := by
 intro d
 induction d with
 | zero =>
  intro j hj
  obtain rfl : j = 8 := by omega
  refine Ev.step (f := fun _ => some (be n 8 8)) (fun k => ?_) (Ev.now _)
  simp only [qAA.l0]
  rw [if_neg (by omega)]
 | succ d ih =>
  intro j hj
  have hw : IntKind.u64.wrap (56 - 8 * (j : Int)) = 56 - 8 * (j : Int) := by simp [IntKind.wrap, IntKind.bits, IntKind.signed]; omega
  have hs : shr .u64 n (56 - 8 * (j : Int)) % 256 = n / 2 ^ (8 * (8 - 1 - j)) % 256 := by
   unfold shr
   rw [show min (56 - 8 * (j : Int)).toNat IntKind.u64.bits = 8 * (8 - 1 - j) from by simp [IntKind.bits]; omega]
  refine Ev.step (fun k => ?_) (ih (j + 1) (by omega))
  simp only [qAA.l0]
  rw [if_pos (by omega), hw, if_pos (by omega), if_pos (by rw [qAQ]; omega), hs, ← be_succ, show wrap64 (56 - 8 * (j : Int) - 8) = 56 - 8 * ((j + 1 : Nat) : Int) from by unfold wrap64; omega]
theorem rlong_ev (n : Int) : Ev (fun k => qAA.f k n) (be n 8 8) := long_loop n 8 0 rfl
theorem qF6 (n : Int) (h0 : 0 ≤ n) (h1 : n ≤ 2147483647) : Ev (fun k => qBb.f k n) (be n 4 4) := by
 have hw : IntKind.u64.wrap n = n := by simp [IntKind.wrap, IntKind.bits, IntKind.signed]; omega
 refine Ev.congr (f := fun k => (qAA.f k n).bind fun t => if 4 ≤ (t.length : Int) then some (t.drop (4 : Int).toNat) else none) (fun k => ?_) (Ev.bind (rlong_ev n) ?_)
 ·unfold qBb.f
  rw [hw, and31 n h0 h1]
 simp only [qAQ]
 rw [if_pos (by decide)]
 exact Ev.now _
theorem rshort_ev (n : Int) (h0 : 0 ≤ n) (h1 : n ≤ 2147483647) : Ev (fun k => qBl.f k n) (be n 2 2) := by
 have hw : IntKind.u64.wrap n = n := by simp [IntKind.wrap, IntKind.bits, IntKind.signed]; omega
 refine Ev.congr (f := fun k => (qAA.f k n).bind fun t => if 6 ≤ (t.length : Int) then some (t.drop (6 : Int).toNat) else none) (fun k => ?_) (Ev.bind (rlong_ev n) ?_)
 ·unfold qBl.f
  rw [hw]
 simp only [qAQ]
 rw [if_pos (by decide)]
 exact Ev.now _
theorem q_rows {P : Program} {W : World} (base : Nat) (t ty e : TypeId) (i0 : TypeInfo) (z : Value) (ht : P.underlying t = some (.slice e)) (hi : P.info? e = some i0) (hz0 : i0.zero = some z) (hz1 : i0.size = 1) (hz2 : i0.bytes = 1) (hz : z.cells.size = 1)
  (v : Value) (xs ys : List Int) (A : Option Addr) (m c : Nat) (HO : (Kd.int .u8).Q e W base (fun _ => True) v xs) (HR : (Kd.int .u8).C W A m ys) (hx : 0 < xs.length) (hbase : base ≤ W.heap.size) (hl : xs.length + m ≤ 140737488355328) :
  ∃ v1 w1, (Builtin.append_ #[t, t] ty #[v, .slice A m c]).run P W = .ok v1 w1 ∧ (Kd.int .u8).Q e w1 base (fun _ => True) v1 (xs ++ ys) ∧ W.grownBy w1 v.ownBlock ∧ (∀ k, v.ownBlock = some k → base ≤ k) := by
 have hvb := Kd.Q_base HO
 obtain ⟨h0, inner, hown, hr⟩ := HO
 have hm := HR.1
 by_cases h : m = 0
 ·subst h
  obtain rfl : ys = [] := List.eq_nil_of_length_eq_zero hm
  rcases hown.2 with ⟨hn, _⟩ | ⟨g, off, cap, cur, rfl, _, _, hnc, _⟩
  ·omega
  ·refine ⟨_, W, ?_, by rw [List.append_nil]; exact ⟨h0, inner, hown, hr⟩, World.grownBy.refl W _, hvb⟩
   cases A with
   | none => simp [Builtin.append_, run_underlying ht, sizeOf, typeInfo, hi, Builtin.lenOf, Builtin.firstCells, hnc, storeCells]
   | some ad => simp [Builtin.append_, run_underlying ht, sizeOf, typeInfo, hi, Builtin.lenOf, Builtin.firstCells, hnc, storeCells, loadCells, loadCellsFrom]
 ·obtain ⟨ad, rfl, hc⟩ := HR.2.2 (by omega)
  obtain ⟨v1, w1, h1, h2, h3, h4⟩ := q_append (P := P) W base t ty e i0 z 1 1 ht hi hz0 hz1 hz2 hz (by decide) v xs.length inner hown ad m c (ys.map (Value.int .u8)) (by rw [List.length_map, hm]; omega)
   (fun j u hu => by
     rw [List.getElem?_map] at hu
     cases hy : ys[j]? with
     | none => rw [hy] at hu; cases hu
     | some y =>
       rw [hy] at hu
       obtain rfl := Option.some.inj hu
       obtain ⟨cs, _, hk, hcell⟩ := hc j y hy
       have hk : cs = [Value.int .u8 y] := hk
       subst hk
       have := hcell 0 _ rfl
       simpa [Kd.int, Kd.scalar] using this)
   (fun u hu => by obtain ⟨y, _, rfl⟩ := List.mem_map.1 hu; rfl) (by omega) (by simp only [maxLen]; omega) (by omega) hbase
  refine ⟨v1, w1, h1, ⟨fun _ _ => trivial, inner ++ ys.map (Value.int .u8), by rw [List.length_append, hm]; exact h2, ?_⟩, h3, hvb⟩
  refine Kd.reps_append (hr.imp_ (fun _ _ hq => hq)) ⟨by show (ys.map (Value.int .u8)).length = ys.length * 1; rw [List.length_map]; omega, fun j p hj => ?_⟩
  show ((ys.map (Value.int .u8)).drop (j * 1)).take 1 = [Value.int .u8 p]
  obtain ⟨hjl, hje⟩ := List.getElem?_eq_some_iff.1 hj
  rw [Nat.mul_one, List.drop_eq_getElem_cons (by rw [List.length_map]; exact hjl), List.take_succ_cons, List.take_zero, List.getElem_map, hje]
section
variable {P : Program} {ops : Array Oper} {rest : List Oper} {o : Oper} {a : Act} {Q : Exit → Act → World → Prop} {W w1 : World}
theorem q_app {v v1 y : Value} {t : TypeId} (hgd : o.guard = none) (s x : Operand) (ho : o.op = .call { callee := .builtin .append, args := #[s, x], argTypes := #[t, t] }) (hs : a.eval s = v) (hx : a.eval x = y)
  (hrun : (Builtin.append_ #[t, t] o.type #[v, y]).run P W = .ok v1 w1) (h : wpList P ops Q rest (a.put o.dst v1) w1) : wpList P ops Q (o :: rest) a W := by
 refine wpList_plain hgd fun K hK => ?_
 unfold Oper.wp execOp
 simp only [ho, resolve, invoke, builtin, Sem.run_bind, Sem.run_pure, Result.andThen_ok, List.map_toArray, List.map_cons, List.map_nil, hs, hx, hrun]
 exact hK _ _ h
end
def qBp.f (l0 : List Int) : Option (List Int) := if l0.length ≤ 2147483647 then some (rawB l0) else none
def qA7.f (a0 : ByteArray) : Option (List Int) := if a0.size ≤ 2147483647 then some (rawB (qBu a0)) else none
theorem raw_app (W : World) (base : Nat) (v : Value) (n : Int) (ys : List Int) (A : Option Addr) (m c : Nat) (HO : (Kd.int .u8).Q 5 W base (fun _ => True) v (be n 4 4)) (HR : (Kd.int .u8).C W A m ys) (hbase : base ≤ W.heap.size) (hl : m ≤ 2147483647) :
  ∃ v1 w1, (Builtin.append_ #[38, 38] 38 #[v, .slice A m c]).run Tryz.prog W = .ok v1 w1 ∧ (Kd.int .u8).Q 5 w1 base (fun _ => True) v1 (be n 4 4 ++ ys) ∧ W.grownBy w1 v.ownBlock ∧ (∀ k, v.ownBlock = some k → base ≤ k) := by
 obtain ⟨i0, hi, hzz⟩ := Option.map_eq_some_iff.1 qCi
 simp only [Prod.mk.injEq] at hzz
 obtain ⟨hz0, hz1, hz2⟩ := hzz
 exact q_rows base 38 38 5 i0 _ Tryz.underlying38 hi hz0 hz1 hz2 rfl v (be n 4 4) ys A m c HO HR (by rw [qAQ]; omega) hbase (by rw [qAQ]; omega)
theorem qBp.calls (A0 : Option Addr) (c0 : Nat) (l0 : List Int) (r : List Int) (w : World) (hr0 : Kd.C (Kd.int .u8) w A0 l0.length l0) (hc0 : l0.length ≤ c0) (h : qBp.f l0 = some r) :
  Calls Tryz.prog 119 #[.slice A0 l0.length c0] w fun e w' => ∃ v0_ : Value, e = .returned (v0_) ∧ Kd.Q (Kd.int .u8) 5 w' w.heap.size (fun _ => True) v0_ r ∧ Below w.heap.size w w' := by
 unfold qBp.f at h
 split at h
 case isFalse => cases h
 rename_i hl
 injection h with h
 subst h
 obtain ⟨k, hk⟩ := (qF6 l0.length (by omega) (by omega)).rounds
 have HI := am (qBb.calls k l0.length _ w hk)
 have HC := am hr0
 obtain ⟨n, hn⟩ : ∃ n, n = l0.length := ⟨_, rfl⟩
 rw [← hn] at HI HC hl ⊢
 unfold rawB
 rw [← hn]
 clear hk hr0 hc0 hn
 go_enter Tryz.func119, Tryz.ntmps119
 go_wp2_with fail
 refine HI.out.mono ?_
 rintro e w1 ⟨v, rfl, hq, hb⟩
 obtain ⟨v1, w2, hrun, hq2, hg, hvb⟩ := raw_app w1 w.heap.size v n l0 A0 n c0 hq (Kd.C_below HC.out hb) hb.size hl
 have HQ := am hq2
 have HB := am (hb.grown hg hb.size hvb)
 clear hq hq2 hg hvb hb HI HC
 have HR := am hrun
 clear hrun
 go_wp2_with ((with_reducible refine qAP (b := .append) (xs := #[.tmp 5, .tmp 6]) rfl ?_); at_builtin; refine q_app rfl (.tmp 5) (.tmp 6) rfl rfl rfl HR.out ?_)
 go_ret
 exact ⟨v1, rfl, HQ.out, HB.out⟩
theorem qA7.calls (a0 : ByteArray) (r : List Int) (w : World) (h : qA7.f a0 = some r) :
  Calls Tryz.prog 49 #[.string a0] w fun e w' => ∃ v0_ : Value, e = .returned (v0_) ∧ Kd.Q (Kd.int .u8) 5 w' w.heap.size (fun _ => True) v0_ r ∧ Below w.heap.size w w' := by
 unfold qA7.f at h
 split at h
 case isFalse => cases h
 rename_i hl
 injection h with h
 subst h
 obtain ⟨k, hk⟩ := (qF6 a0.size (by omega) (by omega)).rounds
 have HI := am (qBb.calls k a0.size _ w hk)
 have HV : qAa (∀ W : World, ∃ c W1, (convert 9 38 (.string a0)).run Tryz.prog W = .ok (.slice (some ⟨W.heap.size, 0, none⟩) a0.size c) W1 ∧ Below W.heap.size W W1 ∧ (Kd.int .u8).C W1 (some ⟨W.heap.size, 0, none⟩) a0.size (qBu a0)) := ⟨fun W => ⟨_, Lib.bytesWorld W 5 a0,
   Lib.run_convert_string_bytes W _ _ _ a0 Tryz.underlying9 Tryz.underlying38 Tryz.underlying5, Joins.below_bytesWorld _ _ _ _ (Nat.le_refl _), qBH a0, by omega, fun _ => ⟨_, rfl, fun j p hj => ⟨[.int .u8 p], rfl, rfl, fun i u hu => by
     obtain ⟨hi, hp⟩ := List.getElem?_eq_some_iff.1 hu
     obtain rfl : i = 0 := by simpa using hi
     have := conv_cells W 5 a0 j p hj
     rw [← hp, show (Kd.int .u8).sz = 1 from rfl, Nat.mul_one, Nat.add_zero, add_at]
     exact this⟩⟩⟩⟩
 unfold rawB
 rw [qBH]
 clear hk
 go_enter Tryz.func49, Tryz.ntmps49
 go_wp2_with fail
 refine HI.out.mono ?_
 rintro e w1 ⟨v, rfl, hq, hb⟩
 obtain ⟨c, W1, hcv, hb1, hC⟩ := HV.out w1
 obtain ⟨v1, w2, hrun, hq2, hg, hvb⟩ := raw_app W1 w.heap.size v a0.size (qBu a0) _ a0.size c (Kd.Q_below hq hb1) hC (Nat.le_trans hb.size hb1.size) hl
 have HQ := am hq2
 have HB := am ((qAw hb hb.size hb1).grown hg (Nat.le_trans hb.size hb1.size) hvb)
 clear hq hq2 hg hvb hb hb1 hC HI HV
 have HR := am hrun
 clear hrun
 go_wp2_with ((with_reducible refine qAP (b := .append) (xs := #[.tmp 5, .tmp 7]) rfl ?_); at_builtin; refine q_app rfl (.tmp 5) (.tmp 7) rfl rfl rfl HR.out ?_)
 go_ret
 exact ⟨v1, rfl, HQ.out, HB.out⟩
def LitR (e : Nat) (W : World) (g : Nat) (xs : List Int) : Prop := ∃ fr, W.heap[g]? = some (.cells (xs.map (Value.int .u8)).toArray e fr)
theorem LitR.below {e : Nat} {W W1 : World} {g : Nat} {xs : List Int} (h : LitR e W g xs) (hb : Below W.heap.size W W1) : LitR e W1 g xs := by
 obtain ⟨fr, h⟩ := h
 exact ⟨fr, (hb.block g (qBd h)).trans h⟩
theorem rtext_pos {s : ByteArray} {r : List Int} (h : qA7.f s = some r) : 0 < r.length := by
 unfold qA7.f at h
 split at h
 ·obtain rfl := Option.some.inj h
  unfold rawB
  rw [List.length_append, qAQ]; omega
 cases h
section
variable {P : Program} {ops : Array Oper} {rest : List Oper} {o : Oper} {a : Act} {Q : Exit → Act → World → Prop} {W : World}
theorem lit_event (hgd : o.guard = none) (e : TypeId) (xs : List Int) (hrun : (execOp a.eval o).run P W = .ok (.value (.slice (some ⟨W.heap.size, 0, none⟩) xs.length xs.length)) (W.alloc (.cells (xs.map (Value.int .u8)).toArray e (0, 0))))
  (h : ∀ g, g = W.heap.size → ∀ w1, LitR e w1 g xs → Below W.heap.size W w1 → wpList P ops Q rest (a.put o.dst (.slice (some ⟨g, 0, none⟩) xs.length xs.length)) w1) : wpList P ops Q (o :: rest) a W :=
 Kd.event_run hgd hrun (h _ rfl _ ⟨_, blk_new W _⟩ (qA3 (Below.refl _ _) _))
theorem lit_mark (hgd : o.guard = none) (t e : TypeId) (s : Operand) {xs : List Int} {g : Nat} (ho : o.op = .convert t t s) (ht : P.underlying t = some (.slice e)) (he : P.underlying e = some (.int .u8)) (hs : a.eval s = .slice (some ⟨g, 0, none⟩) xs.length xs.length) (HL : LitR e W g xs)
  (h : ∀ w1, LitR e w1 g xs → w1.heap.size = W.heap.size → w1.os = W.os → w1.tape = W.tape → w1.output = W.output → (∀ k, k ≠ g → w1.heap[k]? = W.heap[k]?) → wpList P ops Q rest (a.put o.dst (.slice (some ⟨g, 0, none⟩) xs.length xs.length)) w1) : wpList P ops Q (o :: rest) a W := by
 obtain ⟨fr, hg⟩ := HL
 have hsh : W.shape? g = some (e, xs.length) := by unfold World.shape?; rw [hg]; simp
 refine Kd.event_run (W := W) (v := .slice (some ⟨g, 0, none⟩) xs.length xs.length) (w1 := W.freeze ⟨g, xs.length, none⟩ 1) hgd ?_ ?_
 ·unfold execOp
  rw [ho]
  simp [hs, convert, run_underlying ht, run_underlying he, markStringish, hsh]
 ·refine h _ ?_ (by unfold World.freeze; simp) (by unfold World.freeze; split <;> rfl) (by unfold World.freeze; split <;> rfl) (by unfold World.freeze; split <;> rfl) (fun k hk => by
    unfold World.freeze
    split
    · rfl
    · simp [Array.getElem?_modify, Ne.symm hk])
  unfold LitR World.freeze
  simp [Array.getElem?_modify, hg]
theorem below_mark {w W w1 : World} {g : Nat} (hb : Below w.heap.size w W) (hg : w.heap.size ≤ g) (hz : w1.heap.size = W.heap.size) (h1 : w1.os = W.os) (h2 : w1.tape = W.tape) (h3 : w1.output = W.output) (hk : ∀ k, k ≠ g → w1.heap[k]? = W.heap[k]?) : Below w.heap.size w w1 :=
 ⟨h1.trans hb.os, h2.trans hb.tape, h3.trans hb.output, by rw [hz]; exact hb.size, fun k hlt => (hk k (by omega)).trans (hb.block k hlt)⟩
theorem lit_append (hgd : o.guard = none) (s x : Operand) (t e : TypeId) (z : Value) (ho : o.op = .call { callee := .builtin .append, args := #[s, x], argTypes := #[t, t] }) (ht : P.underlying t = some (.slice e)) (hinfo : (P.info? e).map (fun i => (i.zero, i.size, i.bytes)) = some (some z, 1, 1)) (hz : z.cells.size = 1)
  {g : Nat} {xs ys : List Int} {A : Option Addr} {m c : Nat} (hs : a.eval s = .slice (some ⟨g, 0, none⟩) xs.length xs.length) (hx : a.eval x = .slice A m c) (HL : LitR e W g xs) (HR : (Kd.int .u8).C W A m ys) (hm : 0 < m) (hl : xs.length + m < 140737488355328)
  (h : ∀ v1 w1, (Kd.int .u8).R e w1 W.heap.size (fun _ => True) v1 (xs ++ ys) → Below W.heap.size W w1 → wpList P ops Q rest (a.put o.dst v1) w1) : wpList P ops Q (o :: rest) a W := by
 obtain ⟨i0, hi, hzz⟩ := Option.map_eq_some_iff.1 hinfo
 simp only [Prod.mk.injEq] at hzz
 obtain ⟨hz0, hz1, hz2⟩ := hzz
 obtain ⟨fr, hg⟩ := HL
 have hmy := HR.1
 obtain ⟨ad, rfl, hc⟩ := HR.2.2 hm
 obtain ⟨v1, w1, hr, hown, hgr⟩ := run_append_arg_grows (P := P) (w := W) t o.type e i0 z 1 1 ht hi hz0 hz1 hz2 hz (by decide) ⟨g, 0, none⟩ xs.length xs.length (xs.map (Value.int .u8)) (by rw [List.length_map]; omega)
  (fun j u hu => by
    rw [add_at]
    show W.cell? ⟨g, 0 + j, none⟩ = some u
    unfold World.cell?
    simp only [hg, Nat.zero_add]
    simpa using hu) ad m c (ys.map (Value.int .u8)) (by rw [List.length_map, hmy]; omega)
  (fun j u hu => by
    rw [List.getElem?_map] at hu
    cases hy : ys[j]? with
    | none => rw [hy] at hu; cases hu
    | some y =>
      rw [hy] at hu
      obtain rfl := Option.some.inj hu
      obtain ⟨cs, _, hk, hcell⟩ := hc j y hy
      have hk : cs = [Value.int .u8 y] := hk
      subst hk
      have := hcell 0 _ rfl
      simpa [Kd.int, Kd.scalar] using this) (by omega) (by simp only [maxLen]; omega) (by omega)
 refine q_app hgd s x ho hs hx hr (h v1 w1 ⟨fun _ _ => trivial, xs.map (Value.int .u8) ++ ys.map (Value.int .u8), by rw [List.length_append, hmy]; exact hown, ?_⟩ ⟨hgr.os, hgr.tape, hgr.output, hgr.size, fun k hk => hgr.block k hk (by simp)⟩)
 rw [← List.map_append]
 refine ⟨by show ((xs ++ ys).map (Value.int .u8)).length = (xs ++ ys).length * 1; rw [List.length_map]; omega, fun j p hj => ?_⟩
 show (((xs ++ ys).map (Value.int .u8)).drop (j * 1)).take 1 = [Value.int .u8 p]
 obtain ⟨hjl, hje⟩ := List.getElem?_eq_some_iff.1 hj
 rw [Nat.mul_one, List.drop_eq_getElem_cons (by rw [List.length_map]; exact hjl), List.take_succ_cons, List.take_zero, List.getElem_map, hje]
end
end Q
end
section
namespace Val
open Go.RowKit Base
def nanB (a : Int) : Bool := decide (9218868437227405312 < a % 9223372036854775808)
def qEO (a : Int) : Int := if nanB a = true then 9221120237041090561 else a
def okV (t b : Int) : Bool := if t = 1 then true else if t = 2 then qEO b == b else if t = 3 then decide (b < 2) else false
theorem canon_nan {a : Int} (h : nanB a = true) : qEO a = 9221120237041090561 := by unfold qEO; rw [if_pos h]
theorem qFi {a : Int} (h : nanB a = false) : qEO a = a := by unfold qEO; rw [if_neg (by simp [h])]
def U64 (a : Int) : Prop := 0 ≤ a ∧ a < 18446744073709551616
theorem andNot_sign (a : Int) (h : U64 a) : bits .andNot .u64 a 9223372036854775808 = a % 9223372036854775808 := by
 obtain ⟨n, rfl⟩ := Int.eq_ofNat_of_zero_le h.1
 have hn : n < 18446744073709551616 := by have := h.2; omega
 have k := u64_andNot_nat n 9223372036854775808 hn (by decide)
 rw [show (9223372036854775808 : Int) = ((9223372036854775808 : Nat) : Int) from rfl, k, show (18446744073709551615 - 9223372036854775808 : Nat) = 2 ^ 63 - 1 from rfl, Nat.and_two_pow_sub_one_eq_mod]
 rfl
theorem and_exp (a : Int) (h : U64 a) : bits .and .u64 (a / 4503599627370496) 2047 = a / 4503599627370496 % 2048 := by
 obtain ⟨n, rfl⟩ := Int.eq_ofNat_of_zero_le h.1
 have hn : n < 18446744073709551616 := by have := h.2; omega
 have k := u64_and_nat (n / 4503599627370496) 2047 (by omega) (by decide)
 rw [show (2047 : Int) = ((2047 : Nat) : Int) from rfl, show ((n : Int) / 4503599627370496) = ((n / 4503599627370496 : Nat) : Int) from rfl, k, show (2047 : Nat) = 2 ^ 11 - 1 from rfl, Nat.and_two_pow_sub_one_eq_mod]
 rfl
theorem wrap_low (a : Int) : IntKind.u64.wrap (a * 4096) = a * 4096 % 18446744073709551616 := by simp [IntKind.wrap, IntKind.bits, IntKind.signed]
theorem nanB_sign (a : Int) (h : U64 a) : decide (9218868437227405312 < bits .andNot .u64 a 9223372036854775808) = nanB a := by rw [andNot_sign a h]; rfl
theorem canon_any (a : Int) (ha : U64 a) (w : World) : Calls Tryz.prog 93 #[.int .u64 a] w fun e w' => e = .returned (.int .u64 (qEO a)) ∧ w = w' := by
 have hb := nanB_sign a ha
 cases hn : nanB a with
 | true =>
  rw [hn] at hb
  rw [canon_nan hn]
  clear ha hn
  go_enter Tryz.func93, Tryz.ntmps93
  go_wp2
  go_ret
  exact ⟨rfl, rfl⟩
 | false =>
  rw [hn] at hb
  rw [qFi hn]
  clear ha hn
  go_enter Tryz.func93, Tryz.ntmps93
  go_wp2
  go_ret
  exact ⟨rfl, rfl⟩
theorem rcanon_any (a : Int) (ha : U64 a) (w : World) : Calls Tryz.prog 109 #[.int .u64 a] w fun e w' => e = .returned (.int .u64 (qEO a)) ∧ w = w' := by
 have h1 := and_exp a ha
 have h2 := wrap_low a
 have hn : nanB a = decide (a / 4503599627370496 % 2048 = 2047 ∧ a * 4096 % 18446744073709551616 ≠ 0) := by
  unfold nanB
  have := ha.1
  have := ha.2
  rw [decide_eq_decide]
  omega
 by_cases c1 : a / 4503599627370496 % 2048 = 2047
 rotate_left
 ·have b1 : (bits .and .u64 (a / 4503599627370496) 2047 == 2047) = false := by rw [h1]; exact beq_eq_false_iff_ne.mpr c1
  rw [qFi (by rw [hn]; simp [c1])]
  clear ha h1 h2 hn c1
  go_enter Tryz.func109, Tryz.ntmps109
  go_wp2
  go_ret
  exact ⟨rfl, rfl⟩
 have b1 : (bits .and .u64 (a / 4503599627370496) 2047 == 2047) = true := by rw [h1]; exact beq_iff_eq.mpr c1
 by_cases c2 : a * 4096 % 18446744073709551616 = 0
 ·have b2 : (IntKind.u64.wrap (a * 4096) != 0) = false := by rw [h2]; exact bne_eq_false_iff_eq.mpr c2
  have b3 : (IntKind.u64.wrap (a * 4096) == 0) = true := by rw [h2]; exact beq_iff_eq.mpr c2
  rw [qFi (by rw [hn]; simp [c2])]
  clear ha h1 h2 hn c1 c2
  go_enter Tryz.func109, Tryz.ntmps109
  go_wp2
  go_ret
  exact ⟨rfl, rfl⟩
 have b2 : (IntKind.u64.wrap (a * 4096) != 0) = true := by rw [h2]; exact bne_iff_ne.mpr c2
 have b3 : (IntKind.u64.wrap (a * 4096) == 0) = false := by rw [h2]; exact beq_eq_false_iff_ne.mpr c2
 rw [canon_nan (by rw [hn]; simp [c1, c2])]
 clear ha h1 h2 hn c1 c2
 go_enter Tryz.func109, Tryz.ntmps109
 go_wp2
 go_ret
 exact ⟨rfl, rfl⟩
theorem okV_1 (b : Int) : okV 1 b = true := rfl
theorem okV_2 (b : Int) : okV 2 b = (qEO b == b) := rfl
theorem okV_3 (b : Int) : okV 3 b = decide (b < 2) := rfl
theorem okV_no (t b : Int) (h : t < 1 ∨ 3 < t) : okV t b = false := by unfold okV; rw [if_neg (by omega), if_neg (by omega), if_neg (by omega)]
theorem right_1 (b : Int) (w : World) : Calls Tryz.prog 32 #[.agg #[.int .i64 1, .int .u64 b]] w fun e w' => e = .returned (.bool true) ∧ Below w.heap.size w w' := by
 go_enter Tryz.func32, Tryz.ntmps32
 go_wp2
 go_ret
 exact ⟨rfl, (Below.refl _ _).alloc (Nat.le_refl _) _⟩
theorem right_3 (b : Int) (w : World) : Calls Tryz.prog 32 #[.agg #[.int .i64 3, .int .u64 b]] w fun e w' => e = .returned (.bool (decide (b < 2))) ∧ Below w.heap.size w w' := by
 go_enter Tryz.func32, Tryz.ntmps32
 go_wp2
 go_ret
 exact ⟨rfl, (Below.refl _ _).alloc (Nat.le_refl _) _⟩
theorem right_no (t b : Int) (h : t < 1 ∨ 3 < t) (w : World) : Calls Tryz.prog 32 #[.agg #[.int .i64 t, .int .u64 b]] w fun e w' => e = .returned (.bool false) ∧ Below w.heap.size w w' := by
 have b1 : (t == 1) = false := beq_eq_false_iff_ne.mpr (by omega)
 have b2 : (t == 2) = false := beq_eq_false_iff_ne.mpr (by omega)
 have b3 : (t == 3) = false := beq_eq_false_iff_ne.mpr (by omega)
 go_enter Tryz.func32, Tryz.ntmps32
 go_wp2
 go_ret
 exact ⟨rfl, (Below.refl _ _).alloc (Nat.le_refl _) _⟩
theorem right_2 (b : Int) (hb : U64 b) (w : World) : Calls Tryz.prog 32 #[.agg #[.int .i64 2, .int .u64 b]] w fun e w' => e = .returned (.bool (qEO b == b)) ∧ Below w.heap.size w w' := by
 obtain ⟨c, hc⟩ : ∃ c, c = qEO b := ⟨_, rfl⟩
 have HC : Hid (∀ W : World, Calls Tryz.prog 93 #[.int .u64 b] W fun e w' => e = .returned (.int .u64 c) ∧ w' = W) := hid fun W => by rw [hc]; exact (canon_any b hb W).mono fun _ _ ⟨he, hw⟩ => ⟨he, hw.symm⟩
 rw [← hc]
 clear hb hc
 go_enter Tryz.func32, Tryz.ntmps32
 go_wp2_with fail
 go_quiet ((go_at_call 93; exact Calls.quiet_of_same (HC.out _)))
 go_wp2
 go_ret
 exact ⟨rfl, by (exact ⟨rfl, rfl, rfl, by simp, fun k hk => Below.heap_alloc _ _ _ hk⟩)⟩
theorem right_any (t b : Int) (hb : U64 b) (w : World) : Calls Tryz.prog 32 #[.agg #[.int .i64 t, .int .u64 b]] w fun e w' => e = .returned (.bool (okV t b)) ∧ Below w.heap.size w w' := by
 by_cases h : t < 1 ∨ 3 < t
 ·rw [okV_no t b h]; exact right_no t b h w
 have ht : t = 1 ∨ t = 2 ∨ t = 3 := by omega
 rcases ht with rfl | rfl | rfl
 ·rw [okV_1]; exact right_1 b w
 ·rw [okV_2]; exact right_2 b hb w
 rw [okV_3]; exact right_3 b w
theorem rright_1 (b : Int) (w : World) : Calls Tryz.prog 37 #[.agg #[.int .i64 1, .int .u64 b]] w fun e w' => e = .returned (.bool true) ∧ Below w.heap.size w w' := by
 go_enter Tryz.func37, Tryz.ntmps37
 go_wp2
 go_ret
 exact ⟨rfl, (Below.refl _ _).alloc (Nat.le_refl _) _⟩
theorem rright_3 (b : Int) (w : World) : Calls Tryz.prog 37 #[.agg #[.int .i64 3, .int .u64 b]] w fun e w' => e = .returned (.bool (decide (b ≤ 1))) ∧ Below w.heap.size w w' := by
 go_enter Tryz.func37, Tryz.ntmps37
 go_wp2
 go_ret
 exact ⟨rfl, (Below.refl _ _).alloc (Nat.le_refl _) _⟩
theorem rright_no (t b : Int) (h : t < 1 ∨ 3 < t) (w : World) : Calls Tryz.prog 37 #[.agg #[.int .i64 t, .int .u64 b]] w fun e w' => e = .returned (.bool false) ∧ Below w.heap.size w w' := by
 have b1 : (t == 1) = false := beq_eq_false_iff_ne.mpr (by omega)
 have b2 : (t == 2) = false := beq_eq_false_iff_ne.mpr (by omega)
 have b3 : (t == 3) = false := beq_eq_false_iff_ne.mpr (by omega)
 go_enter Tryz.func37, Tryz.ntmps37
 go_wp2
 go_ret
 exact ⟨rfl, (Below.refl _ _).alloc (Nat.le_refl _) _⟩
theorem rright_2 (b : Int) (hb : U64 b) (w : World) : Calls Tryz.prog 37 #[.agg #[.int .i64 2, .int .u64 b]] w fun e w' => e = .returned (.bool (qEO b == b)) ∧ Below w.heap.size w w' := by
 obtain ⟨c, hc⟩ : ∃ c, c = qEO b := ⟨_, rfl⟩
 have HC : Hid (∀ W : World, Calls Tryz.prog 109 #[.int .u64 b] W fun e w' => e = .returned (.int .u64 c) ∧ w' = W) := hid fun W => by rw [hc]; exact (rcanon_any b hb W).mono fun _ _ ⟨he, hw⟩ => ⟨he, hw.symm⟩
 rw [← hc]
 clear hb hc
 go_enter Tryz.func37, Tryz.ntmps37
 go_wp2_with fail
 go_quiet ((go_at_call 109; exact Calls.quiet_of_same (HC.out _)))
 go_wp2
 go_ret
 exact ⟨rfl, by (exact ⟨rfl, rfl, rfl, by simp, fun k hk => Below.heap_alloc _ _ _ hk⟩)⟩
theorem rright_any (t b : Int) (hb : U64 b) (w : World) : Calls Tryz.prog 37 #[.agg #[.int .i64 t, .int .u64 b]] w fun e w' => e = .returned (.bool (okV t b)) ∧ Below w.heap.size w w' := by
 by_cases h : t < 1 ∨ 3 < t
 ·rw [okV_no t b h]; exact rright_no t b h w
 have ht : t = 1 ∨ t = 2 ∨ t = 3 := by omega
 rcases ht with rfl | rfl | rfl
 ·rw [okV_1]; exact rright_1 b w
 ·rw [okV_2]; exact rright_2 b hb w
 rw [okV_3, show decide (b < 2) = decide (b ≤ 1) from by rw [decide_eq_decide]; omega]; exact rright_3 b w
end Val
end
section
namespace Tbl
open Go.RowKit Base
def qF7 : Array Value := #[.string ⟨#[]⟩, .int .i64 0, .string ⟨#[112, 117, 115, 104]⟩, .int .i64 9, .string ⟨#[103, 101, 116]⟩, .int .i64 1, .string ⟨#[112, 117, 116]⟩, .int .i64 1, .string ⟨#[108, 111, 97, 100]⟩, .int .i64 2, .string ⟨#[115, 116, 111, 114, 101]⟩, .int .i64 2,
  .string ⟨#[117, 110]⟩, .int .i64 1, .string ⟨#[98, 105, 110]⟩, .int .i64 1, .string ⟨#[106, 117, 109, 112]⟩, .int .i64 2, .string ⟨#[117, 110, 108, 101, 115, 115]⟩, .int .i64 2, .string ⟨#[99, 97, 108, 108]⟩, .int .i64 2, .string ⟨#[114, 101, 116, 117, 114, 110]⟩, .int .i64 0,
  .string ⟨#[115, 104, 111, 119]⟩, .int .i64 0, .string ⟨#[102, 97, 105, 108]⟩, .int .i64 0, .string ⟨#[105, 110, 112, 117, 116]⟩, .int .i64 0, .string ⟨#[116, 114, 121]⟩, .int .i64 2, .string ⟨#[117, 110, 116, 114, 121]⟩, .int .i64 0, .string ⟨#[100, 114, 111, 112]⟩, .int .i64 0]
theorem rows_built (w : World) : (Instr.build 202 #[(1, .agg #[.string ⟨#[112, 117, 115, 104]⟩, .int .i64 9]), (2, .agg #[.string ⟨#[103, 101, 116]⟩, .int .i64 1]), (3, .agg #[.string ⟨#[112, 117, 116]⟩, .int .i64 1]), (4, .agg #[.string ⟨#[108, 111, 97, 100]⟩, .int .i64 2]), (5, .agg #[.string ⟨#[115, 116, 111, 114, 101]⟩, .int .i64 2]), (6, .agg #[.string ⟨#[117, 110]⟩, .int .i64 1]), (7, .agg #[.string ⟨#[98, 105, 110]⟩, .int .i64 1]), (8, .agg #[.string ⟨#[106, 117, 109, 112]⟩, .int .i64 2]), (9, .agg #[.string ⟨#[117, 110, 108, 101, 115, 115]⟩, .int .i64 2]), (10, .agg #[.string ⟨#[99, 97, 108, 108]⟩, .int .i64 2]), (11, .agg #[.string ⟨#[114, 101, 116, 117, 114, 110]⟩, .int .i64 0]), (12, .agg #[.string ⟨#[115, 104, 111, 119]⟩, .int .i64 0]), (13, .agg #[.string ⟨#[102, 97, 105, 108]⟩, .int .i64 0]), (14, .agg #[.string ⟨#[105, 110, 112, 117, 116]⟩, .int .i64 0]), (15, .agg #[.string ⟨#[116, 114, 121]⟩, .int .i64 2]), (16, .agg #[.string ⟨#[117, 110, 116, 114, 121]⟩, .int .i64 0]), (17, .agg #[.string ⟨#[100, 114, 111, 112]⟩, .int .i64 0])]).run Tryz.prog w = .ok (.agg qF7) w := run_build w _ _ _ (by kernel_rfl)
def rowsZ : Array Value := #[.string ⟨#[]⟩, .int .i64 0, .string ⟨#[]⟩, .int .i64 0, .string ⟨#[]⟩, .int .i64 0, .string ⟨#[]⟩, .int .i64 0, .string ⟨#[]⟩, .int .i64 0, .string ⟨#[]⟩, .int .i64 0, .string ⟨#[]⟩, .int .i64 0, .string ⟨#[]⟩, .int .i64 0, .string ⟨#[]⟩, .int .i64 0, .string ⟨#[]⟩, .int .i64 0, .string ⟨#[]⟩, .int .i64 0, .string ⟨#[]⟩, .int .i64 0, .string ⟨#[]⟩, .int .i64 0, .string ⟨#[]⟩, .int .i64 0, .string ⟨#[]⟩, .int .i64 0, .string ⟨#[]⟩, .int .i64 0, .string ⟨#[]⟩, .int .i64 0, .string ⟨#[]⟩, .int .i64 0]
theorem rows_size : (Tryz.prog.info? 202).map (·.size) = some qF7.size := by kernel_rfl
theorem rows_one : qF7.all (·.oneCell') = true := by kernel_rfl
theorem below_setRow {B : Nat} {a w : World} (h : Below B a w) {g : Nat} (hg : B ≤ g) (cs : Array Value) : Below B a (w.setRow g cs) :=
 h.trans ⟨rfl, rfl, rfl, by simp [World.setRow], fun k hk => setRow_other w g k cs (by omega)⟩
theorem qDr (w : World) : Calls Tryz.prog 141 #[] w fun e w' => e = .returned (.agg qF7) ∧ Below w.heap.size w w' := by
 have hb := rows_built
 go_enter Tryz.func141, Tryz.ntmps141
 go_wp2_with (refine wpList_store_row rfl 202 _ _ rfl w.heap.size qF7 rfl rfl 202 rowsZ ?h1 ?h2 ?h3 ?h4 ?_)
 case h2 => exact rows_size
 case h3 => rfl
 case h4 => exact rows_one
 ·exact heap_alloc_new w _
 clear hb
 refine bodyPost_ret (results_cell_row rfl _ _ w.heap.size 202 qF7 (0, 0) _ rfl (setRow_heap _ _ _ _ _ _ (heap_alloc_new w _)) Tryz.underlying202 rfl rows_size) rfl ⟨rfl, below_setRow ((Below.refl _ _).alloc (Nat.le_refl _) _) (Nat.le_refl _) _⟩
end Tbl
end
section
namespace Ins
open Go.RowKit Base Val Tbl
def wid (op : Int) : Int := if op = 1 then 9 else if op = 2 ∨ op = 3 ∨ op = 6 ∨ op = 7 then 1 else if op = 4 ∨ op = 5 ∨ op = 8 ∨ op = 9 ∨ op = 10 ∨ op = 15 then 2 else 0
def most (op : Int) : Int := if wid op = 0 then 0 else if wid op = 1 then 255 else 65535
def okI (op n t b : Int) : Bool :=
 if op < 1 ∨ 17 < op then false else if op = 1 then n == 0 && okV t b
 else if ¬(t = 0 ∧ b = 0 ∧ 0 ≤ n ∧ n ≤ most op) then false
 else if op = 6 then decide (1 ≤ n ∧ n ≤ 4) else if op = 7 then decide (1 ≤ n ∧ n ≤ 11) else true
def insV (op n t b : Int) : Value := .agg #[.int .i64 op, .int .i64 n, .int .i64 t, .int .u64 b]
theorem qCr (op n ty b wd mo : Int) (nm : ByteArray) (hlo : (decide (op < 1)) = false) (hhi : (decide (17 < op)) = false) (h1 : (op == 1) = false) (h6 : (op == 6) = false) (h7 : (op == 7) = false)
  (hix : ∀ w, (Instr.index 202 (.agg qF7) (.int .i64 op)).run Tryz.prog w = .ok (.agg #[.string nm, .int .i64 wd]) w)
  (hiy : ∀ w, (Instr.index 210 (.agg #[.int .i64 0, .int .i64 255, .int .i64 65535]) (.int .i64 wd)).run Tryz.prog w = .ok (.int .i64 mo) w)
  (hif : ∀ w, (Instr.field 201 (.agg #[.string nm, .int .i64 wd]) 1).run Tryz.prog w = .ok (.int .i64 wd) w) (w : World) : Calls Tryz.prog 100 #[.agg #[.int .i64 op, .int .i64 n, .int .i64 ty, .int .u64 b]] w fun e w' => e = .returned (.bool (decide (ty = 0 ∧ b = 0 ∧ 0 ≤ n ∧ n ≤ mo))) ∧ Below w.heap.size w w' := by
 go_enter Tryz.func100, Tryz.ntmps100
 go_wp2_with fail
 obtain ⟨W1, hW1⟩ : ∃ W1, W1 = w.alloc (.cells #[.int .i64 op, .int .i64 n, .int .i64 ty, .int .u64 b] 144) := ⟨_, rfl⟩
 have hB1 : Below w.heap.size w W1 := by rw [hW1]; exact (Below.refl _ _).alloc (Nat.le_refl _) _
 have hs : w.heap.size < W1.heap.size := by rw [hW1]; simp
 have c0 : W1.cell? ⟨w.heap.size, 0, none⟩ = some (.int .i64 op) := by rw [hW1, World.cell?_alloc_at _ _ _ _ rfl]; rfl
 have c1 : W1.cell? ⟨w.heap.size, 1, none⟩ = some (.int .i64 n) := by rw [hW1, World.cell?_alloc_at _ _ _ _ rfl]; rfl
 have c2 : W1.cell? ⟨w.heap.size, 2, none⟩ = some (.int .i64 ty) := by rw [hW1, World.cell?_alloc_at _ _ _ _ rfl]; rfl
 have c3 : W1.cell? ⟨w.heap.size, 3, none⟩ = some (.int .u64 b) := by rw [hW1, World.cell?_alloc_at _ _ _ _ rfl]; rfl
 rw [← hW1]
 clear hW1
 go_region_held3 (fun W => W.cell? ⟨w.heap.size, 0, none⟩ = some (.int .i64 op) ∧ W.cell? ⟨w.heap.size, 1, none⟩ = some (.int .i64 n) ∧ W.cell? ⟨w.heap.size, 2, none⟩ = some (.int .i64 ty) ∧ W.cell? ⟨w.heap.size, 3, none⟩ = some (.int .u64 b))
  (first | go_keep | exact ⟨(hbj.cell (p := ⟨w.heap.size, 0, none⟩) hs).trans c0, (hbj.cell (p := ⟨w.heap.size, 1, none⟩) hs).trans c1, (hbj.cell (p := ⟨w.heap.size, 2, none⟩) hs).trans c2, (hbj.cell (p := ⟨w.heap.size, 3, none⟩) hs).trans c3⟩)
  ((go_at_call 141; refine (qDr _).mono ?_; rintro e w1 ⟨rfl, hbj⟩))
 go_wp2
 all_goals have hB2 : Below w.heap.size w w1 := hB1.drew.trans (hbj.mono (by simp; omega))
 all_goals (go_ret; refine ⟨congrArg (fun x => Ending.returned (Value.bool x)) ?_, hB2⟩; simp_all <;> omega)
theorem right_6 (op n ty b wd mo : Int) (nm : ByteArray) (hlo : (decide (op < 1)) = false) (hhi : (decide (17 < op)) = false) (h1 : (op == 1) = false) (h6 : (op == 6) = true)
  (hix : ∀ w, (Instr.index 202 (.agg qF7) (.int .i64 op)).run Tryz.prog w = .ok (.agg #[.string nm, .int .i64 wd]) w)
  (hiy : ∀ w, (Instr.index 210 (.agg #[.int .i64 0, .int .i64 255, .int .i64 65535]) (.int .i64 wd)).run Tryz.prog w = .ok (.int .i64 mo) w)
  (hif : ∀ w, (Instr.field 201 (.agg #[.string nm, .int .i64 wd]) 1).run Tryz.prog w = .ok (.int .i64 wd) w) (w : World) : Calls Tryz.prog 100 #[.agg #[.int .i64 op, .int .i64 n, .int .i64 ty, .int .u64 b]] w fun e w' => e = .returned (.bool (decide (ty = 0 ∧ b = 0 ∧ 0 ≤ n ∧ n ≤ mo ∧ 1 ≤ n ∧ n ≤ 4))) ∧ Below w.heap.size w w' := by
 go_enter Tryz.func100, Tryz.ntmps100
 go_wp2_with fail
 obtain ⟨W1, hW1⟩ : ∃ W1, W1 = w.alloc (.cells #[.int .i64 op, .int .i64 n, .int .i64 ty, .int .u64 b] 144) := ⟨_, rfl⟩
 have hB1 : Below w.heap.size w W1 := by rw [hW1]; exact (Below.refl _ _).alloc (Nat.le_refl _) _
 have hs : w.heap.size < W1.heap.size := by rw [hW1]; simp
 have c0 : W1.cell? ⟨w.heap.size, 0, none⟩ = some (.int .i64 op) := by rw [hW1, World.cell?_alloc_at _ _ _ _ rfl]; rfl
 have c1 : W1.cell? ⟨w.heap.size, 1, none⟩ = some (.int .i64 n) := by rw [hW1, World.cell?_alloc_at _ _ _ _ rfl]; rfl
 have c2 : W1.cell? ⟨w.heap.size, 2, none⟩ = some (.int .i64 ty) := by rw [hW1, World.cell?_alloc_at _ _ _ _ rfl]; rfl
 have c3 : W1.cell? ⟨w.heap.size, 3, none⟩ = some (.int .u64 b) := by rw [hW1, World.cell?_alloc_at _ _ _ _ rfl]; rfl
 rw [← hW1]
 clear hW1
 go_region_held3 (fun W => W.cell? ⟨w.heap.size, 0, none⟩ = some (.int .i64 op) ∧ W.cell? ⟨w.heap.size, 1, none⟩ = some (.int .i64 n) ∧ W.cell? ⟨w.heap.size, 2, none⟩ = some (.int .i64 ty) ∧ W.cell? ⟨w.heap.size, 3, none⟩ = some (.int .u64 b))
  (first | go_keep | exact ⟨(hbj.cell (p := ⟨w.heap.size, 0, none⟩) hs).trans c0, (hbj.cell (p := ⟨w.heap.size, 1, none⟩) hs).trans c1, (hbj.cell (p := ⟨w.heap.size, 2, none⟩) hs).trans c2, (hbj.cell (p := ⟨w.heap.size, 3, none⟩) hs).trans c3⟩)
  ((go_at_call 141; refine (qDr _).mono ?_; rintro e w1 ⟨rfl, hbj⟩))
 go_wp2
 all_goals have hB2 : Below w.heap.size w w1 := hB1.drew.trans (hbj.mono (by simp; omega))
 all_goals (go_ret; refine ⟨congrArg (fun x => Ending.returned (Value.bool x)) ?_, hB2⟩; simp_all <;> omega)
theorem right_7 (op n ty b wd mo : Int) (nm : ByteArray) (hlo : (decide (op < 1)) = false) (hhi : (decide (17 < op)) = false) (h1 : (op == 1) = false) (h6 : (op == 6) = false) (h7 : (op == 7) = true)
  (hix : ∀ w, (Instr.index 202 (.agg qF7) (.int .i64 op)).run Tryz.prog w = .ok (.agg #[.string nm, .int .i64 wd]) w)
  (hiy : ∀ w, (Instr.index 210 (.agg #[.int .i64 0, .int .i64 255, .int .i64 65535]) (.int .i64 wd)).run Tryz.prog w = .ok (.int .i64 mo) w)
  (hif : ∀ w, (Instr.field 201 (.agg #[.string nm, .int .i64 wd]) 1).run Tryz.prog w = .ok (.int .i64 wd) w) (w : World) : Calls Tryz.prog 100 #[.agg #[.int .i64 op, .int .i64 n, .int .i64 ty, .int .u64 b]] w fun e w' => e = .returned (.bool (decide (ty = 0 ∧ b = 0 ∧ 0 ≤ n ∧ n ≤ mo ∧ 1 ≤ n ∧ n ≤ 11))) ∧ Below w.heap.size w w' := by
 go_enter Tryz.func100, Tryz.ntmps100
 go_wp2_with fail
 obtain ⟨W1, hW1⟩ : ∃ W1, W1 = w.alloc (.cells #[.int .i64 op, .int .i64 n, .int .i64 ty, .int .u64 b] 144) := ⟨_, rfl⟩
 have hB1 : Below w.heap.size w W1 := by rw [hW1]; exact (Below.refl _ _).alloc (Nat.le_refl _) _
 have hs : w.heap.size < W1.heap.size := by rw [hW1]; simp
 have c0 : W1.cell? ⟨w.heap.size, 0, none⟩ = some (.int .i64 op) := by rw [hW1, World.cell?_alloc_at _ _ _ _ rfl]; rfl
 have c1 : W1.cell? ⟨w.heap.size, 1, none⟩ = some (.int .i64 n) := by rw [hW1, World.cell?_alloc_at _ _ _ _ rfl]; rfl
 have c2 : W1.cell? ⟨w.heap.size, 2, none⟩ = some (.int .i64 ty) := by rw [hW1, World.cell?_alloc_at _ _ _ _ rfl]; rfl
 have c3 : W1.cell? ⟨w.heap.size, 3, none⟩ = some (.int .u64 b) := by rw [hW1, World.cell?_alloc_at _ _ _ _ rfl]; rfl
 rw [← hW1]
 clear hW1
 go_region_held3 (fun W => W.cell? ⟨w.heap.size, 0, none⟩ = some (.int .i64 op) ∧ W.cell? ⟨w.heap.size, 1, none⟩ = some (.int .i64 n) ∧ W.cell? ⟨w.heap.size, 2, none⟩ = some (.int .i64 ty) ∧ W.cell? ⟨w.heap.size, 3, none⟩ = some (.int .u64 b))
  (first | go_keep | exact ⟨(hbj.cell (p := ⟨w.heap.size, 0, none⟩) hs).trans c0, (hbj.cell (p := ⟨w.heap.size, 1, none⟩) hs).trans c1, (hbj.cell (p := ⟨w.heap.size, 2, none⟩) hs).trans c2, (hbj.cell (p := ⟨w.heap.size, 3, none⟩) hs).trans c3⟩)
  ((go_at_call 141; refine (qDr _).mono ?_; rintro e w1 ⟨rfl, hbj⟩))
 go_wp2
 all_goals have hB2 : Below w.heap.size w w1 := hB1.drew.trans (hbj.mono (by simp; omega))
 all_goals (go_ret; refine ⟨congrArg (fun x => Ending.returned (Value.bool x)) ?_, hB2⟩; simp_all <;> omega)
theorem right_lo (op n ty b : Int) (hlo : (decide (op < 1)) = true) (w : World) : Calls Tryz.prog 100 #[.agg #[.int .i64 op, .int .i64 n, .int .i64 ty, .int .u64 b]] w fun e w' => e = .returned (.bool false) ∧ Below w.heap.size w w' := by
 go_enter Tryz.func100, Tryz.ntmps100
 go_wp2
 go_ret
 exact ⟨rfl, (Below.refl _ _).alloc (Nat.le_refl _) _⟩
theorem right_hi (op n ty b : Int) (hlo : (decide (op < 1)) = false) (hhi : (decide (17 < op)) = true) (w : World) : Calls Tryz.prog 100 #[.agg #[.int .i64 op, .int .i64 n, .int .i64 ty, .int .u64 b]] w fun e w' => e = .returned (.bool false) ∧ Below w.heap.size w w' := by
 go_enter Tryz.func100, Tryz.ntmps100
 go_wp2
 go_ret
 exact ⟨rfl, (Below.refl _ _).alloc (Nat.le_refl _) _⟩
theorem size_lo (op n ty b : Int) (hlo : (decide (op < 1)) = true) (w : World) : Calls Tryz.prog 142 #[.agg #[.int .i64 op, .int .i64 n, .int .i64 ty, .int .u64 b]] w fun e w' => e = .returned (.int .i64 0) ∧ Below w.heap.size w w' := by
 go_enter Tryz.func142, Tryz.ntmps142
 go_wp2
 go_ret
 exact ⟨rfl, (Below.refl _ _).alloc (Nat.le_refl _) _⟩
theorem size_hi (op n ty b : Int) (hlo : (decide (op < 1)) = false) (hhi : (decide (17 < op)) = true) (w : World) : Calls Tryz.prog 142 #[.agg #[.int .i64 op, .int .i64 n, .int .i64 ty, .int .u64 b]] w fun e w' => e = .returned (.int .i64 0) ∧ Below w.heap.size w w' := by
 go_enter Tryz.func142, Tryz.ntmps142
 go_wp2
 go_ret
 exact ⟨rfl, (Below.refl _ _).alloc (Nat.le_refl _) _⟩
theorem right_push_no (n ty b : Int) (h : (n == 0) = false) (w : World) : Calls Tryz.prog 100 #[.agg #[.int .i64 1, .int .i64 n, .int .i64 ty, .int .u64 b]] w fun e w' => e = .returned (.bool false) ∧ Below w.heap.size w w' := by
 go_enter Tryz.func100, Tryz.ntmps100
 go_wp2
 go_ret
 exact ⟨rfl, (Below.refl _ _).alloc (Nat.le_refl _) _⟩
theorem right_push (ty b : Int) (hb : U64 b) (w : World) : Calls Tryz.prog 100 #[.agg #[.int .i64 1, .int .i64 0, .int .i64 ty, .int .u64 b]] w fun e w' => e = .returned (.bool (okV ty b)) ∧ Below w.heap.size w w' := by
 have HR := hid (right_any ty b hb)
 clear hb
 go_enter Tryz.func100, Tryz.ntmps100
 go_wp2_with fail
 go_at_call 32
 refine (HR.out _).mono ?_
 rintro e w1 ⟨rfl, hb1⟩
 go_wp2
 go_ret
 exact ⟨rfl, ((Below.refl _ _).alloc (Nat.le_refl _) _).trans (hb1.mono (by simp))⟩
theorem qC6 (op n ty b wd : Int) (nm : ByteArray) (hlo : (decide (op < 1)) = false) (hhi : (decide (17 < op)) = false) (sz : Int) (hw : IntKind.i64.wrap (1 + wd) = sz)
  (hix : ∀ w, (Instr.index 202 (.agg qF7) (.int .i64 op)).run Tryz.prog w = .ok (.agg #[.string nm, .int .i64 wd]) w)
  (hif : ∀ w, (Instr.field 201 (.agg #[.string nm, .int .i64 wd]) 1).run Tryz.prog w = .ok (.int .i64 wd) w) (w : World) : Calls Tryz.prog 142 #[.agg #[.int .i64 op, .int .i64 n, .int .i64 ty, .int .u64 b]] w fun e w' => e = .returned (.int .i64 sz) ∧ Below w.heap.size w w' := by
 go_enter Tryz.func142, Tryz.ntmps142
 go_wp2_with fail
 obtain ⟨W1, hW1⟩ : ∃ W1, W1 = w.alloc (.cells #[.int .i64 op, .int .i64 n, .int .i64 ty, .int .u64 b] 144) := ⟨_, rfl⟩
 have hB1 : Below w.heap.size w W1 := by rw [hW1]; exact (Below.refl _ _).alloc (Nat.le_refl _) _
 have hs : w.heap.size < W1.heap.size := by rw [hW1]; simp
 have c0 : W1.cell? ⟨w.heap.size, 0, none⟩ = some (.int .i64 op) := by rw [hW1, World.cell?_alloc_at _ _ _ _ rfl]; rfl
 have c1 : W1.cell? ⟨w.heap.size, 1, none⟩ = some (.int .i64 n) := by rw [hW1, World.cell?_alloc_at _ _ _ _ rfl]; rfl
 have c2 : W1.cell? ⟨w.heap.size, 2, none⟩ = some (.int .i64 ty) := by rw [hW1, World.cell?_alloc_at _ _ _ _ rfl]; rfl
 have c3 : W1.cell? ⟨w.heap.size, 3, none⟩ = some (.int .u64 b) := by rw [hW1, World.cell?_alloc_at _ _ _ _ rfl]; rfl
 rw [← hW1]
 clear hW1
 go_region_held3 (fun W => W.cell? ⟨w.heap.size, 0, none⟩ = some (.int .i64 op) ∧ W.cell? ⟨w.heap.size, 1, none⟩ = some (.int .i64 n) ∧ W.cell? ⟨w.heap.size, 2, none⟩ = some (.int .i64 ty) ∧ W.cell? ⟨w.heap.size, 3, none⟩ = some (.int .u64 b))
  (first | go_keep | exact ⟨(hbj.cell (p := ⟨w.heap.size, 0, none⟩) hs).trans c0, (hbj.cell (p := ⟨w.heap.size, 1, none⟩) hs).trans c1, (hbj.cell (p := ⟨w.heap.size, 2, none⟩) hs).trans c2, (hbj.cell (p := ⟨w.heap.size, 3, none⟩) hs).trans c3⟩)
  ((go_at_call 141; refine (qDr _).mono ?_; rintro e w1 ⟨rfl, hbj⟩))
 go_wp2
 have hB2 : Below w.heap.size w w1 := hB1.drew.trans (hbj.mono (by simp; omega))
 go_ret
 exact ⟨by rw [← hw]; rfl, hB2⟩
theorem qBA (op n t b mo : Int) (hlo : (decide (op < 1)) = false) (hhi : (decide (17 < op)) = false) (h1 : (op == 1) = false) (h6 : (op == 6) = false) (h7 : (op == 7) = false) (hm : most op = mo) : okI op n t b = decide (t = 0 ∧ b = 0 ∧ 0 ≤ n ∧ n ≤ mo) := by
 unfold okI
 rw [hm, if_neg (by simp at hlo hhi; omega), if_neg (by simpa using h1)]
 by_cases h : t = 0 ∧ b = 0 ∧ 0 ≤ n ∧ n ≤ mo
 rotate_left
 ·rw [if_pos h]; simp [h]
 rw [if_neg (by simpa using h), if_neg (by simpa using h6), if_neg (by simpa using h7)]; simp [h]
theorem okI_lo (op n t b : Int) (h : op < 1) : okI op n t b = false := by unfold okI; rw [if_pos (Or.inl h)]
theorem okI_hi (op n t b : Int) (h : 17 < op) : okI op n t b = false := by unfold okI; rw [if_pos (Or.inr h)]
theorem okI_1 (n t b : Int) : okI 1 n t b = (n == 0 && okV t b) := rfl
theorem okI_6 (n t b : Int) : okI 6 n t b = decide (t = 0 ∧ b = 0 ∧ 0 ≤ n ∧ n ≤ 255 ∧ 1 ≤ n ∧ n ≤ 4) := by
 unfold okI
 rw [if_neg (by decide), if_neg (by decide), show most 6 = 255 from rfl]
 by_cases h : t = 0 ∧ b = 0 ∧ 0 ≤ n ∧ n ≤ 255
 ·obtain ⟨h1, h2, h3, h4⟩ := h
  simp [h1, h2, h3, h4]
 rw [if_pos h]; simp; intro a b c d; exact absurd ⟨a, b, c, d⟩ h
theorem okI_7 (n t b : Int) : okI 7 n t b = decide (t = 0 ∧ b = 0 ∧ 0 ≤ n ∧ n ≤ 255 ∧ 1 ≤ n ∧ n ≤ 11) := by
 unfold okI
 rw [if_neg (by decide), if_neg (by decide), show most 7 = 255 from rfl]
 by_cases h : t = 0 ∧ b = 0 ∧ 0 ≤ n ∧ n ≤ 255
 ·obtain ⟨h1, h2, h3, h4⟩ := h
  simp [h1, h2, h3, h4]
 rw [if_pos h]; simp; intro a b c d; exact absurd ⟨a, b, c, d⟩ h
def qBL (op : Int) : Int := if op < 1 ∨ 17 < op then 0 else 1 + wid op
theorem qDF (op n ty b : Int) (hb : U64 b) (w : World) : Calls Tryz.prog 100 #[insV op n ty b] w fun e w' => e = .returned (.bool (okI op n ty b)) ∧ Below w.heap.size w w' := by
 unfold insV
 by_cases hl : op < 1
 ·rw [okI_lo op n ty b hl]; exact right_lo op n ty b (by simpa using hl) w
 by_cases hh : 17 < op
 ·rw [okI_hi op n ty b hh]; exact right_hi op n ty b (by simpa using hl) (by simpa using hh) w
 have ho : op = 1 ∨ op = 2 ∨ op = 3 ∨ op = 4 ∨ op = 5 ∨ op = 6 ∨ op = 7 ∨ op = 8 ∨ op = 9 ∨ op = 10 ∨ op = 11 ∨ op = 12 ∨ op = 13 ∨ op = 14 ∨ op = 15 ∨ op = 16 ∨ op = 17 := by omega
 rcases ho with rfl | rfl | rfl | rfl | rfl | rfl | rfl | rfl | rfl | rfl | rfl | rfl | rfl | rfl | rfl | rfl | rfl
 ·rw [okI_1]
  by_cases hn : n = 0
  ·rw [hn]; exact right_push ty b hb w
  rw [show (n == 0) = false from beq_eq_false_iff_ne.mpr hn]; exact right_push_no n ty b (beq_eq_false_iff_ne.mpr hn) w
 ·rw [qBA 2 n ty b 255 rfl rfl rfl rfl rfl rfl]; exact qCr 2 n ty b 1 255 ⟨#[103, 101, 116]⟩ rfl rfl rfl rfl rfl (fun _ => by kernel_rfl) (fun _ => by kernel_rfl) (fun _ => by kernel_rfl) w
 ·rw [qBA 3 n ty b 255 rfl rfl rfl rfl rfl rfl]; exact qCr 3 n ty b 1 255 ⟨#[112, 117, 116]⟩ rfl rfl rfl rfl rfl (fun _ => by kernel_rfl) (fun _ => by kernel_rfl) (fun _ => by kernel_rfl) w
 ·rw [qBA 4 n ty b 65535 rfl rfl rfl rfl rfl rfl]; exact qCr 4 n ty b 2 65535 ⟨#[108, 111, 97, 100]⟩ rfl rfl rfl rfl rfl (fun _ => by kernel_rfl) (fun _ => by kernel_rfl) (fun _ => by kernel_rfl) w
 ·rw [qBA 5 n ty b 65535 rfl rfl rfl rfl rfl rfl]; exact qCr 5 n ty b 2 65535 ⟨#[115, 116, 111, 114, 101]⟩ rfl rfl rfl rfl rfl (fun _ => by kernel_rfl) (fun _ => by kernel_rfl) (fun _ => by kernel_rfl) w
 ·rw [okI_6]; exact right_6 6 n ty b 1 255 ⟨#[117, 110]⟩ rfl rfl rfl rfl (fun _ => by kernel_rfl) (fun _ => by kernel_rfl) (fun _ => by kernel_rfl) w
 ·rw [okI_7]; exact right_7 7 n ty b 1 255 ⟨#[98, 105, 110]⟩ rfl rfl rfl rfl rfl (fun _ => by kernel_rfl) (fun _ => by kernel_rfl) (fun _ => by kernel_rfl) w
 ·rw [qBA 8 n ty b 65535 rfl rfl rfl rfl rfl rfl]; exact qCr 8 n ty b 2 65535 ⟨#[106, 117, 109, 112]⟩ rfl rfl rfl rfl rfl (fun _ => by kernel_rfl) (fun _ => by kernel_rfl) (fun _ => by kernel_rfl) w
 ·rw [qBA 9 n ty b 65535 rfl rfl rfl rfl rfl rfl]; exact qCr 9 n ty b 2 65535 ⟨#[117, 110, 108, 101, 115, 115]⟩ rfl rfl rfl rfl rfl (fun _ => by kernel_rfl) (fun _ => by kernel_rfl) (fun _ => by kernel_rfl) w
 ·rw [qBA 10 n ty b 65535 rfl rfl rfl rfl rfl rfl]; exact qCr 10 n ty b 2 65535 ⟨#[99, 97, 108, 108]⟩ rfl rfl rfl rfl rfl (fun _ => by kernel_rfl) (fun _ => by kernel_rfl) (fun _ => by kernel_rfl) w
 ·rw [qBA 11 n ty b 0 rfl rfl rfl rfl rfl rfl]; exact qCr 11 n ty b 0 0 ⟨#[114, 101, 116, 117, 114, 110]⟩ rfl rfl rfl rfl rfl (fun _ => by kernel_rfl) (fun _ => by kernel_rfl) (fun _ => by kernel_rfl) w
 ·rw [qBA 12 n ty b 0 rfl rfl rfl rfl rfl rfl]; exact qCr 12 n ty b 0 0 ⟨#[115, 104, 111, 119]⟩ rfl rfl rfl rfl rfl (fun _ => by kernel_rfl) (fun _ => by kernel_rfl) (fun _ => by kernel_rfl) w
 ·rw [qBA 13 n ty b 0 rfl rfl rfl rfl rfl rfl]; exact qCr 13 n ty b 0 0 ⟨#[102, 97, 105, 108]⟩ rfl rfl rfl rfl rfl (fun _ => by kernel_rfl) (fun _ => by kernel_rfl) (fun _ => by kernel_rfl) w
 ·rw [qBA 14 n ty b 0 rfl rfl rfl rfl rfl rfl]; exact qCr 14 n ty b 0 0 ⟨#[105, 110, 112, 117, 116]⟩ rfl rfl rfl rfl rfl (fun _ => by kernel_rfl) (fun _ => by kernel_rfl) (fun _ => by kernel_rfl) w
 ·rw [qBA 15 n ty b 65535 rfl rfl rfl rfl rfl rfl]; exact qCr 15 n ty b 2 65535 ⟨#[116, 114, 121]⟩ rfl rfl rfl rfl rfl (fun _ => by kernel_rfl) (fun _ => by kernel_rfl) (fun _ => by kernel_rfl) w
 ·rw [qBA 16 n ty b 0 rfl rfl rfl rfl rfl rfl]; exact qCr 16 n ty b 0 0 ⟨#[117, 110, 116, 114, 121]⟩ rfl rfl rfl rfl rfl (fun _ => by kernel_rfl) (fun _ => by kernel_rfl) (fun _ => by kernel_rfl) w
 rw [qBA 17 n ty b 0 rfl rfl rfl rfl rfl rfl]; exact qCr 17 n ty b 0 0 ⟨#[100, 114, 111, 112]⟩ rfl rfl rfl rfl rfl (fun _ => by kernel_rfl) (fun _ => by kernel_rfl) (fun _ => by kernel_rfl) w
theorem size_ins (op n ty b : Int) (w : World) : Calls Tryz.prog 142 #[insV op n ty b] w fun e w' => e = .returned (.int .i64 (qBL op)) ∧ Below w.heap.size w w' := by
 unfold insV
 by_cases hl : op < 1
 ·rw [show qBL op = 0 from if_pos (Or.inl hl)]; exact size_lo op n ty b (by simpa using hl) w
 by_cases hh : 17 < op
 ·rw [show qBL op = 0 from if_pos (Or.inr hh)]; exact size_hi op n ty b (by simpa using hl) (by simpa using hh) w
 have ho : op = 1 ∨ op = 2 ∨ op = 3 ∨ op = 4 ∨ op = 5 ∨ op = 6 ∨ op = 7 ∨ op = 8 ∨ op = 9 ∨ op = 10 ∨ op = 11 ∨ op = 12 ∨ op = 13 ∨ op = 14 ∨ op = 15 ∨ op = 16 ∨ op = 17 := by omega
 rcases ho with rfl | rfl | rfl | rfl | rfl | rfl | rfl | rfl | rfl | rfl | rfl | rfl | rfl | rfl | rfl | rfl | rfl
 ·rw [show qBL 1 = 10 from rfl]; exact qC6 1 n ty b 9 ⟨#[112, 117, 115, 104]⟩ rfl rfl 10 rfl (fun _ => by kernel_rfl) (fun _ => by kernel_rfl) w
 ·rw [show qBL 2 = 2 from rfl]; exact qC6 2 n ty b 1 ⟨#[103, 101, 116]⟩ rfl rfl 2 rfl (fun _ => by kernel_rfl) (fun _ => by kernel_rfl) w
 ·rw [show qBL 3 = 2 from rfl]; exact qC6 3 n ty b 1 ⟨#[112, 117, 116]⟩ rfl rfl 2 rfl (fun _ => by kernel_rfl) (fun _ => by kernel_rfl) w
 ·rw [show qBL 4 = 3 from rfl]; exact qC6 4 n ty b 2 ⟨#[108, 111, 97, 100]⟩ rfl rfl 3 rfl (fun _ => by kernel_rfl) (fun _ => by kernel_rfl) w
 ·rw [show qBL 5 = 3 from rfl]; exact qC6 5 n ty b 2 ⟨#[115, 116, 111, 114, 101]⟩ rfl rfl 3 rfl (fun _ => by kernel_rfl) (fun _ => by kernel_rfl) w
 ·rw [show qBL 6 = 2 from rfl]; exact qC6 6 n ty b 1 ⟨#[117, 110]⟩ rfl rfl 2 rfl (fun _ => by kernel_rfl) (fun _ => by kernel_rfl) w
 ·rw [show qBL 7 = 2 from rfl]; exact qC6 7 n ty b 1 ⟨#[98, 105, 110]⟩ rfl rfl 2 rfl (fun _ => by kernel_rfl) (fun _ => by kernel_rfl) w
 ·rw [show qBL 8 = 3 from rfl]; exact qC6 8 n ty b 2 ⟨#[106, 117, 109, 112]⟩ rfl rfl 3 rfl (fun _ => by kernel_rfl) (fun _ => by kernel_rfl) w
 ·rw [show qBL 9 = 3 from rfl]; exact qC6 9 n ty b 2 ⟨#[117, 110, 108, 101, 115, 115]⟩ rfl rfl 3 rfl (fun _ => by kernel_rfl) (fun _ => by kernel_rfl) w
 ·rw [show qBL 10 = 3 from rfl]; exact qC6 10 n ty b 2 ⟨#[99, 97, 108, 108]⟩ rfl rfl 3 rfl (fun _ => by kernel_rfl) (fun _ => by kernel_rfl) w
 ·rw [show qBL 11 = 1 from rfl]; exact qC6 11 n ty b 0 ⟨#[114, 101, 116, 117, 114, 110]⟩ rfl rfl 1 rfl (fun _ => by kernel_rfl) (fun _ => by kernel_rfl) w
 ·rw [show qBL 12 = 1 from rfl]; exact qC6 12 n ty b 0 ⟨#[115, 104, 111, 119]⟩ rfl rfl 1 rfl (fun _ => by kernel_rfl) (fun _ => by kernel_rfl) w
 ·rw [show qBL 13 = 1 from rfl]; exact qC6 13 n ty b 0 ⟨#[102, 97, 105, 108]⟩ rfl rfl 1 rfl (fun _ => by kernel_rfl) (fun _ => by kernel_rfl) w
 ·rw [show qBL 14 = 1 from rfl]; exact qC6 14 n ty b 0 ⟨#[105, 110, 112, 117, 116]⟩ rfl rfl 1 rfl (fun _ => by kernel_rfl) (fun _ => by kernel_rfl) w
 ·rw [show qBL 15 = 3 from rfl]; exact qC6 15 n ty b 2 ⟨#[116, 114, 121]⟩ rfl rfl 3 rfl (fun _ => by kernel_rfl) (fun _ => by kernel_rfl) w
 ·rw [show qBL 16 = 1 from rfl]; exact qC6 16 n ty b 0 ⟨#[117, 110, 116, 114, 121]⟩ rfl rfl 1 rfl (fun _ => by kernel_rfl) (fun _ => by kernel_rfl) w
 rw [show qBL 17 = 1 from rfl]; exact qC6 17 n ty b 0 ⟨#[100, 114, 111, 112]⟩ rfl rfl 1 rfl (fun _ => by kernel_rfl) (fun _ => by kernel_rfl) w
end Ins
end
section
namespace Num
open Go.RowKit Go.Shelf Base Wr
attribute [local go_sem] Oper.semAt_some
abbrev Ix (m : Nat) := { x : Nat × Int // x.1 < m }
def fsts {m : Nat} (pre : List (Ix m)) : List Nat := pre.map (·.1.1)
def qDR (m k : Nat) : List Nat := (List.range k).map (fun j => m - 1 - j)
theorem backs_succ (m k : Nat) : qDR m (k + 1) = qDR m k ++ [m - 1 - k] := by simp [qDR, List.range_succ]
def KpB (Bs g m : Nat) (W W' : World) : Prop :=
 (∀ v, W.cell? ⟨Bs, 0, none⟩ = some v → W'.cell? ⟨Bs, 0, none⟩ = some v) ∧ ∀ j, j < m → ∀ x, W.cell? ⟨g, j, none⟩ = some (.int .u8 x) → ∃ y, W'.cell? ⟨g, j, none⟩ = some (.int .u8 y)
theorem KpB.refl (Bs g m : Nat) (W : World) : KpB Bs g m W W := ⟨fun _ h => h, fun _ _ x h => ⟨x, h⟩⟩
theorem KpB.t {Bs g m : Nat} {A B C : World} (h : KpB Bs g m A B) (k : KpB Bs g m B C) : KpB Bs g m A C :=
 ⟨fun v e => k.1 v (h.1 v e), fun j hj x e => by obtain ⟨y, hy⟩ := h.2 j hj x e; exact k.2 j hj y hy⟩
theorem KpB.b {Bs g m : Nat} {w : World} (W : World) (l : Nat) (o o' : Obj) (_ : w.heap.size ≤ l) (h : W.heap[l]? = some o) (hc : o.isCells = false) (_ : o.isWalk = false) : KpB Bs g m W (W.putObj l o') :=
 ⟨fun _ e => cell_kept e (grownBy_putObj' W l o') (fun r er => by cases er; exact ⟨_, h, hc⟩), fun _ _ x e => ⟨x, cell_kept e (grownBy_putObj' W l o') (fun r er => by cases er; exact ⟨_, h, hc⟩)⟩⟩
theorem back1_in (F : Fence) (n : Nat) (hf : F.fn 189) (hro : F.round = none) (hn : 1 ≤ n) (l Bs g m : Nat) (hm : m ≤ 1000) (J Jx : List (Ix m) → World → Prop)
  (hY : ∀ pre x W, J pre W → pre.length < m → YieldAt F (n - 1) Tryz.prog l #[.int .i64 (x.1.1 : Int), .int .u8 x.1.2] W fun e W' =>
    (e = .returned (.bool true) ∧ J (pre ++ [x]) W' ∧ KpB Bs g m W W') ∨ (e = .returned (.bool false) ∧ Jx (pre ++ [x]) W'))
  (W : World) (hBs : W.cell? ⟨Bs, 0, none⟩ = some (.slice (some ⟨g, 0, none⟩) m m)) (hc : ∀ j, j < m → ∃ x, W.cell? ⟨g, j, none⟩ = some (.int .u8 x)) (h0 : J [] W) :
  CallsIn F n Tryz.prog 189 #[.func (.yield l) #[] #[], .pointer (some ⟨Bs, 0, none⟩)] W fun e W' => (∃ v, e = .returned v) ∧
   ((∃ ys, fsts ys = qDR m m ∧ J ys W') ∨ (∃ pre, True ∧ Jx pre W')) := by
 refine callsIn_of_wp Tryz.func189 rfl hf ?_ hro
 simp only [Tryz.ntmps189, List.size_toArray, List.length_cons, List.length_nil, Nat.reduceAdd, Nat.reduceSub, Array.replicate_succ, Array.replicate_zero, List.push_toArray, List.append_toArray, List.nil_append, List.cons_append]
 gi_wp2
 gi_loopw [3] (fun i wr => ∃ (k : Nat) (pre : List (Ix m)), fsts pre = qDR m k ∧ ((∃ q : Nat, q + 1 + k = m ∧ i = .int .i64 (q : Int)) ∨ (k = m ∧ i = .int .i64 (-1))) ∧ J pre wr ∧ KpB Bs g m W wr)
  (fun i _ => (intOf i + 1).toNat)
 case atStart =>
  refine ⟨0, [], rfl, ?_, h0, KpB.refl _ _ _ _⟩
  by_cases h : m = 0
  ·right; subst h; exact ⟨rfl, by simp⟩
  left; refine ⟨m - 1, by omega, ?_⟩
  go_num
 case round =>
  obtain ⟨k, pre, hp, hi, hJs, hkp⟩ := hrel
  have hbx := hkp.1 _ hBs
  rcases hi with ⟨q, hq, rfl⟩ | ⟨rfl, rfl⟩
  ·have hqm : q < m := by omega
   obtain ⟨x0, hx0⟩ := hc q hqm
   obtain ⟨y, hy0⟩ := hkp.2 q hqm x0 hx0
   have hpl : pre.length = k := by have := congrArg List.length hp; simpa [fsts, qDR] using this
   obtain ⟨fn, tmps, assign, body, hy, hR⟩ := hY pre ⟨(q, y), hqm⟩ wr hJs (by omega)
   dsimp only at hy
   gi_wp2
   refine hR.mono ?_
   rintro e W3 (⟨rfl, hJ3, hk3⟩ | ⟨rfl, hJx3⟩)
   ·gi_wp2
    go_roundw
    case rel =>
     refine ⟨k + 1, pre ++ [⟨(q, y), hqm⟩], ?_, ?_, hJ3, hkp.t hk3⟩
     ·rw [backs_succ, ← hp]; simp [fsts]; omega
     by_cases h : q = 0
     ·right; subst h; exact ⟨by omega, by simp⟩
     left; exact ⟨q - 1, by omega, by go_num⟩
    case measure => simp [intOf]
   gi_wp2
   refine bodyPost_ret (results_none rfl _ _ _) rfl ?_
   exact ⟨⟨_, rfl⟩, .inr ⟨_, trivial, hJx3⟩⟩
  gi_wp2
  go_end0
  exact ⟨⟨_, rfl⟩, .inl ⟨_, hp, hJs⟩⟩
theorem backward_in (F : Fence) (n : Nat) (hf : F.fn 167) (hro : F.round = none) (a : Option Addr) (len cap : Nat) (w : World) :
  CallsIn F n Tryz.prog 167 #[.slice a len cap] w fun e w' => e = .returned (.func (.func 189) #[] #[.pointer (some ⟨w.heap.size, 0, none⟩)]) ∧ w' = w.alloc (.cells #[.slice a len cap] 38) := by
 refine callsIn_of_wp Tryz.func167 rfl hf ?_ hro
 simp only [Tryz.ntmps167, List.size_toArray, List.length_cons, List.length_nil, Nat.reduceAdd, Nat.reduceSub, Array.replicate_succ, Array.replicate_zero, List.push_toArray, List.append_toArray, List.nil_append, List.cons_append]
 gi_wp2
 go_ret
 exact ⟨rfl, rfl⟩
def stp (s : Int × (Nat → Int)) (j : Nat) : Int × (Nat → Int) := (s.1 / 256, fun t => if t = j then s.1 % 256 else s.2 t)
def stF (x : Int) (l : List Nat) : Int × (Nat → Int) := l.foldl stp (x, fun _ => 0)
theorem stF_snoc {m : Nat} (x : Int) (pre : List (Ix m)) (y : Ix m) : stF x (fsts (pre ++ [y])) = stp (stF x (fsts pre)) y.1.1 := by simp [stF, fsts]
theorem back_stops (F : Fence) (n : Nat) (hf : F.fn 189) (hro : F.round = none) (hn : 1 ≤ n) (Bs g m : Nat) (hm : m ≤ 1000) (w : World) (hBs : Bs < w.heap.size) (hg : g < w.heap.size)
  (hb : w.cell? ⟨Bs, 0, none⟩ = some (.slice (some ⟨g, 0, none⟩) m m)) (hc : ∀ j, j < m → ∃ x, w.cell? ⟨g, j, none⟩ = some (.int .u8 x)) :
  SeqStopsK F n Tryz.prog 189 #[.pointer (some ⟨Bs, 0, none⟩)] (fun x : Ix m => #[.int .i64 (x.1.1 : Int), .int .u8 x.1.2]) (KpB Bs g m) (fun ys => fsts ys = qDR m m) (fun _ => True) m w := fun l J Jx W hW _ _ hY h0 =>
 back1_in F n hf hro hn l Bs g m hm J Jx hY W ((hW.cell (p := ⟨Bs, 0, none⟩) hBs).trans hb) (fun j hj => by obtain ⟨x, hx⟩ := hc j hj; exact ⟨x, (hW.cell (p := ⟨g, j, none⟩) hg).trans hx⟩) h0
theorem number_in (F : Fence) (n : Nat) (hf : F.fn 140) (hf1 : F.fn 167) (hf2 : F.fn 189) (hro : F.round = none) (hn : 3 ≤ n) (x : Int) (m : Nat) (zs : Array Value) (hm : m ≤ 1000)
  (hmk : ∀ w, (Instr.makeSlice 38 (.int .i64 (m : Int)) (.int .i64 (m : Int))).run Tryz.prog w = .ok (.slice (some ⟨w.heap.size, 0, none⟩) m m) (w.alloc (.cells zs 5))) (hzs : ∀ j, j < m → zs[j]? = some (.int .u8 0)) (w : World) :
  CallsIn F n Tryz.prog 140 #[.int .u64 x, .int .i64 (m : Int)] w fun e w' => e = .returned (.slice (some ⟨w.heap.size + 1, 0, none⟩) m m) ∧ Below w.heap.size w w' ∧ ∃ ys : List (Ix m), fsts ys = qDR m m ∧ ∀ j, j < m → w'.cell? ⟨w.heap.size + 1, j, none⟩ = some (.int .u8 ((stF x (fsts ys)).2 j)) := by
 have h1 : 1 ≤ n := by omega
 refine callsIn_of_wp_marks Tryz.func140 rfl hf ?_ hro
 simp only [Tryz.ntmps140, List.size_toArray, List.length_cons, List.length_nil, Nat.reduceAdd, Nat.reduceSub, Array.replicate_succ, Array.replicate_zero, List.push_toArray, List.append_toArray, List.nil_append, List.cons_append]
 gi_wp2_with (gi_at_call 167; refine (backward_in F (n - 1) hf1 hro _ _ _ _).mono ?_; rintro e w' ⟨rfl, rfl⟩)
 obtain ⟨W0, hW0⟩ : ∃ W0, ((((w.alloc (.cells #[.int .u64 x] 81)).alloc (.cells zs 5)).alloc (.cells #[.slice (some ⟨w.heap.size + 1, 0, none⟩) m m] 38)).alloc (.cells #[.slice (some ⟨w.heap.size + 1, 0, none⟩) m m] 38)) = W0 := ⟨_, rfl⟩
 have hsz : W0.heap.size = w.heap.size + 4 := by rw [← hW0]; simp
 have hB0 : Below w.heap.size w W0 := by rw [← hW0]; exact ((((Below.refl _ _).alloc (Nat.le_refl _) _).alloc (by simp) _).alloc (by simp; omega) _).alloc (by simp; omega) _
 have b0 : Boxed W0 w.heap.size 81 (.int .u64 x) := by rw [← hW0]; exact (((Boxed.new w _ _).alloc _).alloc _).alloc _
 have b2 : Boxed W0 (w.heap.size + 1 + 1) 38 (.slice (some ⟨w.heap.size + 1, 0, none⟩) m m) := by
  rw [← hW0]; have := Boxed.new ((w.alloc (.cells #[.int .u64 x] 81)).alloc (.cells zs 5)) 38 (.slice (some ⟨w.heap.size + 1, 0, none⟩) m m)
  simp only [World.size_alloc] at this; exact this.alloc _
 have b3 : Boxed W0 (w.heap.size + 1 + 1 + 1) 38 (.slice (some ⟨w.heap.size + 1, 0, none⟩) m m) := by
  rw [← hW0]; have := Boxed.new (((w.alloc (.cells #[.int .u64 x] 81)).alloc (.cells zs 5)).alloc (.cells #[.slice (some ⟨w.heap.size + 1, 0, none⟩) m m] 38)) 38 (.slice (some ⟨w.heap.size + 1, 0, none⟩) m m)
  simp only [World.size_alloc] at this; exact this
 have hrow : W0.heap[w.heap.size + 1]? = some (.cells zs 5 (0, 0)) := by
  rw [← hW0]
  refine (Below.heap_alloc _ _ _ (by simp)).trans ((Below.heap_alloc _ _ _ (by simp)).trans ?_)
  have := World.alloc_heap_new (w.alloc (.cells #[.int .u64 x] 81)) (.cells zs 5); rwa [World.size_alloc] at this
 have hrc : ∀ j, j < m → W0.cell? ⟨w.heap.size + 1, j, none⟩ = some (.int .u8 0) := fun j hj => by
  have := hzs j hj
  simp [World.cell?, hrow, this]
 have hrf : ∀ j, W0.frozen? ⟨w.heap.size + 1, j, none⟩ = false := fun j => by simp [World.frozen?, hrow]
 rw [hW0]
 clear hW0 hmk
 refine wpIn_rangeFunc_ownG (α := Ix m) hro h1 (gf := 189) (lb := #[.pointer (some ⟨w.heap.size + 1 + 1 + 1, 0, none⟩)]) rfl hf2 (enters_of Tryz.func189 (by kernel_rfl) rfl)
  (back_stops F (n - 1) hf2 hro (by omega) (w.heap.size + 1 + 1 + 1) (w.heap.size + 1) m hm W0 (by omega) (by omega) b3.cell (fun j hj => ⟨_, hrc j hj⟩)) KpB.t (fun W l o o' => KpB.b (w := W0) W l o o') (Below.refl _ _) (fun _ => rfl)
  (fun pre W => ((W.cell? ⟨w.heap.size, 0, none⟩ = some (.int .u64 (stF x (fsts pre)).1) ∧ W.frozen? ⟨w.heap.size, 0, none⟩ = false) ∧ (∀ j, j < m → W.cell? ⟨w.heap.size + 1, j, none⟩ = some (.int .u8 ((stF x (fsts pre)).2 j)) ∧ W.frozen? ⟨w.heap.size + 1, j, none⟩ = false) ∧ W.cell? ⟨w.heap.size + 1 + 1, 0, none⟩ = some (.slice (some ⟨w.heap.size + 1, 0, none⟩) m m)) ∧ Below w.heap.size w W)
  (fun _ _ _ => False)
  (OwnFrom.and (Own.from (fun s A B row hs hg hr => ⟨⟨cell_kept hs.1.1 hg hr, (frozen_kept hs.1.1 hg hr).trans hs.1.2⟩, fun j hj => ⟨cell_kept (hs.2.1 j hj).1 hg hr, (frozen_kept (hs.2.1 j hj).1 hg hr).trans (hs.2.1 j hj).2⟩, cell_kept hs.2.2 hg hr⟩) _) (ownFrom_below (Nat.le_refl _) (by omega)))
  (fun _ _ _ _ _ hs _ _ => hs)
  ⟨⟨⟨b0.cell, b0.frozen⟩, fun j hj => ⟨hrc j hj, hrf j⟩, b2.cell⟩, hB0⟩
  (fun y => { tmps := #[.int .u64 x, .int .i64 (m : Int), .pointer (some ⟨w.heap.size, 0, none⟩), undef, .slice none 0 0, .pointer (some ⟨w.heap.size + 1 + 1, 0, none⟩), .int .i64 (y.1.1 : Int), .int .i64 (m : Int), .slice (some ⟨w.heap.size + 1, 0, none⟩) m m, .slice (some ⟨w.heap.size + 1, 0, none⟩) m m, .func (.func 189) #[] #[.pointer (some ⟨w.heap.size + 1 + 1 + 1, 0, none⟩)], .int .i64 (y.1.1 : Int), .int .u8 y.1.2, undef, undef, undef, undef, undef, undef, undef, undef], defers := [] }) ?assign ?body ?done ?stop
 case assign =>
  intro l y W K hK
  gi_wp2
  exact hK
 case body =>
  rintro l pre ⟨⟨q, y⟩, hq⟩ W ⟨⟨⟨hc0, hf0⟩, hrw, hc2⟩, hB⟩ _
  have hrq := (hrw q hq).1
  have hfq := (hrw q hq).2
  have hlt : q < m := hq
  have hrwH := hid hrw
  clear hrw
  dsimp only at hq ⊢
  gi_wp2
  have far : ∀ (v1 v2 : Value) (a : Addr), a ≠ ⟨w.heap.size + 1, q, none⟩ → a ≠ ⟨w.heap.size, 0, none⟩ → ((W.setCell ⟨w.heap.size + 1, q, none⟩ v1).setCell ⟨w.heap.size, 0, none⟩ v2).cell? a = W.cell? a := fun v1 v2 a h1 h2 => by
   rw [World.cell?_setCell_other _ _ _ _ (Ne.symm h2), World.cell?_setCell_other _ _ _ _ (Ne.symm h1)]
  have near : ∀ (v1 v2 : Value), ((W.setCell ⟨w.heap.size + 1, q, none⟩ v1).setCell ⟨w.heap.size, 0, none⟩ v2).cell? ⟨w.heap.size + 1, q, none⟩ = some v1 := fun v1 v2 => by
   rw [World.cell?_setCell_other _ _ _ _ (by intro e; injection e with e _; omega)]
   exact World.cell?_setCell_same _ _ _ hrq
  have home : ∀ (v1 v2 : Value), ((W.setCell ⟨w.heap.size + 1, q, none⟩ v1).setCell ⟨w.heap.size, 0, none⟩ v2).cell? ⟨w.heap.size, 0, none⟩ = some v2 := fun v1 v2 => by
   refine World.cell?_setCell_same _ _ _ (u := .int .u64 (stF x (fsts pre)).1) ?_
   rw [World.cell?_setCell_other _ _ _ _ (by intro e; injection e with e _; omega)]
   exact hc0
  have ha : ∀ j, j ≠ q → (⟨w.heap.size + 1, j, none⟩ : Addr) ≠ ⟨w.heap.size + 1, q, none⟩ := fun j hj e => by injection e with _ e; exact hj e
  have hb : ∀ j, (⟨w.heap.size + 1, j, none⟩ : Addr) ≠ ⟨w.heap.size, 0, none⟩ := fun j e => by injection e with e; omega
  refine ⟨((KeepsOthers.setCell W _ _).trans (KeepsOthers.setCell _ _ _)).from _, ⟨fun v hv => ?_, fun j hj y1 hy1 => ?_⟩, ⟨⟨?_, ?_⟩, fun j hj => ⟨?_, ?_⟩, ?_⟩, (hB.setCell (p := ⟨w.heap.size + 1, q, none⟩) (by simp) _).setCell (p := ⟨w.heap.size, 0, none⟩) (Nat.le_refl _) _⟩
  ·rw [far _ _ _ (by intro e; injection e with e; omega) (by intro e; injection e with e; omega)]; exact hv
  ·by_cases hjq : j = q
   ·subst hjq; exact ⟨_, near _ _⟩
   exact ⟨y1, by rw [far _ _ _ (ha j hjq) (hb j)]; exact hy1⟩
  ·rw [stF_snoc]; exact home _ _
  ·rw [World.frozen?_setCell, World.frozen?_setCell]; exact hf0
  ·rw [stF_snoc]
   by_cases hjq : j = q
   ·subst hjq; rw [near]; simp [stp]
   rw [far _ _ _ (ha j hjq) (hb j), (hrwH.out j hj).1]; simp [stp, hjq]
  ·rw [World.frozen?_setCell, World.frozen?_setCell]; exact (hrwH.out j hj).2
  rw [far _ _ _ (by intro e; injection e with e; omega) (by intro e; injection e with e; omega)]; exact hc2
 case done =>
  rintro D ys W hD hys ⟨⟨⟨hc0, hf0⟩, hrw, hc2⟩, hB⟩ hK
  gi_wp2
  refine ⟨by simp, .inl ⟨_, _, rfl, run_takeDeferred hK, ?_⟩⟩
  exact ⟨_, results_tmp rfl _ _ _, rfl, hB.trans (belowK_b (w := w) (Nat.le_refl _) W D _ _ (by omega) hK rfl rfl), ys, hys, fun j hj => cell_kept (hrw j hj).1 (grownBy_putObj' W D _) (fun r e => by cases e; exact ⟨_, hK, rfl⟩)⟩
 case stop =>
  rintro D c pre W _ _ h _
  exact h.elim
theorem stF_backs (x : Int) (m : Nat) : ∀ k, k ≤ m → (stF x (qDR m k)).1 = x / 256 ^ k ∧ ∀ j, j < m → (stF x (qDR m k)).2 j = if m - k ≤ j then x / 256 ^ (m - 1 - j) % 256 else 0 := by
 intro k
 induction k with
 | zero => intro _; exact ⟨(Int.ediv_one x).symm, fun j hj => by rw [if_neg (by omega)]; rfl⟩
 | succ k ih =>
  intro hk
  obtain ⟨h1, h2⟩ := ih (by omega)
  have e : stF x (qDR m (k + 1)) = stp (stF x (qDR m k)) (m - 1 - k) := by rw [backs_succ]; simp [stF]
  rw [e]
  refine ⟨?_, fun j hj => ?_⟩
  ·show (stF x (qDR m k)).1 / 256 = _
   rw [h1, Int.ediv_ediv_of_nonneg (Int.pow_nonneg (by decide)), Int.pow_succ]
  show (if j = m - 1 - k then (stF x (qDR m k)).1 % 256 else (stF x (qDR m k)).2 j) = _
  by_cases hj2 : j = m - 1 - k
  ·rw [if_pos hj2, if_pos (by omega), h1, show m - 1 - j = k by omega]
  rw [if_neg hj2, h2 j hj]
  by_cases h3 : m - k ≤ j
  ·rw [if_pos h3, if_pos (by omega)]
  rw [if_neg h3, if_neg (by omega)]
theorem qDL (x : Int) (m : Nat) (zs : Array Value) (hm : m ≤ 1000)
  (hmk : ∀ w, (Instr.makeSlice 38 (.int .i64 (m : Int)) (.int .i64 (m : Int))).run Tryz.prog w = .ok (.slice (some ⟨w.heap.size, 0, none⟩) m m) (w.alloc (.cells zs 5))) (hzs : ∀ j, j < m → zs[j]? = some (.int .u8 0)) (w : World) :
  Calls Tryz.prog 140 #[.int .u64 x, .int .i64 (m : Int)] w fun e w' => e = .returned (.slice (some ⟨w.heap.size + 1, 0, none⟩) m m) ∧ Below w.heap.size w w' ∧ ∀ j, j < m → w'.cell? ⟨w.heap.size + 1, j, none⟩ = some (.int .u8 ((be x m m).getD j 0)) := by
 refine callsIn_wide.1 ((number_in Fence.wide 3 trivial trivial trivial rfl (Nat.le_refl _) x m zs hm hmk hzs w).mono ?_)
 rintro e w' ⟨he, hB, ys, hys, hc⟩
 refine ⟨he, hB, fun j hj => ?_⟩
 rw [hc j hj, hys, (stF_backs x m m (Nat.le_refl _)).2 j hj, if_pos (by omega)]
 have : (be x m m).getD j 0 = x / 2 ^ (8 * (m - 1 - j)) % 256 := by
  unfold be
  rw [List.getD_eq_getElem?_getD, List.getElem?_map, List.getElem?_range hj]; rfl
 rw [this, show (256 : Int) = 2 ^ 8 from rfl, ← Int.pow_mul]
theorem number_0 (x : Int) (w : World) : Calls Tryz.prog 140 #[.int .u64 x, .int .i64 0] w fun e w' => e = .returned (.slice (some ⟨w.heap.size + 1, 0, none⟩) 0 0) ∧ Below w.heap.size w w' ∧ ∀ j, j < 0 → w'.cell? ⟨w.heap.size + 1, j, none⟩ = some (.int .u8 ((be x 0 0).getD j 0)) :=
 qDL x 0 #[] (by decide) (fun _ => by kernel_rfl) (fun j hj => absurd hj (Nat.not_lt_zero j)) w
theorem number_1 (x : Int) (w : World) : Calls Tryz.prog 140 #[.int .u64 x, .int .i64 1] w fun e w' => e = .returned (.slice (some ⟨w.heap.size + 1, 0, none⟩) 1 1) ∧ Below w.heap.size w w' ∧ ∀ j, j < 1 → w'.cell? ⟨w.heap.size + 1, j, none⟩ = some (.int .u8 ((be x 1 1).getD j 0)) :=
 qDL x 1 #[.int .u8 0] (by decide) (fun _ => by kernel_rfl) (fun j hj => by rw [show j = 0 from Nat.lt_one_iff.1 hj]; rfl) w
theorem number_2 (x : Int) (w : World) : Calls Tryz.prog 140 #[.int .u64 x, .int .i64 2] w fun e w' => e = .returned (.slice (some ⟨w.heap.size + 1, 0, none⟩) 2 2) ∧ Below w.heap.size w w' ∧ ∀ j, j < 2 → w'.cell? ⟨w.heap.size + 1, j, none⟩ = some (.int .u8 ((be x 2 2).getD j 0)) :=
 qDL x 2 #[.int .u8 0, .int .u8 0] (by decide) (fun _ => by kernel_rfl) (fun j hj => by rcases (by omega : j = 0 ∨ j = 1) with rfl | rfl <;> rfl) w
theorem number_8 (x : Int) (w : World) : Calls Tryz.prog 140 #[.int .u64 x, .int .i64 8] w fun e w' => e = .returned (.slice (some ⟨w.heap.size + 1, 0, none⟩) 8 8) ∧ Below w.heap.size w w' ∧ ∀ j, j < 8 → w'.cell? ⟨w.heap.size + 1, j, none⟩ = some (.int .u8 ((be x 8 8).getD j 0)) :=
 qDL x 8 #[.int .u8 0, .int .u8 0, .int .u8 0, .int .u8 0, .int .u8 0, .int .u8 0, .int .u8 0, .int .u8 0] (by decide) (fun _ => by kernel_rfl) (fun j hj => by rcases (by omega : j = 0 ∨ j = 1 ∨ j = 2 ∨ j = 3 ∨ j = 4 ∨ j = 5 ∨ j = 6 ∨ j = 7) with rfl | rfl | rfl | rfl | rfl | rfl | rfl | rfl <;> rfl) w
end Num
end
section
namespace Enc
open Go.RowKit Base Val Tbl Ins Wr Num
structure InsD where
 op : Int
 n : Int
 ty : Int
 b : Int
def InsD.ok (x : InsD) : Bool := okI x.op x.n x.ty x.b
def InsD.z : InsD := ⟨0, 0, 0, 0⟩
def widN (op : Int) : Nat := (wid op).toNat
def insB (x : InsD) : List Int := (x.op % 256) :: (if x.op = 1 then (x.ty % 256) :: be x.b 8 8 else be x.n (widN x.op) (widN x.op))
def encB (l : List InsD) : List Int := l.flatMap insB
theorem qEe (l : List InsD) (k : Nat) (h : k < l.length) : encB (l.take (k + 1)) = encB (l.take k) ++ insB (l.getD k InsD.z) := by
 unfold encB; rw [qCa l k InsD.z h, List.flatMap_append]; simp
theorem be_len (x : Int) (m : Nat) : (be x m m).length = m := qAQ x m m
theorem widN_le (op : Int) : widN op ≤ 9 := by
 unfold widN wid; split
 ·decide
 split
 ·decide
 split <;> decide
theorem qFr (x : InsD) : (insB x).length ≤ 10 := by
 unfold insB; split
 ·simp [qAQ]
 have := widN_le x.op; simp [qAQ]; omega
theorem encB_length (l : List InsD) : (encB l).length ≤ 10 * l.length := by
 unfold encB
 induction l with
 | nil => simp
 | cons x l ih => have := qFr x; simp only [List.flatMap_cons, List.length_append, List.length_cons]; omega
def qDX (W : World) (b o : Nat) (l : List InsD) : Prop := ∀ k x, l[k]? = some x →
 W.cell? ⟨b, o + k * 4, none⟩ = some (.int .i64 x.op) ∧ W.cell? ⟨b, o + k * 4 + 1, none⟩ = some (.int .i64 x.n) ∧ W.cell? ⟨b, o + k * 4 + 2, none⟩ = some (.int .i64 x.ty) ∧ W.cell? ⟨b, o + k * 4 + 3, none⟩ = some (.int .u64 x.b)
theorem qDX.below {W W' : World} {b o : Nat} {l : List InsD} {B : Nat} (h : qDX W b o l) (hb : b < B) (hB : Below B W W') : qDX W' b o l := fun k x hk => by
 obtain ⟨h0, h1, h2, h3⟩ := h k x hk
 exact ⟨(hB.cell (p := ⟨b, o + k * 4, none⟩) hb).trans h0, (hB.cell (p := ⟨b, o + k * 4 + 1, none⟩) hb).trans h1, (hB.cell (p := ⟨b, o + k * 4 + 2, none⟩) hb).trans h2, (hB.cell (p := ⟨b, o + k * 4 + 3, none⟩) hb).trans h3⟩
theorem qCJ {W W' : World} {N0 n : Nat} {E : TypeId} {v : Value} {xs : List Value} (h : W.ownsRow N0 E 1 v n xs) (hB : Below W.heap.size W W') : W'.ownsRow N0 E 1 v n xs := by
 refine ⟨h.1, ?_⟩
 rcases h.2 with r | ⟨g, cap, cur, hv, hb, hg, r⟩
 ·exact .inl r
 exact .inr ⟨g, cap, cur, hv, hb, (hB.block g (Array.getElem?_eq_some_iff.1 hg).1).trans hg, r⟩
theorem news_of {W : World} {g m : Nat} {x : Int} (hc : ∀ j, j < m → W.cell? ⟨g, j, none⟩ = some (.int .u8 ((be x m m).getD j 0))) : ∀ j u, (bv (be x m m))[j]? = some u → W.cell? ((⟨g, 0, none⟩ : Addr).add j) = some u := fun j u hu => by
 have hadd : (⟨g, 0, none⟩ : Addr).add j = ⟨g, j, none⟩ := by unfold Addr.add; split <;> simp_all
 unfold bv at hu
 rw [List.getElem?_map] at hu
 cases hj : (be x m m)[j]? with
 | none => rw [hj] at hu; cases hu
 | some y =>
  rw [hj] at hu; cases hu
  have hlt : j < m := by have := (List.getElem?_eq_some_iff.1 hj).1; rwa [qAQ] at this
  rw [hadd, hc j hlt, List.getD_eq_getElem?_getD, hj]; rfl
theorem bv_ones (bs : List Int) : ∀ u ∈ bv bs, u.oneCell' = true := by
 intro u hu; unfold bv at hu; obtain ⟨y, _, rfl⟩ := List.mem_map.1 hu; rfl
def Out (N0 : Nat) (W : World) (v : Value) (bs : List Int) : Prop := W.ownsRow N0 5 1 v bs.length (bv bs)
theorem step_append_zero {P : Program} {w : World} {ops : Array Oper} {o : Oper} {a : Act} {K : Act → World → Prop} {Q : Exit → Act → World → Prop} {E : Prop} (hgd : o.guard = none) (s x : Operand) (t : TypeId)
  (ho : o.op = .call { callee := .builtin .append, args := #[s, x], argTypes := #[t, t] })
  (base : Nat) (e : TypeId) (i : TypeInfo) (size : Nat) (ht : P.underlying t = some (.slice e)) (hi : P.info? e = some i)
  (v : Value) (n : Nat) (xs : List Value) (hs : a.eval s = v) (hown : w.ownsRow base e size v n xs) (A : Option Addr) (c : Nat) (hx : a.eval x = .slice A 0 c)
  (h : K (a.put o.dst v) w) :
  if Region.wanted o (yielded ops a.tmps) = true then Oper.wp P o a w K Q else E := by
 have hw : Region.wanted o (yielded ops a.tmps) = true := by simp [Region.wanted, hgd]
 rw [if_pos hw]
 have hrun := run_append_zero (P := P) (w := w) base t o.type e i size ht hi v n xs hown A c
 unfold Oper.wp
 simp [execOp, ho, resolve, invoke, builtin, hs, hx, hrun, Result.andThen]
 exact h
theorem row_of (op : Int) (h1 : 2 ≤ op) (h2 : op ≤ 17) : ∃ nm, (∀ w, (Instr.index 202 (.agg qF7) (.int .i64 op)).run Tryz.prog w = .ok (.agg #[.string nm, .int .i64 (wid op)]) w) ∧ (∀ w, (Instr.field 201 (.agg #[.string nm, .int .i64 (wid op)]) 1).run Tryz.prog w = .ok (.int .i64 (wid op)) w) := by
 have ho : op = 2 ∨ op = 3 ∨ op = 4 ∨ op = 5 ∨ op = 6 ∨ op = 7 ∨ op = 8 ∨ op = 9 ∨ op = 10 ∨ op = 11 ∨ op = 12 ∨ op = 13 ∨ op = 14 ∨ op = 15 ∨ op = 16 ∨ op = 17 := by omega
 rcases ho with rfl | rfl | rfl | rfl | rfl | rfl | rfl | rfl | rfl | rfl | rfl | rfl | rfl | rfl | rfl | rfl
 ·exact ⟨⟨#[103, 101, 116]⟩, fun _ => by kernel_rfl, fun _ => by kernel_rfl⟩
 ·exact ⟨⟨#[112, 117, 116]⟩, fun _ => by kernel_rfl, fun _ => by kernel_rfl⟩
 ·exact ⟨⟨#[108, 111, 97, 100]⟩, fun _ => by kernel_rfl, fun _ => by kernel_rfl⟩
 ·exact ⟨⟨#[115, 116, 111, 114, 101]⟩, fun _ => by kernel_rfl, fun _ => by kernel_rfl⟩
 ·exact ⟨⟨#[117, 110]⟩, fun _ => by kernel_rfl, fun _ => by kernel_rfl⟩
 ·exact ⟨⟨#[98, 105, 110]⟩, fun _ => by kernel_rfl, fun _ => by kernel_rfl⟩
 ·exact ⟨⟨#[106, 117, 109, 112]⟩, fun _ => by kernel_rfl, fun _ => by kernel_rfl⟩
 ·exact ⟨⟨#[117, 110, 108, 101, 115, 115]⟩, fun _ => by kernel_rfl, fun _ => by kernel_rfl⟩
 ·exact ⟨⟨#[99, 97, 108, 108]⟩, fun _ => by kernel_rfl, fun _ => by kernel_rfl⟩
 ·exact ⟨⟨#[114, 101, 116, 117, 114, 110]⟩, fun _ => by kernel_rfl, fun _ => by kernel_rfl⟩
 ·exact ⟨⟨#[115, 104, 111, 119]⟩, fun _ => by kernel_rfl, fun _ => by kernel_rfl⟩
 ·exact ⟨⟨#[102, 97, 105, 108]⟩, fun _ => by kernel_rfl, fun _ => by kernel_rfl⟩
 ·exact ⟨⟨#[105, 110, 112, 117, 116]⟩, fun _ => by kernel_rfl, fun _ => by kernel_rfl⟩
 ·exact ⟨⟨#[116, 114, 121]⟩, fun _ => by kernel_rfl, fun _ => by kernel_rfl⟩
 ·exact ⟨⟨#[117, 110, 116, 114, 121]⟩, fun _ => by kernel_rfl, fun _ => by kernel_rfl⟩
 exact ⟨⟨#[100, 114, 111, 112]⟩, fun _ => by kernel_rfl, fun _ => by kernel_rfl⟩
theorem okI_mid_of (op n t b : Int) (h : okI op n t b = true) (h1 : op ≠ 1) : 2 ≤ op ∧ op ≤ 17 ∧ t = 0 ∧ b = 0 ∧ 0 ≤ n ∧ n ≤ 65535 ∧ (wid op = 0 ∨ wid op = 1 ∨ wid op = 2) := by
 have hw : wid op = 0 ∨ wid op = 1 ∨ wid op = 2 := by
  unfold wid; rw [if_neg h1]; split
  ·right; left; rfl
  split
  ·right; right; rfl
  left; rfl
 have hm : most op ≤ 65535 := by
  unfold most; split
  ·omega
  split <;> omega
 unfold okI at h
 split at h
 ·cases h
 rename_i h2
 split at h
 ·cases h
 rename_i h3
 simp only [Decidable.not_not] at h3
 exact ⟨by omega, by omega, h3.1, h3.2.1, h3.2.2.1, by omega, hw⟩
theorem encode_some (b o c : Nat) (l : List InsD) (w : World) (h : qDX w b o l) (hb : b < w.heap.size) (hl : l.length ≤ 4096) (hu : ∀ x ∈ l, U64 x.b) :
  Calls Tryz.prog 84 #[.slice (some ⟨b, o, none⟩) l.length c] w fun e w' => Below w.heap.size w w' ∧
   (((∀ x ∈ l, x.ok = true) ∧ ∃ v, e = .returned (.tuple #[v, .int .i64 0]) ∧ Out w.heap.size w' v (encB l)) ∨ (∃ x ∈ l, x.ok = false) ∧ e = .returned (.tuple #[.slice none 0 0, .int .i64 51])) := by
 have H := hid h
 have HU := hid hu
 clear h hu
 go_enter Tryz.func84, Tryz.ntmps84
 go_wp2
 go_loopw [4, 12] (fun v i wr => ∃ k : Nat, k ≤ l.length ∧ i = .int .i64 (k : Int) ∧ Hid ((∀ x ∈ l.take k, x.ok = true) ∧ Out w.heap.size wr v (encB (l.take k)) ∧ Below w.heap.size w wr)) (fun _ i _ => (l.length - intOf i).toNat)
 case atStart => exact ⟨0, Nat.zero_le _, rfl, hid ⟨by simp, by simpa [encB, Out, bv] using World.ownsRow_nil _ _ _ _, Below.refl _ _⟩⟩
 case round =>
  obtain ⟨k, hk, rfl, hst⟩ := hrel
  by_cases hlt : k < l.length
  rotate_left
  ·obtain rfl : k = l.length := by omega
   go_wp2
   go_ret2
   refine ⟨hst.out.2.2, .inl ⟨?_, _, rfl, ?_⟩⟩
   ·have := hst.out.1; rwa [List.take_length] at this
   have := hst.out.2.1; rwa [List.take_length] at this
  obtain ⟨x, hx⟩ : ∃ x, l[k]? = some x := ⟨l[k], List.getElem?_eq_getElem hlt⟩
  obtain ⟨c0, c1, c2, c3⟩ := (H.out.below hb hst.out.2.2) k x hx
  have hU := HU.out x (List.mem_of_getElem? hx)
  have HR := hid (fun W => qDF x.op x.n x.ty x.b hU W)
  obtain ⟨op, n, ty, bb⟩ := x
  unfold insV at HR
  dsimp only at c0 c1 c2 c3 HR
  go_wp2_with fail
  refine (HR.out _).mono ?_
  rintro e w1 ⟨rfl, hb1⟩
  have hin := List.mem_of_getElem? hx
  have HX := hid hx
  have hBr : Below wr.heap.size wr w1 := ((Below.refl _ _).alloc (Nat.le_refl _) _).trans (hb1.mono (by simp))
  have hs1 : wr.heap.size < w1.heap.size := by have := hb1.size; simp at this; omega
  have bx : ∀ i, w1.cell? ⟨wr.heap.size, i, none⟩ = (#[Value.int .i64 op, .int .i64 n, .int .i64 ty, .int .u64 bb])[i]? := fun i => by
   rw [hb1.cell (p := ⟨wr.heap.size, i, none⟩) (by simp), World.cell?_alloc_at _ _ _ _ rfl]
  have d0 : w1.cell? ⟨wr.heap.size, 0, none⟩ = some (.int .i64 op) := bx 0
  have d1 : w1.cell? ⟨wr.heap.size, 1, none⟩ = some (.int .i64 n) := bx 1
  have d2 : w1.cell? ⟨wr.heap.size, 2, none⟩ = some (.int .i64 ty) := bx 2
  have d3 : w1.cell? ⟨wr.heap.size, 3, none⟩ = some (.int .u64 bb) := bx 3
  clear bx c0 c1 c2 c3 hU HR hx
  cases hok : okI op n ty bb with
  | false =>
   go_wp2
   go_ret2
   exact ⟨hst.out.2.2.trans (hBr.mono hst.out.2.2.size), .inr ⟨⟨_, hin, hok⟩, rfl⟩⟩
  | true =>
   have hO := hst.out.2.1
   have hO1 : Out w.heap.size w1 u4 (encB (l.take k)) := qCJ hO hBr
   have hpv : ∀ g, u4.ownBlock = some g → g < wr.heap.size := fun g hg => (hO.lt g hg).2
   have hlen : (encB (l.take k)).length ≤ 40960 := by have := encB_length (l.take k); simp at this; omega
   obtain ⟨i0, hi, hz0, hz1, hz2⟩ := info_parts infoU8
   have HO1 := hid hO1
   have HPV := hid hpv
   have HL := hid hlen
   have HB := hid hb1
   have HBr := hid hBr
   have D := hid (And.intro d0 (And.intro d1 (And.intro d2 d3)))
   have hN0 := hst.out.2.2.size
   clear hO hO1 hpv hlen hb1 hBr d1 d2 d3
   have hown := (HO1.out).alloc (.cells #[.int .u8 (op % 256)] 5)
   go_wp2_with (at_builtin; refine wpList_append_lies _ rfl _ _ 38 rfl w.heap.size 5 i0 (.int .u8 0) 1 1 Tryz.underlying38 hi hz0 hz1 hz2 rfl (by decide) _ _ _ rfl hown ⟨w1.heap.size, 0, none⟩ 1 1 [.int .u8 (op % 256)] rfl rfl ?c1 ?c2 ?c0 ?c3 ?c4 ?c5 _ rfl ?_)
   case c2 => simp [Value.oneCell']
   case c3 => have := HL.out; unfold maxLen; omega
   case c4 => have := HL.out; omega
   ·exact cell_one_new _ _ _
   ·omega
   ·simp; omega
   intro g cap w2 hown2 hgrow hgg hlt2
   have hfar : some wr.heap.size ≠ u4.ownBlock := fun e => by have := HPV.out _ e.symm; omega
   have ex : ∀ i v, w1.cell? ⟨wr.heap.size, i, none⟩ = some v → w2.cell? ⟨wr.heap.size, i, none⟩ = some v := fun i v hv =>
    hgrow.cell ((World.cell?_alloc_past _ _ _ hs1).trans hv) hfar
   have e0 := ex 0 _ D.out.1
   have e1 := ex 1 _ D.out.2.1
   have e2 := ex 2 _ D.out.2.2.1
   have e3 := ex 3 _ D.out.2.2.2
   have hs2 : w1.heap.size < w2.heap.size := by have := hgrow.size; simp at this; omega
   have hB2 : Below w.heap.size w w2 := ((hst.out.2.2.trans (HBr.out.mono hN0)).alloc (by omega) _).grown hgrow (by simp; omega) (fun j hj => (HO1.out.lt j hj).1)
   have hg2 : g ≠ wr.heap.size := by
    rcases hgg with e | e
    ·have := HPV.out _ e; omega
    omega
   have hX2 : w2.ownsRow w.heap.size 5 1 (.slice (some ⟨g, 0, none⟩) ((encB (l.take k)).length + 1) cap) ((encB (l.take k)).length + 1) (bv (encB (l.take k) ++ [op % 256])) := by rw [qDb]; exact hown2
   obtain ⟨n1, hn1⟩ : ∃ n1, n1 = (encB (l.take k)).length + 1 := ⟨_, rfl⟩
   obtain ⟨bs1, hbs1⟩ : ∃ bs1, bs1 = encB (l.take k) ++ [op % 256] := ⟨_, rfl⟩
   rw [← hn1, ← hbs1] at hX2
   rw [← hn1]
   have HX2 := hid hX2
   have HB2 := hid hB2
   have HN1 := hid hn1
   have HBS := hid hbs1
   have hbx : wr.heap.size < w2.heap.size := by omega
   generalize wr.heap.size = q at *
   clear hown2 hgrow hgg hown hfar ex D HB HBr HO1 HPV hN0 hs1 hs2 d0 hX2 hB2 hn1 hbs1
   by_cases h1 : op = 1
   ·subst h1
    have hm1 : n1 + 1 ≤ maxLen := by have := HL.out; have := HN1.out; unfold maxLen; omega
    have hm2 : n1 + 1 + 8 ≤ maxLen := by have := HL.out; have := HN1.out; unfold maxLen; omega
    have hm3 : (n1 + 1) * 1 ≤ 140737488355328 := by have := HL.out; have := HN1.out; omega
    have hm4 : (n1 + 1 + 8) * 1 ≤ 140737488355328 := by have := HL.out; have := HN1.out; omega
    have hws := HB2.out.size
    have hqg : some q ≠ (Value.slice (some ⟨g, 0, none⟩) n1 cap).ownBlock := by simp [Value.ownBlock]; exact fun e => hg2 e.symm
    go_wp2_with fail
    go_region_held3 (fun W => W.cell? ⟨q, 2, none⟩ = some (.int .i64 ty) ∧ W.cell? ⟨q, 3, none⟩ = some (.int .u64 bb))
     (first | go_keep | exact ⟨(hBq.cell (p := ⟨q, 2, none⟩) hq3).trans f2, (hBq.cell (p := ⟨q, 3, none⟩) hq3).trans f3⟩ | exact ⟨f2, f3⟩ | exact ⟨f2', f3'⟩)
     (first
       | (refine step_append_lies _ rfl _ _ 38 rfl w.heap.size 5 i0 (.int .u8 0) 1 1 Tryz.underlying38 hi hz0 hz1 hz2 rfl (by decide) _ _ _ (by first | rfl | simp [Act.eval]) ((qCJ HX2.out (Below.refl _ _).drew).alloc (.cells #[.int .u8 (ty % 256)] 5)) ⟨w2.heap.size, 0, none⟩ 1 1 [.int .u8 (ty % 256)] (by first | rfl | simp [Act.eval]) rfl (cell_one_new _ _ _) (by simp [Value.oneCell']) (by omega) hm1 hm3 (by simp; omega) _ rfl ?_; intro g3 cap3 w3 hown3 hgrow3 hgg3 hlt3;
          have f2 : w3.cell? ⟨q, 2, none⟩ = some (.int .i64 ty) := hgrow3.cell ((World.cell?_alloc_past _ _ _ hbx).trans e2) hqg;
          have f3 : w3.cell? ⟨q, 3, none⟩ = some (.int .u64 bb) := hgrow3.cell ((World.cell?_alloc_past _ _ _ hbx).trans e3) hqg;
          have hq3 : q < w3.heap.size := World.block_lt_of_cell? w3 _ f2;
          have hg3 : g3 ≠ q := by { rcases hgg3 with e | e
                                    · simp [Value.ownBlock] at e; omega
                                    · simp at e; omega };
          have hB3 : Below w.heap.size w w3 := (HB2.out.drew.alloc (by simp; omega) _).grown hgrow3 (by simp; omega) (fun j hj => (HX2.out.lt j hj).1))
       | (go_at_call 140; refine (number_8 bb _).mono ?_; rintro e w4 ⟨rfl, hBq, hc4⟩)
       | (refine step_append_lies _ rfl _ _ 38 rfl w.heap.size 5 i0 (.int .u8 0) 1 1 Tryz.underlying38 hi hz0 hz1 hz2 rfl (by decide) _ _ _ (by first | rfl | simp [Act.eval]) (qCJ hown3 hBq) ⟨w3.heap.size + 1, 0, none⟩ 8 8 (bv (be bb 8 8)) (by first | rfl | simp [Act.eval]) (by rw [qD3, qAQ]) (news_of hc4) (bv_ones _) (by omega) hm2 hm4 (Nat.le_trans hB3.size hBq.size) _ rfl ?_; intro g5 cap5 w5 hown5 hgrow5 hgg5 hlt5;
          have hq5 : some q ≠ (Value.slice (some ⟨g3, 0, none⟩) (n1 + 1) cap3).ownBlock := by { simp [Value.ownBlock]; exact fun e => hg3 e.symm };
          have f2' : w5.cell? ⟨q, 2, none⟩ = some (.int .i64 ty) := hgrow5.cell ((hBq.cell (p := ⟨q, 2, none⟩) hq3).trans f2) hq5;
          have f3' : w5.cell? ⟨q, 3, none⟩ = some (.int .u64 bb) := hgrow5.cell ((hBq.cell (p := ⟨q, 3, none⟩) hq3).trans f3) hq5))
    have hB5 : Below w.heap.size w w5 := ((hB3.trans (hBq.mono hB3.size)).grown hgrow5 (Nat.le_trans hB3.size hBq.size) (fun j hj => (hown3.lt j hj).1))
    have H5 : Hid (Out w.heap.size w5 (.slice (some ⟨g5, 0, none⟩) (n1 + 1 + 8) cap5) (encB (l.take (k + 1)))) := hid (by
      have e : encB (l.take (k + 1)) = bs1 ++ [ty % 256] ++ be bb 8 8 := by
        rw [qEe l k hlt, show l.getD k InsD.z = ⟨1, n, ty, bb⟩ from by rw [List.getD_eq_getElem?_getD, HX.out]; rfl, HBS.out]; simp [insB]
      have e2 : (encB (l.take (k + 1))).length = n1 + 1 + 8 := by rw [e, HBS.out, HN1.out]; simp [qAQ]
      unfold Out
      rw [e2, e, qDb, qDb]
      exact hown5)
    have HB5 := hid hB5
    clear hB5 hown5 hgrow5 hgg5 hlt5 hc4 hBq hB3 hg3 hq3 f2 f3 hown3 hgrow3 hgg3 hlt3 f2' f3' hq5
    go_wp2
    go_roundw
    case rel =>
     refine ⟨k + 1, by omega, by simp, hid ⟨fun y hy => ?_, H5.out, HB5.out⟩⟩
     rw [qCa l k InsD.z hlt, show l.getD k InsD.z = ⟨1, n, ty, bb⟩ from by rw [List.getD_eq_getElem?_getD, HX.out]; rfl] at hy
     rcases List.mem_append.1 hy with hy | hy
     ·exact hst.out.1 y hy
     obtain rfl := List.mem_singleton.1 hy; exact hok
    case measure => simp [intOf]; omega
   have h1' : (op == 1) = false := beq_eq_false_iff_ne.mpr h1
   obtain ⟨hop2, hop17, rfl, rfl, hn0, hnm, hwd⟩ := okI_mid_of op n ty bb hok h1
   obtain ⟨nm, hix, hif⟩ := row_of op hop2 hop17
   have hws := HB2.out.size
   have hqg : some q ≠ (Value.slice (some ⟨g, 0, none⟩) n1 cap).ownBlock := by simp [Value.ownBlock]; exact fun e => hg2 e.symm
   have hins : insB ⟨op, n, 0, 0⟩ = (op % 256) :: be n (widN op) (widN op) := by simp [insB, h1]
   have hgd : l.getD k InsD.z = ⟨op, n, 0, 0⟩ := by rw [List.getD_eq_getElem?_getD, HX.out]; rfl
   have HINS := hid hins
   have HGD := hid hgd
   clear hins hgd
   rcases hwd with hwd | hwd | hwd
   ·rw [hwd] at hix hif
    have HWN : Hid (widN op = 0) := hid (by unfold widN; rw [hwd]; rfl)
    have hm2 : n1 + 0 ≤ maxLen := by have := HL.out; have := HN1.out; unfold maxLen; omega
    have hm4 : (n1 + 0) * 1 ≤ 140737488355328 := by have := HL.out; have := HN1.out; omega
    clear hwd
    have hwr : IntKind.u64.wrap n = n := by simp [IntKind.wrap, IntKind.bits, IntKind.signed]; omega
    go_wp2_with fail
    go_region_held3 (fun W => W.cell? ⟨q, 0, none⟩ = some (.int .i64 op) ∧ W.cell? ⟨q, 1, none⟩ = some (.int .i64 n))
     (first | go_keep | exact ⟨e0, e1⟩ | exact ⟨(hBt.cell (p := ⟨q, 0, none⟩) hbx).trans e0, (hBt.cell (p := ⟨q, 1, none⟩) hbx).trans e1⟩ | exact ⟨(hBu.cell (p := ⟨q, 0, none⟩) hbx).trans e0, (hBu.cell (p := ⟨q, 1, none⟩) hbx).trans e1⟩ | exact ⟨f0', f1'⟩)
     (first
       | (go_at_call 141; refine (qDr _).mono ?_; rintro e w3 ⟨rfl, hBr⟩;
          have hBt : Below w2.heap.size w2 w3 := (Below.refl _ _).drew.trans hBr)
       | (go_at_call 140; refine (number_0 n _).mono ?_; rintro e w4 ⟨rfl, hBq, hc4⟩;
          have hBu : Below w2.heap.size w2 w4 := hBt.trans (hBq.mono hBt.size))
       | (refine step_append_zero rfl _ _ 38 rfl w.heap.size 5 i0 1 Tryz.underlying38 hi _ _ _ (by first | rfl | simp [Act.eval]) (qCJ HX2.out hBu) _ _ (by first | rfl | simp [Act.eval]) ?_))
    have H5 : Hid (Out w.heap.size w4 (.slice (some ⟨g, 0, none⟩) n1 cap) (encB (l.take (k + 1)))) := hid (by
      have e : encB (l.take (k + 1)) = bs1 := by
        rw [qEe l k hlt, HGD.out, HINS.out, HWN.out, HBS.out]; simp [be]
      have e2 : (encB (l.take (k + 1))).length = n1 := by rw [e, HBS.out, HN1.out]; simp
      unfold Out
      rw [e2, e]
      exact qCJ HX2.out hBu)
    have HB5 : Hid (Below w.heap.size w w4) := hid (HB2.out.trans (hBu.mono hws))
    clear hc4 hBq hBu hBt hBr
    go_wp2
    go_roundw
    case rel =>
     refine ⟨k + 1, by omega, by simp, hid ⟨fun y hy => ?_, H5.out, HB5.out⟩⟩
     rw [qCa l k InsD.z hlt, HGD.out] at hy
     rcases List.mem_append.1 hy with hy | hy
     ·exact hst.out.1 y hy
     obtain rfl := List.mem_singleton.1 hy; exact hok
    case measure => simp [intOf]; omega
   ·rw [hwd] at hix hif
    have HWN : Hid (widN op = 1) := hid (by unfold widN; rw [hwd]; rfl)
    have hm2 : n1 + 1 ≤ maxLen := by have := HL.out; have := HN1.out; unfold maxLen; omega
    have hm4 : (n1 + 1) * 1 ≤ 140737488355328 := by have := HL.out; have := HN1.out; omega
    clear hwd
    have hwr : IntKind.u64.wrap n = n := by simp [IntKind.wrap, IntKind.bits, IntKind.signed]; omega
    go_wp2_with fail
    go_region_held3 (fun W => W.cell? ⟨q, 0, none⟩ = some (.int .i64 op) ∧ W.cell? ⟨q, 1, none⟩ = some (.int .i64 n))
     (first | go_keep | exact ⟨e0, e1⟩ | exact ⟨(hBt.cell (p := ⟨q, 0, none⟩) hbx).trans e0, (hBt.cell (p := ⟨q, 1, none⟩) hbx).trans e1⟩ | exact ⟨(hBu.cell (p := ⟨q, 0, none⟩) hbx).trans e0, (hBu.cell (p := ⟨q, 1, none⟩) hbx).trans e1⟩ | exact ⟨f0', f1'⟩)
     (first
       | (go_at_call 141; refine (qDr _).mono ?_; rintro e w3 ⟨rfl, hBr⟩;
          have hBt : Below w2.heap.size w2 w3 := (Below.refl _ _).drew.trans hBr)
       | (go_at_call 140; refine (number_1 n _).mono ?_; rintro e w4 ⟨rfl, hBq, hc4⟩;
          have hBu : Below w2.heap.size w2 w4 := hBt.trans (hBq.mono hBt.size))
       | (refine step_append_lies _ rfl _ _ 38 rfl w.heap.size 5 i0 (.int .u8 0) 1 1 Tryz.underlying38 hi hz0 hz1 hz2 rfl (by decide) _ _ _ (by first | rfl | simp [Act.eval]) (qCJ HX2.out hBu) ⟨w3.heap.size + 1, 0, none⟩ 1 1 (bv (be n 1 1)) (by first | rfl | simp [Act.eval]) (by rw [qD3, qAQ]) (news_of hc4) (bv_ones _) (by omega) hm2 hm4 (Nat.le_trans hws hBu.size) _ rfl ?_; intro g5 cap5 w5 hown5 hgrow5 hgg5 hlt5;
          have f0' : w5.cell? ⟨q, 0, none⟩ = some (.int .i64 op) := hgrow5.cell ((hBu.cell (p := ⟨q, 0, none⟩) hbx).trans e0) hqg;
          have f1' : w5.cell? ⟨q, 1, none⟩ = some (.int .i64 n) := hgrow5.cell ((hBu.cell (p := ⟨q, 1, none⟩) hbx).trans e1) hqg))
    have H5 : Hid (Out w.heap.size w5 (.slice (some ⟨g5, 0, none⟩) (n1 + 1) cap5) (encB (l.take (k + 1)))) := hid (by
      have e : encB (l.take (k + 1)) = bs1 ++ be n 1 1 := by
        rw [qEe l k hlt, HGD.out, HINS.out, HWN.out, HBS.out]; simp
      have e2 : (encB (l.take (k + 1))).length = n1 + 1 := by rw [e, HBS.out, HN1.out]; simp [qAQ]
      unfold Out
      rw [e2, e, qDb]
      exact hown5)
    have HB5 : Hid (Below w.heap.size w w5) := hid ((HB2.out.trans (hBu.mono hws)).grown hgrow5 (Nat.le_trans hws hBu.size) (fun j hj => (HX2.out.lt j hj).1))
    clear hown5 hgrow5 hgg5 hlt5 hc4 hBq hBu hBt hBr f0' f1'
    go_wp2
    go_roundw
    case rel =>
     refine ⟨k + 1, by omega, by simp, hid ⟨fun y hy => ?_, H5.out, HB5.out⟩⟩
     rw [qCa l k InsD.z hlt, HGD.out] at hy
     rcases List.mem_append.1 hy with hy | hy
     ·exact hst.out.1 y hy
     obtain rfl := List.mem_singleton.1 hy; exact hok
    case measure => simp [intOf]; omega
   rw [hwd] at hix hif
   have HWN : Hid (widN op = 2) := hid (by unfold widN; rw [hwd]; rfl)
   have hm2 : n1 + 2 ≤ maxLen := by have := HL.out; have := HN1.out; unfold maxLen; omega
   have hm4 : (n1 + 2) * 1 ≤ 140737488355328 := by have := HL.out; have := HN1.out; omega
   clear hwd
   have hwr : IntKind.u64.wrap n = n := by simp [IntKind.wrap, IntKind.bits, IntKind.signed]; omega
   go_wp2_with fail
   go_region_held3 (fun W => W.cell? ⟨q, 0, none⟩ = some (.int .i64 op) ∧ W.cell? ⟨q, 1, none⟩ = some (.int .i64 n))
    (first | go_keep | exact ⟨e0, e1⟩ | exact ⟨(hBt.cell (p := ⟨q, 0, none⟩) hbx).trans e0, (hBt.cell (p := ⟨q, 1, none⟩) hbx).trans e1⟩ | exact ⟨(hBu.cell (p := ⟨q, 0, none⟩) hbx).trans e0, (hBu.cell (p := ⟨q, 1, none⟩) hbx).trans e1⟩ | exact ⟨f0', f1'⟩)
    (first
      | (go_at_call 141; refine (qDr _).mono ?_; rintro e w3 ⟨rfl, hBr⟩;
         have hBt : Below w2.heap.size w2 w3 := (Below.refl _ _).drew.trans hBr)
      | (go_at_call 140; refine (number_2 n _).mono ?_; rintro e w4 ⟨rfl, hBq, hc4⟩;
         have hBu : Below w2.heap.size w2 w4 := hBt.trans (hBq.mono hBt.size))
      | (refine step_append_lies _ rfl _ _ 38 rfl w.heap.size 5 i0 (.int .u8 0) 1 1 Tryz.underlying38 hi hz0 hz1 hz2 rfl (by decide) _ _ _ (by first | rfl | simp [Act.eval]) (qCJ HX2.out hBu) ⟨w3.heap.size + 1, 0, none⟩ 2 2 (bv (be n 2 2)) (by first | rfl | simp [Act.eval]) (by rw [qD3, qAQ]) (news_of hc4) (bv_ones _) (by omega) hm2 hm4 (Nat.le_trans hws hBu.size) _ rfl ?_; intro g5 cap5 w5 hown5 hgrow5 hgg5 hlt5;
         have f0' : w5.cell? ⟨q, 0, none⟩ = some (.int .i64 op) := hgrow5.cell ((hBu.cell (p := ⟨q, 0, none⟩) hbx).trans e0) hqg;
         have f1' : w5.cell? ⟨q, 1, none⟩ = some (.int .i64 n) := hgrow5.cell ((hBu.cell (p := ⟨q, 1, none⟩) hbx).trans e1) hqg))
   have H5 : Hid (Out w.heap.size w5 (.slice (some ⟨g5, 0, none⟩) (n1 + 2) cap5) (encB (l.take (k + 1)))) := hid (by
     have e : encB (l.take (k + 1)) = bs1 ++ be n 2 2 := by
       rw [qEe l k hlt, HGD.out, HINS.out, HWN.out, HBS.out]; simp
     have e2 : (encB (l.take (k + 1))).length = n1 + 2 := by rw [e, HBS.out, HN1.out]; simp [qAQ]
     unfold Out
     rw [e2, e, qDb]
     exact hown5)
   have HB5 : Hid (Below w.heap.size w w5) := hid ((HB2.out.trans (hBu.mono hws)).grown hgrow5 (Nat.le_trans hws hBu.size) (fun j hj => (HX2.out.lt j hj).1))
   clear hown5 hgrow5 hgg5 hlt5 hc4 hBq hBu hBt hBr f0' f1'
   go_wp2
   go_roundw
   case rel =>
    refine ⟨k + 1, by omega, by simp, hid ⟨fun y hy => ?_, H5.out, HB5.out⟩⟩
    rw [qCa l k InsD.z hlt, HGD.out] at hy
    rcases List.mem_append.1 hy with hy | hy
    ·exact hst.out.1 y hy
    obtain rfl := List.mem_singleton.1 hy; exact hok
   case measure => simp [intOf]; omega
theorem encode_nil (w : World) : Calls Tryz.prog 84 #[.slice none 0 0] w fun e w' => e = .returned (.tuple #[.slice none 0 0, .int .i64 0]) ∧ w' = w := by
 go_enter Tryz.func84, Tryz.ntmps84
 go_wp2
 go_loopw [4, 12] (fun v i wr => v = .slice none 0 0 ∧ i = .int .i64 0 ∧ wr = w) (fun _ _ _ => 0)
 case atStart => exact ⟨rfl, rfl, rfl⟩
 case round =>
  obtain ⟨rfl, rfl, rfl⟩ := hrel
  go_wp2
  go_ret2
  exact ⟨rfl, rfl⟩
theorem encode_big (A : Option Addr) (n c : Nat) (h : 4096 < n) (w : World) : Calls Tryz.prog 84 #[.slice A n c] w fun e w' => e = .returned (.tuple #[.slice none 0 0, .int .i64 3]) ∧ w' = w := by
 have h' : decide (4096 < (n : Int)) = true := by simp; omega
 go_enter Tryz.func84, Tryz.ntmps84
 go_wp2
 go_ret2
 exact ⟨rfl, rfl⟩
def InsRow (W : World) (v : Value) (l : List InsD) : Prop := (v = .slice none 0 0 ∧ l = []) ∨ ∃ b o c, v = .slice (some ⟨b, o, none⟩) l.length c ∧ b < W.heap.size ∧ qDX W b o l
theorem encode_any (v : Value) (l : List InsD) (w : World) (h : InsRow w v l) (hu : ∀ x ∈ l, U64 x.b) :
  Calls Tryz.prog 84 #[v] w fun e w' => Below w.heap.size w w' ∧
   (4096 < l.length ∧ e = .returned (.tuple #[.slice none 0 0, .int .i64 3]) ∨ l.length ≤ 4096 ∧ (((∀ x ∈ l, x.ok = true) ∧ ∃ r, e = .returned (.tuple #[r, .int .i64 0]) ∧ Out w.heap.size w' r (encB l)) ∨ (∃ x ∈ l, x.ok = false) ∧ e = .returned (.tuple #[.slice none 0 0, .int .i64 51]))) := by
 rcases h with ⟨rfl, rfl⟩ | ⟨b, o, c, rfl, hb, hc⟩
 ·exact (encode_nil w).mono fun e w' ⟨he, hw⟩ => ⟨hw ▸ Below.refl _ _, .inr ⟨by simp, .inl ⟨by simp, _, he, by simpa [encB, Out, bv] using World.ownsRow_nil _ _ _ _⟩⟩⟩
 ·by_cases hl : 4096 < l.length
  ·exact (encode_big _ _ c hl w).mono fun e w' ⟨he, hw⟩ => ⟨hw ▸ Below.refl _ _, .inl ⟨hl, he⟩⟩
  ·exact (encode_some b o c l w hc hb (by omega) hu).mono fun e w' ⟨hB, hr⟩ => ⟨hB, .inr ⟨by omega, hr⟩⟩
end Enc
end
section
namespace DecLaw
open Go.RowKit Base Val Ins Wr Enc
def valB (l : List Int) : Int := l.foldl (fun v x => v * 256 + x) 0
def qBJ (l : List Int) : Prop := ∀ x ∈ l, 0 ≤ x ∧ x < 256
theorem qEv (l : List Int) (x : Int) : valB (l ++ [x]) = valB l * 256 + x := by simp [valB]
theorem be_snoc (n : Int) (m : Nat) : be n (m + 1) (m + 1) = be (n / 256) m m ++ [n % 256] := by
 unfold be
 rw [List.range_succ, List.map_append]
 congr 1
 ·apply List.map_congr_left
  intro t ht
  have ht' : t < m := List.mem_range.1 ht
  rw [show 8 * (m + 1 - 1 - t) = 8 + 8 * (m - 1 - t) by omega, Int.pow_add, ← Int.ediv_ediv_of_nonneg (by decide)]
  rfl
 simp
theorem be_valB : ∀ (m : Nat) (l : List Int), l.length = m → qBJ l → be (valB l) m m = l := by
 intro m
 induction m with
 | zero => intro l hl _; rw [List.length_eq_zero_iff.1 hl]; rfl
 | succ m ih =>
  intro l hl hb
  obtain ⟨l0, x, rfl⟩ : ∃ l0 x, l = l0 ++ [x] := ⟨l.dropLast, l.getLast (by intro e; simp [e] at hl), (List.dropLast_concat_getLast _).symm⟩
  have hx := hb x (by simp)
  rw [qEv, be_snoc, show (valB l0 * 256 + x) / 256 = valB l0 by omega, show (valB l0 * 256 + x) % 256 = x by omega, ih l0 (by simpa using hl) (fun y hy => hb y (by simp [hy]))]
theorem valB_be : ∀ (m : Nat) (n : Int), 0 ≤ n → n < 256 ^ m → valB (be n m m) = n := by
 intro m
 induction m with
 | zero =>
  intro n h0 h1; simp at h1; have : n = 0 := by omega
  subst this; rfl
 | succ m ih =>
  intro n h0 h1
  rw [Int.pow_succ] at h1
  rw [be_snoc, qEv, ih (n / 256) (by omega) (by omega)]
  omega
def qCp (r : List Int) : InsD :=
 if r.getD 0 0 = 1 then ⟨1, 0, r.getD 1 0, valB ((r.drop 2).take 8)⟩ else ⟨r.getD 0 0, valB ((r.drop 1).take (widN (r.getD 0 0))), 0, 0⟩
theorem ok_op {x : InsD} (h : x.ok = true) : 1 ≤ x.op ∧ x.op ≤ 17 := by
 unfold InsD.ok okI at h
 split at h
 ·cases h
 omega
theorem ok_n {x : InsD} (h : x.ok = true) (h1 : x.op ≠ 1) : x.ty = 0 ∧ x.b = 0 ∧ 0 ≤ x.n ∧ x.n < 256 ^ widN x.op := by
 obtain ⟨_, _, ht, hb, hn0, _, hw⟩ := okI_mid_of x.op x.n x.ty x.b h h1
 refine ⟨ht, hb, hn0, ?_⟩
 have hm : x.n ≤ most x.op := by
  unfold InsD.ok okI at h
  split at h
  ·cases h
  split at h
  ·cases h
  rename_i h3; simp only [Decidable.not_not] at h3; exact h3.2.2.2
 unfold most at hm
 unfold widN
 rcases hw with e | e | e <;> rw [e] at hm ⊢ <;> simp at hm ⊢ <;> omega
theorem ok_push {x : InsD} (h : x.ok = true) (h1 : x.op = 1) : x.n = 0 ∧ 1 ≤ x.ty ∧ x.ty ≤ 3 := by
 unfold InsD.ok at h
 rw [h1, okI_1] at h
 simp only [Bool.and_eq_true, beq_iff_eq] at h
 refine ⟨h.1, ?_⟩
 by_cases hn : x.ty < 1 ∨ 3 < x.ty
 rotate_left
 ·omega
 rw [okV_no _ _ hn] at h; exact absurd h.2 (by simp)
theorem insB_len {x : InsD} (h : x.ok = true) : ((insB x).length : Int) = qBL x.op := by
 obtain ⟨h1, h2⟩ := ok_op h
 have hs : qBL x.op = 1 + wid x.op := by unfold qBL; rw [if_neg (by omega)]
 rw [hs]
 unfold insB
 by_cases e : x.op = 1
 ·rw [if_pos e, e]; simp [qAQ, wid]
 rw [if_neg e]
 have : 0 ≤ wid x.op := by
  unfold wid; split
  ·omega
  split
  ·omega
  split <;> omega
 simp only [List.length_cons, qAQ]
 unfold widN
 omega
theorem qDM {x : InsD} (h : x.ok = true) (hb : U64 x.b) (t : List Int) : qCp (insB x ++ t) = x := by
 obtain ⟨h1, h2⟩ := ok_op h
 have hop : x.op % 256 = x.op := by omega
 obtain ⟨op, n, ty, b⟩ := x
 dsimp only at *
 by_cases e : op = 1
 rotate_left
 ·obtain ⟨ht, hb0, hn0, hn1⟩ := ok_n h e
  dsimp only at ht hb0 hn0 hn1
  subst ht hb0
  unfold qCp insB
  simp only [if_neg e, List.cons_append, List.getD_cons_zero, List.drop_succ_cons, List.drop_zero, hop]
  rw [List.take_append_of_le_length (by rw [qAQ]; omega), List.take_of_length_le (by rw [qAQ]; omega), valB_be _ _ hn0 hn1]
 subst e
 obtain ⟨hn, ht1, ht3⟩ := ok_push h rfl
 dsimp only at hn ht1 ht3
 subst hn
 unfold qCp insB
 have hv := valB_be 8 b hb.1 (by have := hb.2; simpa using this)
 simp only [if_true, List.cons_append, List.getD_cons_zero, List.getD_cons_succ, List.drop_succ_cons, List.drop_zero, hop]
 rw [show ty % 256 = ty by omega, List.take_append_of_le_length (by rw [qAQ]; omega), List.take_of_length_le (by rw [qAQ]; omega), hv]
theorem qE5 (r : List Int) (hr : qBJ r) (h0 : qBL (r.getD 0 0) ≠ 0) (hl : qBL (r.getD 0 0) ≤ r.length) (hn : r ≠ []) :
  insB (qCp r) ++ r.drop (qBL (r.getD 0 0)).toNat = r := by
 cases r with
 | nil => exact absurd rfl hn
 | cons op r =>
  rw [List.getD_cons_zero] at *
  have hop := hr op (by simp)
  have hb : qBJ r := fun x hx => hr x (by simp [hx])
  have h17 : ¬(op < 1 ∨ 17 < op) := by
   intro h; apply h0; unfold qBL; rw [if_pos h]
  have hsz : qBL op = 1 + wid op := by unfold qBL; rw [if_neg h17]
  by_cases e : op = 1
  ·subst e
   have h10 : qBL 1 = 10 := rfl
   rw [h10] at hl ⊢
   cases r with
   | nil => simp at hl
   | cons ty r =>
    have hty := hb ty (by simp)
    have hl8 : 8 ≤ r.length := by simp at hl; omega
    unfold qCp insB
    simp only [List.getD_cons_zero, List.getD_cons_succ, List.drop_succ_cons, List.drop_zero, if_true]
    rw [be_valB 8 (r.take 8) (by rw [List.length_take]; omega) (fun x hx => hb x (by simp [List.mem_of_mem_take hx])), show ty % 256 = ty by omega]
    simp
  unfold qCp insB
  have hw0 : 0 ≤ wid op := by
   unfold wid; split
   ·omega
   split
   ·omega
   split <;> omega
  have hlw : widN op ≤ r.length := by unfold widN; simp at hl; omega
  simp only [List.getD_cons_zero, List.drop_succ_cons, List.drop_zero, if_neg e]
  rw [be_valB (widN op) (r.take (widN op)) (by rw [List.length_take]; omega) (fun x hx => hb x (List.mem_of_mem_take hx)), show op % 256 = op by omega, hsz, show (1 + wid op).toNat = widN op + 1 by unfold widN; omega]
  simp
def DecOk (bs : List Int) (l : List InsD) : Prop := (∀ x ∈ l, x.ok = true ∧ U64 x.b) ∧ l.length ≤ 4096 ∧ bs = encB l
def qFc (bs : List Int) : Prop := ∃ l r, (∀ x ∈ l, x.ok = true ∧ U64 x.b) ∧ l.length = 4097 ∧ bs = encB l ++ r
def DecBad (bs : List Int) : Prop := ∃ l r, (∀ x ∈ l, x.ok = true ∧ U64 x.b) ∧ l.length ≤ 4096 ∧ bs = encB l ++ r ∧ r ≠ [] ∧ ∀ x t, x.ok = true → U64 x.b → r ≠ insB x ++ t
theorem insB_front {x y : InsD} {s t : List Int} (hx : x.ok = true ∧ U64 x.b) (hy : y.ok = true ∧ U64 y.b) (h : insB x ++ s = insB y ++ t) : x = y ∧ s = t := by
 have e : x = y := by rw [← qDM hx.1 hx.2 s, h, qDM hy.1 hy.2 t]
 subst e
 exact ⟨rfl, List.append_cancel_left h⟩
theorem qEf : ∀ (l m : List InsD) (s t : List Int), (∀ x ∈ l, x.ok = true ∧ U64 x.b) → (∀ x ∈ m, x.ok = true ∧ U64 x.b) → encB l ++ s = encB m ++ t →
  (∃ d, m = l ++ d ∧ s = encB d ++ t) ∨ (∃ d, l = m ++ d ∧ t = encB d ++ s) := by
 intro l
 induction l with
 | nil => intro m s t _ _ h; exact .inl ⟨m, rfl, by simpa [encB] using h⟩
 | cons x l ih =>
  intro m s t hl hm h
  cases m with
  | nil => exact .inr ⟨x :: l, rfl, by simpa [encB] using h.symm⟩
  | cons y m =>
   simp only [encB, List.flatMap_cons, List.append_assoc] at h
   obtain ⟨rfl, h2⟩ := insB_front (hl x (by simp)) (hm y (by simp)) h
   rcases ih m s t (fun z hz => hl z (by simp [hz])) (fun z hz => hm z (by simp [hz])) h2 with ⟨d, e1, e2⟩ | ⟨d, e1, e2⟩
   ·exact .inl ⟨d, by rw [e1]; rfl, e2⟩
   exact .inr ⟨d, by rw [e1]; rfl, e2⟩
theorem qEc (x : InsD) (l : List InsD) : encB (x :: l) = insB x ++ encB l := rfl
theorem insB_ne (x : InsD) (t : List Int) : insB x ++ t ≠ [] := by unfold insB; simp
theorem ok_ok {bs : List Int} {l m : List InsD} (h : DecOk bs l) (k : DecOk bs m) : l = m := by
 have e : encB l ++ [] = encB m ++ [] := by rw [List.append_nil, List.append_nil, ← h.2.2, ← k.2.2]
 rcases qEf l m [] [] h.1 k.1 e with ⟨d, e1, e2⟩ | ⟨d, e1, e2⟩ <;>
 cases d with
 | nil => simp [e1]
 | cons y d => rw [qEc, List.append_assoc] at e2; exact absurd e2.symm (insB_ne _ _)
theorem ok_big {bs : List Int} {l : List InsD} (h : DecOk bs l) (k : qFc bs) : False := by
 obtain ⟨m, r, hm, hl, hr⟩ := k
 have e : encB l ++ [] = encB m ++ r := by rw [List.append_nil, ← h.2.2, hr]
 rcases qEf l m [] r h.1 hm e with ⟨d, e1, e2⟩ | ⟨d, e1, e2⟩
 ·cases d with
  | nil => have := h.2.1; rw [e1] at hl; simp at hl; omega
  | cons y d => rw [qEc, List.append_assoc] at e2; exact absurd e2.symm (insB_ne _ _)
 have := h.2.1; rw [e1] at this; simp at this; omega
theorem ok_bad {bs : List Int} {l : List InsD} (h : DecOk bs l) (k : DecBad bs) : False := by
 obtain ⟨m, r, hm, hl, hr, hne, hno⟩ := k
 have e : encB l ++ [] = encB m ++ r := by rw [List.append_nil, ← h.2.2, hr]
 rcases qEf l m [] r h.1 hm e with ⟨d, e1, e2⟩ | ⟨d, e1, e2⟩
 ·have := congrArg List.length e2; simp at this; exact hne (List.length_eq_zero_iff.1 (by omega))
 cases d with
 | nil => exact hne (by simpa [encB] using e2)
 | cons y d => exact hno y (encB d ++ []) (h.1 y (by rw [e1]; simp)).1 (h.1 y (by rw [e1]; simp)).2 (by rw [e2, qEc, List.append_assoc])
theorem big_bad {bs : List Int} (h : qFc bs) (k : DecBad bs) : False := by
 obtain ⟨l, s, hl, hll, hs⟩ := h
 obtain ⟨m, r, hm, hml, hr, hne, hno⟩ := k
 rcases qEf l m s r hl hm (by rw [← hs, hr]) with ⟨d, e1, e2⟩ | ⟨d, e1, e2⟩
 ·rw [e1] at hml; simp at hml; omega
 cases d with
 | nil => rw [e1] at hll; simp at hll; omega
 | cons y d => exact hno y (encB d ++ s) (hl y (by rw [e1]; simp)).1 (hl y (by rw [e1]; simp)).2 (by rw [e2, qEc, List.append_assoc])
end DecLaw
end
section
namespace Dec
open Go.RowKit Base Val Ins Wr Enc DecLaw
def slen : Value → Nat
 | .slice _ n _ => n
 | _ => 0
def qEb (x : InsD) : List Value := [.int .i64 x.op, .int .i64 x.n, .int .i64 x.ty, .int .u64 x.b]
def insC (l : List InsD) : List Value := l.flatMap qEb
theorem qFs (l : List InsD) (x : InsD) : insC (l ++ [x]) = insC l ++ qEb x := by simp [insC]
theorem qEd (l : List InsD) (x : InsD) : encB (l ++ [x]) = encB l ++ insB x := by simp [encB]
theorem infoIns : (Tryz.prog.info? 144).map (fun i => (i.zero, i.size, i.bytes)) = some (some (.agg #[.int .i64 0, .int .i64 0, .int .i64 0, .int .u64 0]), 4, 32) := by kernel_rfl
def BytesAt (W : World) (b o : Nat) (bs : List Int) : Prop := ∀ j y, bs[j]? = some y → W.cell? ⟨b, o + j, none⟩ = some (.int .u8 y)
theorem or_low (a x : Int) (ha : 0 ≤ a) (ha2 : a < 18446744073709551616) (hx : 0 ≤ x) (hx2 : x < 256) : bits .or .u64 (a * 256 % 18446744073709551616) x = a * 256 % 18446744073709551616 + x := by
 obtain ⟨n, rfl⟩ := Int.eq_ofNat_of_zero_le ha
 obtain ⟨y, rfl⟩ := Int.eq_ofNat_of_zero_le hx
 have hy : y < 2 ^ 8 := by omega
 have e : ((n : Int) * 256 % 18446744073709551616) = ((n % 72057594037927936 * 256 : Nat) : Int) := by omega
 rw [e, u64_or_nat _ _ (by omega) (by omega)]
 have := Nat.shiftLeft_add_eq_or_of_lt hy (n % 72057594037927936)
 rw [Nat.shiftLeft_eq] at this
 rw [← this]
 omega
theorem wrap_256 (a : Int) : IntKind.u64.wrap (a * 256) = a * 256 % 18446744073709551616 := by simp [IntKind.wrap, IntKind.bits, IntKind.signed]
theorem qFB (l : List Int) (h : qBJ l) : 0 ≤ valB l ∧ valB l < 256 ^ l.length := by
 have e := be_valB l.length l rfl h
 induction hn : l.length generalizing l with
 | zero => rw [List.length_eq_zero_iff.1 hn]; exact ⟨by decide, by decide⟩
 | succ m ih =>
  obtain ⟨l0, x, rfl⟩ : ∃ l0 x, l = l0 ++ [x] := ⟨l.dropLast, l.getLast (by intro e; simp [e] at hn), (List.dropLast_concat_getLast _).symm⟩
  have hb0 : qBJ l0 := fun y hy => h y (by simp [hy])
  have hx := h x (by simp)
  have hm : l0.length = m := by simpa using hn
  have := ih l0 hb0 (be_valB l0.length l0 rfl hb0) hm
  rw [qEv, Int.pow_succ]
  omega
theorem foldl_val (l : List Int) : ∀ a : Int, l.foldl (fun v x => v * 256 + x) a = a * 256 ^ l.length + valB l := by
 induction l with
 | nil => intro a; simp [valB]
 | cons x l ih =>
  intro a
  have e := ih (0 * 256 + x)
  show l.foldl (fun v x => v * 256 + x) (a * 256 + x) = a * 256 ^ (l.length + 1) + l.foldl (fun v x => v * 256 + x) (0 * 256 + x)
  rw [ih (a * 256 + x), e, Int.pow_succ, Int.add_mul, Int.mul_assoc, Int.mul_comm 256]
  simp [Int.add_assoc]
theorem valB_cons (x : Int) (l : List Int) (_ : qBJ l) : valB (x :: l) = x * 256 ^ l.length + valB l := by
 have := foldl_val l x
 show l.foldl (fun v x => v * 256 + x) (0 * 256 + x) = _
 rw [show (0 : Int) * 256 + x = x by omega]; exact this
theorem qD1 {bs r : List Int} {l : List InsD} (hl : ∀ x ∈ l, x.ok = true ∧ U64 x.b) (h4 : l.length ≤ 4096) (hbs : bs = encB l ++ r) (hr : r ≠ []) (hp : (qCp r).ok = false) : DecBad bs :=
 ⟨l, r, hl, h4, hbs, hr, fun x t hx hb e => by rw [e, qDM hx hb t, hx] at hp; cases hp⟩
theorem qEA {W W' : World} {N0 n sz : Nat} {E : TypeId} {v : Value} {xs : List Value} (h : W.ownsRow N0 E sz v n xs) (hB : Below W.heap.size W W') : W'.ownsRow N0 E sz v n xs := by
 refine ⟨h.1, ?_⟩
 rcases h.2 with r | ⟨g, cap, cur, hv, hb, hg, r⟩
 ·exact .inl r
 exact .inr ⟨g, cap, cur, hv, hb, (hB.block g (Array.getElem?_eq_some_iff.1 hg).1).trans hg, r⟩
def DecPost (bs : List Int) (w : World) (e : Ending) (w' : World) : Prop :=
 Below w.heap.size w w' ∧
  ((∃ l v, DecOk bs l ∧ e = .returned (.tuple #[v, .int .i64 0]) ∧ w'.ownsRow w.heap.size 144 4 v l.length (insC l)) ∨
    (DecBad bs ∧ e = .returned (.tuple #[.slice none 0 0, .int .i64 51])) ∨ (qFc bs ∧ e = .returned (.tuple #[.slice none 0 0, .int .i64 3])))
theorem decode_some (b o c : Nat) (bs : List Int) (w : World) (h : BytesAt w b o bs) (hb : b < w.heap.size) (hbs : qBJ bs) (hc : bs.length ≤ c) :
  Calls Tryz.prog 88 #[.slice (some ⟨b, o, none⟩) bs.length c] w (DecPost bs w) := by
 have H := hid h
 have HBS := hid hbs
 clear h hbs
 go_enter Tryz.func88, Tryz.ntmps88
 go_wp2
 go_loopw [0, 4] (fun t v wr => ∃ (l : List InsD) (r : List Int) (p q c' : Nat), t = .slice (some ⟨b, q, none⟩) r.length c' ∧ (0 < r.length → q = o + p) ∧ r.length ≤ c' ∧ l.length ≤ 4096 ∧ p + r.length = bs.length ∧ Hid (bs.drop p = r ∧ bs = encB l ++ r ∧ (∀ x ∈ l, x.ok = true ∧ U64 x.b) ∧ wr.ownsRow w.heap.size 144 4 v l.length (insC l) ∧ Below w.heap.size w wr)) (fun t _ _ => slen t)
 case atStart => exact ⟨[], bs, 0, o, c, rfl, fun _ => rfl, hc, by simp, by simp, hid ⟨rfl, rfl, by simp, World.ownsRow_nil _ _ _ _, Below.refl _ _⟩⟩
 case round =>
  obtain ⟨l, r, p, q, c', rfl, hq, hrc, hl4, hp, hst⟩ := hrel
  obtain ⟨wo, rfl⟩ : ∃ wo, wo = wr := ⟨_, rfl⟩
  by_cases hlt : 0 < r.length
  rotate_left
  ·obtain rfl : r = [] := List.length_eq_zero_iff.1 (by omega)
   go_wp2
   go_ret2
   exact ⟨hst.out.2.2.2.2, .inl ⟨l, _, ⟨hst.out.2.2.1, hl4, by have := hst.out.2.1; rwa [List.append_nil] at this⟩, rfl, hst.out.2.2.2.1⟩⟩
  obtain rfl := hq hlt
  have hb0 : ∃ y, wo.cell? ⟨b, o + p, none⟩ = some (.int .u8 y) ∧ r.getD 0 0 = y ∧ 0 ≤ y ∧ y < 256 := by
   obtain ⟨y, hy⟩ : ∃ y, bs[p]? = some y := ⟨bs[p]'(by omega), List.getElem?_eq_getElem (by omega)⟩
   refine ⟨y, (hst.out.2.2.2.2.cell (p := ⟨b, o + p, none⟩) hb).trans (H.out p y hy), ?_, HBS.out y (List.mem_of_getElem? hy)⟩
   rw [← hst.out.1, List.getD_eq_getElem?_getD, List.getElem?_drop, Nat.add_zero, hy]; rfl
  obtain ⟨op, hop, hop2, hop0, hop1⟩ := hb0
  have hsz : (qBL op = 0 ∨ ∃ s1 : Nat, qBL op = ((s1 + 1 : Nat) : Int) ∧ s1 ≤ 9) := by
   unfold qBL; split
   ·left; rfl
   right; unfold wid; split
   ·exact ⟨9, rfl, by omega⟩
   split
   ·exact ⟨1, rfl, by omega⟩
   split
   ·exact ⟨2, rfl, by omega⟩
   exact ⟨0, rfl, by omega⟩
  have HS := hid (fun W => size_ins op 0 0 0 W)
  unfold insV at HS
  have hbad : (qBL op = 0 ∨ (r.length : Int) < qBL op) → DecBad bs := fun hh => by
   refine ⟨l, r, hst.out.2.2.1, hl4, hst.out.2.1, by intro e; rw [e] at hlt; simp at hlt, fun x t hx _ e => ?_⟩
   obtain ⟨o1, o2⟩ := ok_op hx
   have hxo : x.op = op := by
    rw [← hop2, e]; unfold insB; simp only [List.cons_append, List.getD_cons_zero]; omega
   have hxl := insB_len hx
   rw [hxo] at hxl
   have : (r.length : Int) = (insB x).length + t.length := by rw [e, List.length_append]; push_cast; rfl
   rcases hh with hh | hh
   ·rw [hh] at hxl; unfold insB at hxl; simp at hxl; omega
   omega
  have HBAD := hid hbad
  have HO2 := hid hop2
  clear hbad hop2
  rcases hsz with hsz | ⟨s1, hsz, hs9⟩
  ·have hbd := hid (HBAD.out (.inl hsz))
   rw [hsz] at HS
   clear HBAD hsz
   go_wp2_with fail
   refine (HS.out _).mono ?_
   rintro e w1 ⟨rfl, hb1⟩
   go_wp2
   go_ret2
   exact ⟨hst.out.2.2.2.2.trans (((Below.refl _ _).alloc (Nat.le_refl _) _).trans (hb1.mono (by simp)) |>.mono hst.out.2.2.2.2.size), .inr (.inl ⟨hbd.out, rfl⟩)⟩
  rw [hsz] at HS
  by_cases hshort : r.length < s1 + 1
  ·have hbd := hid (HBAD.out (.inr (by rw [hsz]; omega)))
   have hx1 : (((s1 + 1 : Nat) : Int) == 0) = false := beq_eq_false_iff_ne.mpr (by omega)
   have hx2 : decide ((r.length : Int) < ((s1 + 1 : Nat) : Int)) = true := by simp; omega
   clear HBAD hsz
   go_wp2_with fail
   refine (HS.out _).mono ?_
   rintro e w1 ⟨rfl, hb1⟩
   go_wp2
   all_goals go_ret2
   all_goals exact ⟨hst.out.2.2.2.2.trans (((Below.refl _ _).alloc (Nat.le_refl _) _).trans (hb1.mono (by simp)) |>.mono hst.out.2.2.2.2.size), .inr (.inl ⟨hbd.out, rfl⟩)⟩
  clear HBAD
  have hcl : ∀ j, j < s1 → ∃ y, wo.cell? ⟨b, o + p + 1 + j, none⟩ = some (.int .u8 y) ∧ 0 ≤ y ∧ y < 256 ∧ (r.drop 1).take (j + 1) = (r.drop 1).take j ++ [y] := fun j hj => by
   obtain ⟨y, hy⟩ : ∃ y, bs[p + 1 + j]? = some y := ⟨bs[p + 1 + j]'(by omega), List.getElem?_eq_getElem (by omega)⟩
   refine ⟨y, ?_, (HBS.out y (List.mem_of_getElem? hy)).1, (HBS.out y (List.mem_of_getElem? hy)).2, ?_⟩
   ·have := (hst.out.2.2.2.2.cell (p := ⟨b, o + (p + 1 + j), none⟩) hb).trans (H.out (p + 1 + j) y hy)
    rwa [show o + (p + 1 + j) = o + p + 1 + j by omega] at this
   have e : (r.drop 1)[j]? = some y := by rw [← hst.out.1, List.getElem?_drop, List.getElem?_drop, ← hy]; congr 1; omega
   rw [List.take_add_one, e]; rfl
  have HCL := hid hcl
  clear hcl
  have hx1 : (((s1 + 1 : Nat) : Int) == 0) = false := beq_eq_false_iff_ne.mpr (by omega)
  have hx2 : decide ((r.length : Int) < ((s1 + 1 : Nat) : Int)) = false := by simp; omega
  have hx3 : decide ((r.length : Int) < (s1 : Int) + 1) = false := by simp; omega
  by_cases hc1 : c' = 1
  ·subst hc1
   obtain rfl : s1 = 0 := by omega
   have h1 : op ≠ 1 := by
    intro e; subst e; have : qBL 1 = 10 := rfl
    rw [this] at hsz; simp at hsz
   go_wp2_with fail
   refine (HS.out _).mono ?_
   rintro e w1 ⟨rfl, hb1⟩
   have hBr : Hid (Below wo.heap.size wo w1) := hid (((Below.refl _ _).alloc (Nat.le_refl _) _).trans (hb1.mono (by simp)))
   have hbo : b < wo.heap.size := Nat.lt_of_lt_of_le hb hst.out.2.2.2.2.size
   go_wp2
   go_loopw [7, 32] (fun v i W => ∃ j : Nat, j ≤ 0 ∧ i = .int .i64 (j : Int) ∧ v = .int .u64 (valB ((r.drop 1).take j) % 18446744073709551616) ∧ W = w1) (fun _ i _ => (0 - intOf i).toNat)
   case atStart => exact ⟨0, Nat.zero_le _, rfl, rfl, rfl⟩
   case round =>
    obtain ⟨j, hj, rfl, rfl, hW⟩ := hrel
    subst hW
    obtain rfl : j = 0 := by omega
    clear HCL
    have h1' : (op == 1) = false := beq_eq_false_iff_ne.mpr h1
    have hwN : widN op = 0 := by
     have : qBL op = 1 + wid op := by
      unfold qBL; rw [if_neg]; intro hh; unfold qBL at hsz; rw [if_pos hh] at hsz; omega
     unfold widN; omega
    have hj2 : 0 ≤ 2 := by
     rw [← hwN]; unfold widN wid; rw [if_neg h1]; split
     ·decide
     split <;> decide
    have hdrop : r.drop 1 ≠ [] ∨ True := .inr trivial
    have hbyt : qBJ ((r.drop 1).take 0) := fun x hx => HBS.out x (by
      have := List.mem_of_mem_drop (List.mem_of_mem_take hx); rw [← hst.out.1] at this; exact List.mem_of_mem_drop this)
    have hvl := qFB _ hbyt
    have hlen : ((r.drop 1).take 0).length = 0 := by rw [List.length_take, List.length_drop]; omega
    rw [hlen] at hvl
    have hv65 : valB ((r.drop 1).take 0) < 65536 := by
     rw [List.take_zero]; decide
    have hP : qCp r = ⟨op, valB ((r.drop 1).take 0), 0, 0⟩ := by unfold qCp; rw [HO2.out, if_neg h1, hwN]
    have hv0 := hvl.1
    clear hvl hlen hbyt hdrop
    rw [show valB ((r.drop 1).take 0) % 18446744073709551616 = valB ((r.drop 1).take 0) by omega]
    generalize valB ((r.drop 1).take 0) = n at *
    have hwr : IntKind.i64.wrap n = n := by simp [IntKind.wrap, IntKind.bits, IntKind.signed]; omega
    have hrowB : wr.heap[wo.heap.size]? = some (.cells #[.int .i64 op, .int .i64 0, .int .i64 0, .int .u64 0] 144 (0, 0)) := (hb1.block wo.heap.size (by simp)).trans (World.alloc_heap_new wo _)
    have g0 : wr.cell? ⟨wo.heap.size, 0, none⟩ = some (.int .i64 op) := by simp [World.cell?, hrowB]
    have g1 : wr.cell? ⟨wo.heap.size, 1, none⟩ = some (.int .i64 0) := by simp [World.cell?, hrowB]
    have g2 : wr.cell? ⟨wo.heap.size, 2, none⟩ = some (.int .i64 0) := by simp [World.cell?, hrowB]
    have g3 : wr.cell? ⟨wo.heap.size, 3, none⟩ = some (.int .u64 0) := by simp [World.cell?, hrowB]
    have gf : wr.frozen? ⟨wo.heap.size, 1, none⟩ = false := by simp [World.frozen?, hrowB]
    have HR := hid (fun W => qDF op n 0 0 ⟨by omega, by omega⟩ W)
    unfold insV at HR
    clear hrowB
    have HU : Hid (U64 0) := hid ⟨by omega, by omega⟩
    have HBX := hBr.out.setCell (p := ⟨wo.heap.size, 1, none⟩) (Nat.le_refl _) (.int .i64 n)
    obtain ⟨WW, hWW⟩ : ∃ WW, WW = wr.setCell ⟨wo.heap.size, 1, none⟩ (.int .i64 n) := ⟨_, rfl⟩
    rw [← hWW] at HBX
    have hwb : wo.heap.size < (wr.setCell ⟨wo.heap.size, 1, none⟩ (.int .i64 n)).heap.size := by have := hb1.size; simp at *; omega
    go_wp2_with fail
    subst hWW
    have HB2 := hid HBX
    have hbw : b < wo.heap.size := hbo
    refine (HR.out _).mono ?_
    rintro e w3 ⟨rfl, hb3⟩
    have hB3 : Below wo.heap.size wo w3 := HB2.out.trans (hb3.mono HB2.out.size)
    have hwl : wo.heap.size < w3.heap.size := by have := hBr.out.size; have := hb3.size; have := hb1.size; simp at *; omega
    have k0 : w3.cell? ⟨wo.heap.size, 0, none⟩ = some (.int .i64 op) := (hb3.cell (p := ⟨wo.heap.size, 0, none⟩) hwb).trans (by rw [World.cell?_setCell_other _ _ _ _ (by intro e; injection e with _ e; omega)]; exact g0)
    have k1 : w3.cell? ⟨wo.heap.size, 1, none⟩ = some (.int .i64 n) := (hb3.cell (p := ⟨wo.heap.size, 1, none⟩) hwb).trans (World.cell?_setCell_same _ _ _ g1)
    have k2 : w3.cell? ⟨wo.heap.size, 2, none⟩ = some (.int .i64 0) := (hb3.cell (p := ⟨wo.heap.size, 2, none⟩) hwb).trans (by rw [World.cell?_setCell_other _ _ _ _ (by intro e; injection e with _ e; omega)]; exact g2)
    have k3 : w3.cell? ⟨wo.heap.size, 3, none⟩ = some (.int .u64 0) := (hb3.cell (p := ⟨wo.heap.size, 3, none⟩) hwb).trans (by rw [World.cell?_setCell_other _ _ _ _ (by intro e; injection e with _ e; omega)]; exact g3)
    clear g0 g1 g2 g3 gf
    cases hok : okI op n 0 0 with
    | false =>
     have hbd := hid (qD1 hst.out.2.2.1 hl4 hst.out.2.1 (by intro e; rw [e] at hlt; simp at hlt) (by rw [hP]; exact hok))
     have HB3 := hid hB3
     clear hb3 hB3
     go_wp2
     go_ret2
     exact ⟨hst.out.2.2.2.2.trans (HB3.out.mono hst.out.2.2.2.2.size), .inr (.inl ⟨hbd.out, rfl⟩)⟩
    | true =>
     obtain ⟨i0, hi, hz0, hz1, hz2⟩ := info_parts infoIns
     have hown3 := qEA hst.out.2.2.2.1 hB3
     have HB3 := hid hB3
     have hN3 : w.heap.size ≤ w3.heap.size := Nat.le_trans hst.out.2.2.2.2.size hB3.size
     clear hb3 hB3
     go_wp2_with (at_builtin; refine wpList_append_lies _ rfl _ _ 88 rfl w.heap.size 144 i0 _ 4 32 Tryz.underlying88 hi hz0 hz1 hz2 rfl (by decide) _ _ _ rfl (hown3.alloc _) ⟨w3.heap.size, 0, none⟩ 1 1 (qEb ⟨op, n, 0, 0⟩) rfl rfl (World.news_of_block (World.alloc_heap_new w3 _)) ?c2 ?c0 ?c3 ?c4 ?c5 _ rfl ?_)
     case c2 => intro u hu; simp only [qEb, List.mem_cons, List.not_mem_nil, or_false] at hu; rcases hu with rfl | rfl | rfl | rfl <;> rfl
     case c0 => omega
     case c3 => unfold maxLen; omega
     case c4 => omega
     case c5 => simp; omega
     intro g cap w4 hown4 hgrow hgg hlt4
     have hH4 : w4.ownsRow w.heap.size 144 4 (.slice (some ⟨g, 0, none⟩) (l.length + 1) cap) (l.length + 1) (insC (l ++ [⟨op, n, 0, 0⟩])) := by rw [qFs]; exact hown4
     have H4 := hid hH4
     have HB4 : Hid (Below w.heap.size w w4) := hid (((hst.out.2.2.2.2.trans (HB3.out.mono hst.out.2.2.2.2.size)).alloc hN3 _).grown hgrow (by simp; omega) (fun j hj => (hown3.lt j hj).1))
     clear hown4 hgrow hgg hlt4 hown3 hH4
     have hcat : bs = encB (l ++ [⟨op, n, 0, 0⟩]) ++ r.drop (0 + 1) := by
      have e := qE5 r (fun x hx => HBS.out x (by rw [← hst.out.1] at hx; exact List.mem_of_mem_drop hx)) (by rw [HO2.out, hsz]; omega) (by rw [HO2.out, hsz]; omega) (by intro e; rw [e] at hlt; simp at hlt)
      rw [HO2.out, hsz, Int.toNat_natCast, hP] at e
      rw [qEd, List.append_assoc, e]; exact hst.out.2.1
     have hall : ∀ x ∈ l ++ [⟨op, n, 0, 0⟩], x.ok = true ∧ U64 x.b := fun x hx => by
      rcases List.mem_append.1 hx with hx | hx
      ·exact hst.out.2.2.1 x hx
      obtain rfl := List.mem_singleton.1 hx; exact ⟨hok, HU.out⟩
     have HCAT := hid hcat
     have HALL := hid hall
     clear hcat hall
     by_cases hbig : l.length = 4096
     ·have hbd : Hid (qFc bs) := hid ⟨_, _, HALL.out, by simp [hbig], HCAT.out⟩
      go_wp2
      all_goals first
       | (exfalso; omega)
       | (go_ret2; exact ⟨HB4.out, .inr (.inr ⟨hbd.out, rfl⟩)⟩)
     go_wp2
     all_goals first
      | (exfalso; omega)
      | (go_roundw
         case rel =>
           refine ⟨l ++ [⟨op, n, 0, 0⟩], r.drop (0 + 1), p + (0 + 1), o + p, 0, by rw [List.length_drop, show r.length - (0 + 1) = 0 by omega], fun hpos => by rw [List.length_drop] at hpos; omega, ?_, by simp; omega, by rw [List.length_drop]; omega, hid ⟨by rw [← List.drop_drop, hst.out.1], HCAT.out, HALL.out, by simpa using H4.out, HB4.out⟩⟩
           rw [List.length_drop]; omega
         case measure => simp [slen]; omega)
  go_wp2_with fail
  refine (HS.out _).mono ?_
  rintro e w1 ⟨rfl, hb1⟩
  have hBr : Hid (Below wo.heap.size wo w1) := hid (((Below.refl _ _).alloc (Nat.le_refl _) _).trans (hb1.mono (by simp)))
  have hbo : b < wo.heap.size := Nat.lt_of_lt_of_le hb hst.out.2.2.2.2.size
  go_wp2
  go_loopw [7, 32] (fun v i W => ∃ j : Nat, j ≤ s1 ∧ i = .int .i64 (j : Int) ∧ v = .int .u64 (valB ((r.drop 1).take j) % 18446744073709551616) ∧ W = w1) (fun _ i _ => (s1 - intOf i).toNat)
  case atStart => exact ⟨0, Nat.zero_le _, rfl, rfl, rfl⟩
  case round =>
   obtain ⟨j, hj, rfl, rfl, hW⟩ := hrel
   subst hW
   by_cases hjl : j < s1
   ·obtain ⟨y, hy, hy0, hy1, hyt⟩ := HCL.out j hjl
    have hyc := (hBr.out.cell (p := ⟨b, o + p + 1 + j, none⟩) hbo).trans hy
    have hval : valB ((r.drop 1).take (j + 1)) % 18446744073709551616 = (valB ((r.drop 1).take j) % 18446744073709551616) * 256 % 18446744073709551616 + y := by rw [hyt, qEv]; omega
    have HV := hid hval
    clear hval hyt hy
    have ha0 : 0 ≤ valB ((r.drop 1).take j) % 18446744073709551616 := by omega
    have ha1 : valB ((r.drop 1).take j) % 18446744073709551616 < 18446744073709551616 := by omega
    generalize valB ((r.drop 1).take j) % 18446744073709551616 = a at *
    have hor := or_low a y ha0 ha1 hy0 hy1
    go_wp2
    exact ⟨⟨j + 1, by omega, by simp, by rw [wrap_256 a, hor, HV.out], trivial⟩, by simp [intOf]; omega⟩
   obtain rfl : j = s1 := by omega
   by_cases h1 : op = 1
   rotate_left
   ·clear HCL
    have h1' : (op == 1) = false := beq_eq_false_iff_ne.mpr h1
    have hwN : widN op = j := by
     have : qBL op = 1 + wid op := by
      unfold qBL; rw [if_neg]; intro hh; unfold qBL at hsz; rw [if_pos hh] at hsz; omega
     unfold widN; omega
    have hj2 : j ≤ 2 := by
     rw [← hwN]; unfold widN wid; rw [if_neg h1]; split
     ·decide
     split <;> decide
    have hdrop : r.drop 1 ≠ [] ∨ True := .inr trivial
    have hbyt : qBJ ((r.drop 1).take j) := fun x hx => HBS.out x (by
      have := List.mem_of_mem_drop (List.mem_of_mem_take hx); rw [← hst.out.1] at this; exact List.mem_of_mem_drop this)
    have hvl := qFB _ hbyt
    have hlen : ((r.drop 1).take j).length = j := by rw [List.length_take, List.length_drop]; omega
    rw [hlen] at hvl
    have hv65 : valB ((r.drop 1).take j) < 65536 := by
     rcases (by omega : j = 0 ∨ j = 1 ∨ j = 2) with e | e | e <;> rw [e] at hvl ⊢ <;> simp at hvl ⊢ <;> omega
    have hP : qCp r = ⟨op, valB ((r.drop 1).take j), 0, 0⟩ := by unfold qCp; rw [HO2.out, if_neg h1, hwN]
    have hv0 := hvl.1
    clear hvl hlen hbyt hdrop
    rw [show valB ((r.drop 1).take j) % 18446744073709551616 = valB ((r.drop 1).take j) by omega]
    generalize valB ((r.drop 1).take j) = n at *
    have hwr : IntKind.i64.wrap n = n := by simp [IntKind.wrap, IntKind.bits, IntKind.signed]; omega
    have hrowB : wr.heap[wo.heap.size]? = some (.cells #[.int .i64 op, .int .i64 0, .int .i64 0, .int .u64 0] 144 (0, 0)) := (hb1.block wo.heap.size (by simp)).trans (World.alloc_heap_new wo _)
    have g0 : wr.cell? ⟨wo.heap.size, 0, none⟩ = some (.int .i64 op) := by simp [World.cell?, hrowB]
    have g1 : wr.cell? ⟨wo.heap.size, 1, none⟩ = some (.int .i64 0) := by simp [World.cell?, hrowB]
    have g2 : wr.cell? ⟨wo.heap.size, 2, none⟩ = some (.int .i64 0) := by simp [World.cell?, hrowB]
    have g3 : wr.cell? ⟨wo.heap.size, 3, none⟩ = some (.int .u64 0) := by simp [World.cell?, hrowB]
    have gf : wr.frozen? ⟨wo.heap.size, 1, none⟩ = false := by simp [World.frozen?, hrowB]
    have HR := hid (fun W => qDF op n 0 0 ⟨by omega, by omega⟩ W)
    unfold insV at HR
    clear hrowB
    have HU : Hid (U64 0) := hid ⟨by omega, by omega⟩
    have HBX := hBr.out.setCell (p := ⟨wo.heap.size, 1, none⟩) (Nat.le_refl _) (.int .i64 n)
    obtain ⟨WW, hWW⟩ : ∃ WW, WW = wr.setCell ⟨wo.heap.size, 1, none⟩ (.int .i64 n) := ⟨_, rfl⟩
    rw [← hWW] at HBX
    have hwb : wo.heap.size < (wr.setCell ⟨wo.heap.size, 1, none⟩ (.int .i64 n)).heap.size := by have := hb1.size; simp at *; omega
    go_wp2_with fail
    subst hWW
    have HB2 := hid HBX
    have hbw : b < wo.heap.size := hbo
    refine (HR.out _).mono ?_
    rintro e w3 ⟨rfl, hb3⟩
    have hB3 : Below wo.heap.size wo w3 := HB2.out.trans (hb3.mono HB2.out.size)
    have hwl : wo.heap.size < w3.heap.size := by have := hBr.out.size; have := hb3.size; have := hb1.size; simp at *; omega
    have k0 : w3.cell? ⟨wo.heap.size, 0, none⟩ = some (.int .i64 op) := (hb3.cell (p := ⟨wo.heap.size, 0, none⟩) hwb).trans (by rw [World.cell?_setCell_other _ _ _ _ (by intro e; injection e with _ e; omega)]; exact g0)
    have k1 : w3.cell? ⟨wo.heap.size, 1, none⟩ = some (.int .i64 n) := (hb3.cell (p := ⟨wo.heap.size, 1, none⟩) hwb).trans (World.cell?_setCell_same _ _ _ g1)
    have k2 : w3.cell? ⟨wo.heap.size, 2, none⟩ = some (.int .i64 0) := (hb3.cell (p := ⟨wo.heap.size, 2, none⟩) hwb).trans (by rw [World.cell?_setCell_other _ _ _ _ (by intro e; injection e with _ e; omega)]; exact g2)
    have k3 : w3.cell? ⟨wo.heap.size, 3, none⟩ = some (.int .u64 0) := (hb3.cell (p := ⟨wo.heap.size, 3, none⟩) hwb).trans (by rw [World.cell?_setCell_other _ _ _ _ (by intro e; injection e with _ e; omega)]; exact g3)
    clear g0 g1 g2 g3 gf
    cases hok : okI op n 0 0 with
    | false =>
     have hbd := hid (qD1 hst.out.2.2.1 hl4 hst.out.2.1 (by intro e; rw [e] at hlt; simp at hlt) (by rw [hP]; exact hok))
     have HB3 := hid hB3
     clear hb3 hB3
     go_wp2
     go_ret2
     exact ⟨hst.out.2.2.2.2.trans (HB3.out.mono hst.out.2.2.2.2.size), .inr (.inl ⟨hbd.out, rfl⟩)⟩
    | true =>
     obtain ⟨i0, hi, hz0, hz1, hz2⟩ := info_parts infoIns
     have hown3 := qEA hst.out.2.2.2.1 hB3
     have HB3 := hid hB3
     have hN3 : w.heap.size ≤ w3.heap.size := Nat.le_trans hst.out.2.2.2.2.size hB3.size
     clear hb3 hB3
     go_wp2_with (at_builtin; refine wpList_append_lies _ rfl _ _ 88 rfl w.heap.size 144 i0 _ 4 32 Tryz.underlying88 hi hz0 hz1 hz2 rfl (by decide) _ _ _ rfl (hown3.alloc _) ⟨w3.heap.size, 0, none⟩ 1 1 (qEb ⟨op, n, 0, 0⟩) rfl rfl (World.news_of_block (World.alloc_heap_new w3 _)) ?c2 ?c0 ?c3 ?c4 ?c5 _ rfl ?_)
     case c2 => intro u hu; simp only [qEb, List.mem_cons, List.not_mem_nil, or_false] at hu; rcases hu with rfl | rfl | rfl | rfl <;> rfl
     case c0 => omega
     case c3 => unfold maxLen; omega
     case c4 => omega
     case c5 => simp; omega
     intro g cap w4 hown4 hgrow hgg hlt4
     have hH4 : w4.ownsRow w.heap.size 144 4 (.slice (some ⟨g, 0, none⟩) (l.length + 1) cap) (l.length + 1) (insC (l ++ [⟨op, n, 0, 0⟩])) := by rw [qFs]; exact hown4
     have H4 := hid hH4
     have HB4 : Hid (Below w.heap.size w w4) := hid (((hst.out.2.2.2.2.trans (HB3.out.mono hst.out.2.2.2.2.size)).alloc hN3 _).grown hgrow (by simp; omega) (fun j hj => (hown3.lt j hj).1))
     clear hown4 hgrow hgg hlt4 hown3 hH4
     have hcat : bs = encB (l ++ [⟨op, n, 0, 0⟩]) ++ r.drop (j + 1) := by
      have e := qE5 r (fun x hx => HBS.out x (by rw [← hst.out.1] at hx; exact List.mem_of_mem_drop hx)) (by rw [HO2.out, hsz]; omega) (by rw [HO2.out, hsz]; omega) (by intro e; rw [e] at hlt; simp at hlt)
      rw [HO2.out, hsz, Int.toNat_natCast, hP] at e
      rw [qEd, List.append_assoc, e]; exact hst.out.2.1
     have hall : ∀ x ∈ l ++ [⟨op, n, 0, 0⟩], x.ok = true ∧ U64 x.b := fun x hx => by
      rcases List.mem_append.1 hx with hx | hx
      ·exact hst.out.2.2.1 x hx
      obtain rfl := List.mem_singleton.1 hx; exact ⟨hok, HU.out⟩
     have HCAT := hid hcat
     have HALL := hid hall
     clear hcat hall
     by_cases hbig : l.length = 4096
     ·have hbd : Hid (qFc bs) := hid ⟨_, _, HALL.out, by simp [hbig], HCAT.out⟩
      go_wp2
      all_goals first
       | (exfalso; omega)
       | (go_ret2; exact ⟨HB4.out, .inr (.inr ⟨hbd.out, rfl⟩)⟩)
     go_wp2
     all_goals first
      | (exfalso; omega)
      | (go_roundw
         case rel =>
           refine ⟨l ++ [⟨op, n, 0, 0⟩], r.drop (j + 1), p + (j + 1), (if c' = j + 1 then o + p else o + p + (j + 1)), c' - (j + 1), by rw [List.length_drop]; split <;> rfl, fun hpos => by rw [if_neg (by rw [List.length_drop] at hpos; omega)]; omega, ?_, by simp; omega, by rw [List.length_drop]; omega, hid ⟨by rw [← List.drop_drop, hst.out.1], HCAT.out, HALL.out, by simpa using H4.out, HB4.out⟩⟩
           rw [List.length_drop]; omega
         case measure => simp [slen]; omega)
   subst h1
   obtain rfl : j = 9 := by
    have : qBL 1 = 10 := rfl
    rw [this] at hsz; omega
   obtain ⟨ty, hty, hty0, hty1, htyt⟩ := HCL.out 0 (by omega)
   have htc := (hBr.out.cell (p := ⟨b, o + p + 1 + 0, none⟩) hbo).trans hty
   rw [Nat.add_zero] at htc
   have hbyt : qBJ (r.drop 1) := fun x hx => HBS.out x (by
     have := List.mem_of_mem_drop hx; rw [← hst.out.1] at this; exact List.mem_of_mem_drop this)
   have hr1 : r.drop 1 = ty :: r.drop 2 := by
    have h0 : (r.drop 1)[0]? = some ty := by
     have := congrArg (fun l => l[0]?) htyt
     simpa using this
    rw [show r.drop 2 = (r.drop 1).drop 1 from by rw [List.drop_drop]]
    cases hd : r.drop 1 with
    | nil => rw [hd] at h0; simp at h0
    | cons y t => rw [hd] at h0; simp at h0; rw [h0]; simp
   have hg1 : r.getD 1 0 = ty := by
    have h0 : r[1]? = some ty := by
     have := congrArg (fun l => l[0]?) hr1
     simpa [List.getElem?_drop] using this
    rw [List.getD_eq_getElem?_getD, h0]; rfl
   have hb8 : qBJ ((r.drop 2).take 8) := fun x hx => hbyt x (by rw [hr1]; exact List.mem_cons_of_mem _ (List.mem_of_mem_take hx))
   have hl8 : ((r.drop 2).take 8).length = 8 := by rw [List.length_take, List.length_drop]; omega
   have hvl := qFB _ hb8
   rw [hl8] at hvl
   have hv9 : valB ((r.drop 1).take 9) % 18446744073709551616 = valB ((r.drop 2).take 8) := by
    rw [hr1, List.take_succ_cons, valB_cons _ _ hb8, hl8]
    have e : (256 : Int) ^ 8 = 18446744073709551616 := by decide
    rw [e] at hvl ⊢
    omega
   rw [hv9]
   have hP : qCp r = ⟨1, 0, ty, valB ((r.drop 2).take 8)⟩ := by unfold qCp; rw [HO2.out, if_pos rfl, hg1]
   have hU : U64 (valB ((r.drop 2).take 8)) := ⟨hvl.1, by have := hvl.2; simpa using this⟩
   clear hvl hv9 hl8 hb8 hg1 hr1 hbyt htyt hty HCL
   generalize valB ((r.drop 2).take 8) = n at *
   have HU := hid hU
   have hrowB : wr.heap[wo.heap.size]? = some (.cells #[.int .i64 1, .int .i64 0, .int .i64 0, .int .u64 0] 144 (0, 0)) := (hb1.block wo.heap.size (by simp)).trans (World.alloc_heap_new wo _)
   have g0 : wr.cell? ⟨wo.heap.size, 0, none⟩ = some (.int .i64 1) := by simp [World.cell?, hrowB]
   have g1 : wr.cell? ⟨wo.heap.size, 1, none⟩ = some (.int .i64 0) := by simp [World.cell?, hrowB]
   have g2 : wr.cell? ⟨wo.heap.size, 2, none⟩ = some (.int .i64 0) := by simp [World.cell?, hrowB]
   have g3 : wr.cell? ⟨wo.heap.size, 3, none⟩ = some (.int .u64 0) := by simp [World.cell?, hrowB]
   have gf2 : wr.frozen? ⟨wo.heap.size, 2, none⟩ = false := by simp [World.frozen?, hrowB]
   have gf3 : wr.frozen? ⟨wo.heap.size, 3, none⟩ = false := by simp [World.frozen?, hrowB]
   have HR := hid (fun W => qDF 1 0 ty n hU W)
   unfold insV at HR
   clear hrowB hU
   have HBX := (hBr.out.setCell (p := ⟨wo.heap.size, 2, none⟩) (Nat.le_refl _) (.int .i64 ty)).setCell (p := ⟨wo.heap.size, 3, none⟩) (Nat.le_refl _) (.int .u64 n)
   have hwb : wo.heap.size < ((wr.setCell ⟨wo.heap.size, 2, none⟩ (.int .i64 ty)).setCell ⟨wo.heap.size, 3, none⟩ (.int .u64 n)).heap.size := by have := hb1.size; simp at *; omega
   go_wp2_with fail
   have HB2 := hid HBX
   have hbw : b < wo.heap.size := hbo
   refine (HR.out _).mono ?_
   rintro e w3 ⟨rfl, hb3⟩
   have hB3 : Below wo.heap.size wo w3 := HB2.out.trans (hb3.mono HB2.out.size)
   have hwl : wo.heap.size < w3.heap.size := by have := hBr.out.size; have := hb3.size; have := hb1.size; simp at *; omega
   have k0 : w3.cell? ⟨wo.heap.size, 0, none⟩ = some (.int .i64 1) := (hb3.cell (p := ⟨wo.heap.size, 0, none⟩) hwb).trans (by rw [World.cell?_setCell_other _ _ _ _ (by intro e; injection e with _ e; omega), World.cell?_setCell_other _ _ _ _ (by intro e; injection e with _ e; omega)]; exact g0)
   have k1 : w3.cell? ⟨wo.heap.size, 1, none⟩ = some (.int .i64 0) := (hb3.cell (p := ⟨wo.heap.size, 1, none⟩) hwb).trans (by rw [World.cell?_setCell_other _ _ _ _ (by intro e; injection e with _ e; omega), World.cell?_setCell_other _ _ _ _ (by intro e; injection e with _ e; omega)]; exact g1)
   have k2 : w3.cell? ⟨wo.heap.size, 2, none⟩ = some (.int .i64 ty) := (hb3.cell (p := ⟨wo.heap.size, 2, none⟩) hwb).trans (by rw [World.cell?_setCell_other _ _ _ _ (by intro e; injection e with _ e; omega)]; exact World.cell?_setCell_same _ _ _ g2)
   have k3 : w3.cell? ⟨wo.heap.size, 3, none⟩ = some (.int .u64 n) := (hb3.cell (p := ⟨wo.heap.size, 3, none⟩) hwb).trans (World.cell?_setCell_same _ _ _ (u := .int .u64 0) (by rw [World.cell?_setCell_other _ _ _ _ (by intro e; injection e with _ e; omega)]; exact g3))
   clear g0 g1 g2 g3 gf2 gf3
   cases hok : okI 1 0 ty n with
   | false =>
    have hbd := hid (qD1 hst.out.2.2.1 hl4 hst.out.2.1 (by intro e; rw [e] at hlt; simp at hlt) (by rw [hP]; exact hok))
    have HB3 := hid hB3
    clear hb3 hB3
    go_wp2
    go_ret2
    exact ⟨hst.out.2.2.2.2.trans (HB3.out.mono hst.out.2.2.2.2.size), .inr (.inl ⟨hbd.out, rfl⟩)⟩
   | true =>
    obtain ⟨i0, hi, hz0, hz1, hz2⟩ := info_parts infoIns
    have hown3 := qEA hst.out.2.2.2.1 hB3
    have HB3 := hid hB3
    have hN3 : w.heap.size ≤ w3.heap.size := Nat.le_trans hst.out.2.2.2.2.size hB3.size
    clear hb3 hB3
    go_wp2_with (at_builtin; refine wpList_append_lies _ rfl _ _ 88 rfl w.heap.size 144 i0 _ 4 32 Tryz.underlying88 hi hz0 hz1 hz2 rfl (by decide) _ _ _ rfl (hown3.alloc _) ⟨w3.heap.size, 0, none⟩ 1 1 (qEb ⟨1, 0, ty, n⟩) rfl rfl (World.news_of_block (World.alloc_heap_new w3 _)) ?c2 ?c0 ?c3 ?c4 ?c5 _ rfl ?_)
    case c2 => intro u hu; simp only [qEb, List.mem_cons, List.not_mem_nil, or_false] at hu; rcases hu with rfl | rfl | rfl | rfl <;> rfl
    case c0 => omega
    case c3 => unfold maxLen; omega
    case c4 => omega
    case c5 => simp; omega
    intro g cap w4 hown4 hgrow hgg hlt4
    have hH4 : w4.ownsRow w.heap.size 144 4 (.slice (some ⟨g, 0, none⟩) (l.length + 1) cap) (l.length + 1) (insC (l ++ [⟨1, 0, ty, n⟩])) := by rw [qFs]; exact hown4
    have H4 := hid hH4
    have HB4 : Hid (Below w.heap.size w w4) := hid (((hst.out.2.2.2.2.trans (HB3.out.mono hst.out.2.2.2.2.size)).alloc hN3 _).grown hgrow (by simp; omega) (fun j hj => (hown3.lt j hj).1))
    clear hown4 hgrow hgg hlt4 hown3 hH4
    have hcat : bs = encB (l ++ [⟨1, 0, ty, n⟩]) ++ r.drop (9 + 1) := by
     have e := qE5 r (fun x hx => HBS.out x (by rw [← hst.out.1] at hx; exact List.mem_of_mem_drop hx)) (by rw [HO2.out, hsz]; omega) (by rw [HO2.out, hsz]; omega) (by intro e; rw [e] at hlt; simp at hlt)
     rw [HO2.out, hsz, Int.toNat_natCast, hP] at e
     rw [qEd, List.append_assoc, e]; exact hst.out.2.1
    have hall : ∀ x ∈ l ++ [⟨1, 0, ty, n⟩], x.ok = true ∧ U64 x.b := fun x hx => by
     rcases List.mem_append.1 hx with hx | hx
     ·exact hst.out.2.2.1 x hx
     obtain rfl := List.mem_singleton.1 hx; exact ⟨hok, HU.out⟩
    have HCAT := hid hcat
    have HALL := hid hall
    clear hcat hall
    by_cases hbig : l.length = 4096
    ·have hbd : Hid (qFc bs) := hid ⟨_, _, HALL.out, by simp [hbig], HCAT.out⟩
     go_wp2
     all_goals first
      | (exfalso; omega)
      | (go_ret2; exact ⟨HB4.out, .inr (.inr ⟨hbd.out, rfl⟩)⟩)
    go_wp2
    all_goals first
     | (exfalso; omega)
     | (go_roundw
        case rel =>
          refine ⟨l ++ [⟨1, 0, ty, n⟩], r.drop (9 + 1), p + (9 + 1), (if c' = 9 + 1 then o + p else o + p + (9 + 1)), c' - (9 + 1), by rw [List.length_drop]; split <;> rfl, fun hpos => by rw [if_neg (by rw [List.length_drop] at hpos; omega)]; omega, ?_, by simp; omega, by rw [List.length_drop]; omega, hid ⟨by rw [← List.drop_drop, hst.out.1], HCAT.out, HALL.out, by simpa using H4.out, HB4.out⟩⟩
          rw [List.length_drop]; omega
        case measure => simp [slen]; omega)
end Dec
end
section
namespace Q
open Go.RowKit PA PC PB
open Val Enc DecLaw Dec
def toS (x : InsD) : S144 := ⟨x.op, x.n, ⟨x.ty, x.b⟩⟩
def decL : Nat → List InsD → List Int → List InsD × Int
 | 0, _, _ => ([], 51)
 | k + 1, l, r =>
  if r = [] then (l, 0)
  else if (qCp r).ok = true ∧ 0 ≤ (qCp r).b ∧ (qCp r).b < 18446744073709551616 ∧ r = insB (qCp r) ++ r.drop (insB (qCp r)).length then
   (if l.length = 4096 then ([], 3) else decL k (l ++ [qCp r]) (r.drop (insB (qCp r)).length))
  else ([], 51)
theorem decL_spec (bs : List Int) : ∀ (k : Nat) (l : List InsD) (r : List Int), r.length < k → (∀ x ∈ l, x.ok = true ∧ U64 x.b) → l.length ≤ 4096 → bs = encB l ++ r →
  (∃ m, decL k l r = (m, 0) ∧ DecOk bs m) ∨ (decL k l r = ([], 51) ∧ DecBad bs) ∨ (decL k l r = ([], 3) ∧ qFc bs) := by
 intro k
 induction k with
 | zero => intro l r hk; omega
 | succ k ih =>
  intro l r hk hl h4 hbs
  unfold decL
  by_cases hr : r = []
  ·subst hr
   rw [if_pos rfl]
   exact .inl ⟨l, rfl, hl, h4, by rw [hbs, List.append_nil]⟩
  rw [if_neg hr]
  by_cases hp : (qCp r).ok = true ∧ 0 ≤ (qCp r).b ∧ (qCp r).b < 18446744073709551616 ∧ r = insB (qCp r) ++ r.drop (insB (qCp r)).length
  rotate_left
  ·rw [if_neg hp]
   refine .inr (.inl ⟨rfl, l, r, hl, h4, hbs, hr, fun x t hx hu he => hp ?_⟩)
   have := qDM hx hu t
   rw [← he] at this
   rw [this]
   exact ⟨hx, hu.1, hu.2, by rw [he, List.drop_append_of_le_length (Nat.le_refl _), List.drop_length, List.nil_append]⟩
  rw [if_pos hp]
  have hx : ∀ x ∈ l ++ [qCp r], x.ok = true ∧ U64 x.b := fun x hx => by
   rcases List.mem_append.1 hx with hx | hx
   ·exact hl x hx
   obtain rfl := List.mem_singleton.1 hx; exact ⟨hp.1, hp.2.1, hp.2.2.1⟩
  have hcat : bs = encB (l ++ [qCp r]) ++ r.drop (insB (qCp r)).length := by rw [qEd, List.append_assoc, ← hp.2.2.2]; exact hbs
  by_cases hb : l.length = 4096
  ·rw [if_pos hb]
   exact .inr (.inr ⟨rfl, _, _, hx, by simp [hb], hcat⟩)
  rw [if_neg hb]
  refine ih _ _ ?_ hx (by simp; omega) hcat
  have : 0 < (insB (qCp r)).length := by unfold insB; simp
  have : 0 < r.length := List.length_pos_iff.2 hr
  rw [List.length_drop]; omega
def qBx.f (l0 : List Int) : Option ((List (S144)) × Int) :=
 if l0.all (fun x => decide (0 ≤ x ∧ x < 256)) = true then some ((decL (l0.length + 1) [] l0).1.map toS, (decL (l0.length + 1) [] l0).2) else none
theorem decode_nil2 (A : Option Addr) (c : Nat) (w : World) : Calls Tryz.prog 88 #[.slice A 0 c] w fun e w' => e = .returned (.tuple #[.slice none 0 0, .int .i64 0]) ∧ w' = w := by
 go_enter Tryz.func88, Tryz.ntmps88
 go_wp2
 go_loopw [0, 4] (fun t v wr => t = .slice A 0 c ∧ v = .slice none 0 0 ∧ wr = w) (fun _ _ _ => 0)
 case atStart => exact ⟨rfl, rfl, rfl⟩
 case round =>
  obtain ⟨rfl, rfl, rfl⟩ := hrel
  go_wp2
  go_ret2
  exact ⟨rfl, rfl⟩
theorem reps_ins (w : World) (base : Nat) (ok : Nat → Prop) : ∀ l : List InsD, Reps (k144.M w base ok) 4 (l.map toS) (insC l) := by
 intro l
 induction l with
 | nil => exact Reps.none _ _
 | cons x l ih =>
  have h1 : Reps (k144.M w base ok) 4 ([] ++ [toS x]) ([] ++ qEb x) := Reps.snoc (Reps.none _ _) (k144_mkM w base ok (toS x)) rfl
  exact Kd.reps_append h1 ih
theorem qBx.calls (A0 : Option Addr) (c0 : Nat) (l0 : List Int) (r1 : List (S144)) (r2 : Int) (w : World) (hr0 : Kd.C (Kd.int .u8) w A0 l0.length l0) (hc0 : l0.length ≤ c0) (h : qBx.f l0 = some (r1, r2)) :
  Calls Tryz.prog 88 #[.slice A0 l0.length c0] w fun e w' => ∃ v0_ : Value, e = .returned (.tuple #[v0_, .int .i64 r2]) ∧ Kd.R k144 144 w' w.heap.size (fun _ => True) v0_ r1 ∧ Below w.heap.size w w' := by
 unfold qBx.f at h
 split at h
 case isFalse => cases h
 rename_i hb
 have hbs : qBJ l0 := fun x hx => by simpa using List.all_eq_true.1 hb x hx
 simp only [Option.some.injEq, Prod.mk.injEq] at h
 obtain ⟨h1, h2⟩ := h
 have hsp := decL_spec l0 (l0.length + 1) [] l0 (by omega) (by simp) (by simp) (by simp [encB])
 have hD : Calls Tryz.prog 88 #[.slice A0 l0.length c0] w (DecPost l0 w) := by
  rcases Nat.eq_zero_or_pos l0.length with hz | hp
  ·obtain rfl := List.length_eq_zero_iff.1 hz
   exact (decode_nil2 A0 c0 w).mono fun e w' ⟨he, hw⟩ => ⟨hw ▸ Below.refl _ _, .inl ⟨[], _, ⟨by simp, by simp, rfl⟩, he, World.ownsRow_nil _ _ _ _⟩⟩
  obtain ⟨ad, had, hcell⟩ := hr0.2.2 hp
  subst had
  obtain ⟨b, o, s⟩ := ad
  have hat : ∀ j y, l0[j]? = some y → w.cell? (Addr.add ⟨b, o, s⟩ j) = some (.int .u8 y) := fun j y hj => by
   obtain ⟨cs, _, hK, hcc⟩ := hcell j y hj
   obtain rfl : cs = [Value.int .u8 y] := hK
   have h2 := hcc 0 _ rfl
   rw [show j * (Kd.int .u8).sz + 0 = j from Nat.mul_one j] at h2
   exact h2
  obtain ⟨y0, hy0⟩ : ∃ y, l0[0]? = some y := ⟨l0[0], List.getElem?_eq_getElem hp⟩
  have h0 := hat 0 y0 hy0
  have hlt := World.block_lt_of_cell? w _ h0
  have hadd : ∀ j, Addr.add ⟨b, o, none⟩ j = ⟨b, o + j, none⟩ := fun j => by by_cases hj : j = 0 <;> simp [Addr.add, hj]
  obtain rfl : s = none := by
   cases s with
   | none => rfl
   | some k =>
    simp only [Addr.add, World.cell?] at h0
    split at h0 <;> simp at h0
  exact decode_some b o c0 l0 w (fun j y hj => by have := hat j y hj; rw [hadd] at this; exact this) (by rw [hadd] at hlt; exact hlt) hbs hc0
 refine hD.mono fun e w' hP => ?_
 obtain ⟨hB, hP⟩ := hP
 rcases hP with ⟨l, v, hok, he, hown⟩ | ⟨hbad, he⟩ | ⟨hbig, he⟩
 ·rcases hsp with ⟨m, hm, hok2⟩ | ⟨_, hb2⟩ | ⟨_, hb2⟩
  ·obtain rfl := ok_ok hok hok2
   rw [hm] at h1 h2
   subst h1; subst h2
   exact ⟨v, he, ⟨fun _ _ => trivial, insC l, by rw [List.length_map]; exact hown, reps_ins _ _ _ l⟩, hB⟩
  ·exact (ok_bad hok hb2).elim
  ·exact (ok_big hok hb2).elim
 ·rcases hsp with ⟨m, hm, hok2⟩ | ⟨hm, _⟩ | ⟨_, hb2⟩
  ·exact (ok_bad hok2 hbad).elim
  ·rw [hm] at h1 h2
   subst h1; subst h2
   exact ⟨_, he, Kd.R_nil _ _ _ _ _, hB⟩
  ·exact (big_bad hb2 hbad).elim
 ·rcases hsp with ⟨m, hm, hok2⟩ | ⟨hm, hb2⟩ | ⟨hm, _⟩
  ·exact (ok_big hok2 hbig).elim
  ·exact (big_bad hbig hb2).elim
  ·rw [hm] at h1 h2
   subst h1; subst h2
   exact ⟨_, he, Kd.R_nil _ _ _ _ _, hB⟩
end Q
end
section
namespace Q
open Go.RowKit PA PC PB
theorem RdB.form {W : World} {b0 g : Nat} {bs : List Int} {v : Value} (h : RdB W b0 g bs v) : ∃ A c, v = .slice A bs.length c := by
 rcases h with ⟨rfl, A, c, rfl⟩ | ⟨gb, o, c, _, _, _, rfl, _⟩
 ·exact ⟨A, c, rfl⟩
 exact ⟨_, c, rfl⟩
def qB2.f (s0_0 : List Int) (s0_1 : Int) (s0_2 : Int) : Option (Int × Int × Int) := some (if s0_2 = 0 then s0_0.length - s0_1 else 0, s0_1, s0_2)
theorem qB2.calls (g : Nat) (s0_0 : List Int) (s0_1 : Int) (s0_2 : Int) (r1 : Int) (r2 : Int) (r3 : Int) (w0 w : World) (hI : qAm w0 w g s0_0 s0_1 s0_2) (hB : Below w0.heap.size w0 w) (h : qB2.f s0_0 s0_1 s0_2 = some (r1, r2, r3)) :
  Calls Tryz.prog 131 #[.pointer (some ⟨g, 0, none⟩)] w fun e w' => e = .returned (.int .i64 r1) ∧ qAm w0 w' g s0_0 r2 r3 ∧ Below w0.heap.size w0 w' ∧ qAh w w' g none := by
 unfold qB2.f at h
 simp only [Option.some.injEq, Prod.mk.injEq] at h
 obtain ⟨rfl, rfl, rfl⟩ := h
 have HI := am hI
 have HB := am hB
 obtain ⟨_, h1, h2, h3, v, hb, hr⟩ := hI
 obtain ⟨A, c, rfl⟩ := hr.form
 have c0 : w.cell? ⟨g, 0, none⟩ = some _ := (qAn hb 0).trans rfl
 have c1 : w.cell? ⟨g, 1, none⟩ = some _ := (qAn hb 1).trans rfl
 have hl : ((s0_0.drop s0_1.toNat).length : Int) = s0_0.length - s0_1 := by rw [List.length_drop]; omega
 have HL := am hl
 clear hl hr hb hB h1 h2 h3
 by_cases he : s0_2 = 0
 ·subst he
  go_enter Tryz.func131, Tryz.ntmps131
  go_wp2
  go_ret
  exact ⟨(by have hl := HL.out; rw [List.length_drop] at hl; exact congrArg (fun x : Int => Ending.returned (.int .i64 x)) hl), HI.out, HB.out, qAh.refl _ _ _⟩
 ·have hb0 : (s0_2 != 0) = true := bne_iff_ne.mpr he
  rw [if_neg he]
  clear he
  go_enter Tryz.func131, Tryz.ntmps131
  go_wp2
  go_ret
  exact ⟨rfl, HI.out, HB.out, qAh.refl _ _ _⟩
def qAO.f (_ : List Int) (s0_1 : Int) (s0_2 : Int) : Option (Int × Int × Int) := some (s0_2, s0_1, s0_2)
theorem qAO.calls (g : Nat) (s0_0 : List Int) (s0_1 : Int) (s0_2 : Int) (r1 : Int) (r2 : Int) (r3 : Int) (w0 w : World) (hI : qAm w0 w g s0_0 s0_1 s0_2) (hB : Below w0.heap.size w0 w) (h : qAO.f s0_0 s0_1 s0_2 = some (r1, r2, r3)) :
  Calls Tryz.prog 60 #[.pointer (some ⟨g, 0, none⟩)] w fun e w' => e = .returned (.int .i64 r1) ∧ qAm w0 w' g s0_0 r2 r3 ∧ Below w0.heap.size w0 w' ∧ qAh w w' g none := by
 unfold qAO.f at h
 simp only [Option.some.injEq, Prod.mk.injEq] at h
 obtain ⟨rfl, rfl, rfl⟩ := h
 have HI := am hI
 have HB := am hB
 obtain ⟨_, h1, h2, h3, v, hb, hr⟩ := hI
 have c1 : w.cell? ⟨g, 1, none⟩ = some _ := (qAn hb 1).trans rfl
 clear hr hb hB h1 h2 h3
 go_enter Tryz.func60, Tryz.ntmps60
 go_wp2
 go_ret
 exact ⟨rfl, HI.out, HB.out, qAh.refl _ _ _⟩
theorem qAm.set_e {w0 W : World} {g : Nat} {f0 : List Int} {f1 f2 : Int} (h : qAm w0 W g f0 f1 f2) (x : Int) : qAm w0 (W.setCell ⟨g, 1, none⟩ (.int .i64 x)) g f0 f1 x := by
 obtain ⟨h0, h1, h2, h3, v, hb, hr⟩ := h
 refine ⟨h0, h1, h2, h3, v, by simpa using qCm hb 1 (.int .i64 x), hr.move fun gb cells hc => Below.heap_setCell W _ _ gb ?_⟩
 rintro rfl
 rw [hb] at hc
 injection hc with hc
 injection hc with _ hc
 exact absurd hc (by decide)
def qAU.f (_ : List Int) (s0_1 : Int) (s0_2 : Int) (a1 : Int) : Option (Int × Int) := some (s0_1, if s0_2 = 0 then a1 else s0_2)
theorem qAU.calls (g : Nat) (s0_0 : List Int) (s0_1 : Int) (s0_2 : Int) (a1 : Int) (r1 : Int) (r2 : Int) (w0 w : World) (hI : qAm w0 w g s0_0 s0_1 s0_2) (hB : Below w0.heap.size w0 w) (h : qAU.f s0_0 s0_1 s0_2 a1 = some (r1, r2)) :
  Calls Tryz.prog 57 #[.pointer (some ⟨g, 0, none⟩), .int .i64 a1] w fun e w' => e = .returned (.tuple #[]) ∧ qAm w0 w' g s0_0 r1 r2 ∧ Below w0.heap.size w0 w' ∧ qAh w w' g none := by
 unfold qAU.f at h
 simp only [Option.some.injEq, Prod.mk.injEq] at h
 obtain ⟨rfl, rfl⟩ := h
 have HI := am hI
 have HB := am hB
 obtain ⟨_, h1, h2, h3, v, hb, hr⟩ := hI
 have c1 : w.cell? ⟨g, 1, none⟩ = some _ := (qAn hb 1).trans rfl
 have f1 := qAx hb 1
 clear hr hb hB h1 h2 h3
 by_cases he : s0_2 = 0
 ·subst he
  go_enter Tryz.func57, Tryz.ntmps57
  go_wp2
  go_end0
  exact ⟨rfl, by simpa using HI.out.set_e a1, qA1 HB.out HI.out.ge, qAh.set_ (qAh.refl _ _ _) _ _⟩
 ·have hb0 : (s0_2 == 0) = false := beq_eq_false_iff_ne.mpr he
  rw [if_neg he]
  clear he
  go_enter Tryz.func57, Tryz.ntmps57
  go_wp2
  go_end0
  exact ⟨rfl, HI.out, HB.out, qAh.refl _ _ _⟩
theorem RdB.some_ {W : World} {b0 g : Nat} {bs : List Int} {v : Value} (h : RdB W b0 g bs v) (hn : 0 < bs.length) :
  ∃ (gb o c : Nat) (cells : Array Value), b0 ≤ gb ∧ gb < g ∧ v = .slice (some ⟨gb, o, none⟩) bs.length c ∧ bs.length ≤ c ∧ W.heap[gb]? = some (.cells cells 5 (0, 0)) ∧ (∀ (j : Nat) (y : Int), bs[j]? = some y → cells[o + j]? = some (Value.int .u8 y)) := by
 rcases h with ⟨rfl, _⟩ | ⟨gb, o, c, cells, h1, h1', h2, _, h3, h4, h5⟩
 ·simp at hn
 ·exact ⟨gb, o, c, cells, h1, h1', h2, h3, h4, h5⟩
theorem qAm.set_b {w0 W : World} {g : Nat} {f0 : List Int} {f1 f2 f1' : Int} {v : Value} (h : qAm w0 W g f0 f1 f2) (h0 : 0 ≤ f1') (h1 : f1' ≤ f0.length) (hr : RdB W w0.heap.size g (f0.drop f1'.toNat) v) : qAm w0 (W.setCell ⟨g, 0, none⟩ v) g f0 f1' f2 := by
 obtain ⟨hg, _, _, h3, u, hb, _⟩ := h
 refine ⟨hg, h0, h1, h3, v, by simpa using qCm hb 0 v, hr.move fun gb cells hc => Below.heap_setCell W _ _ gb ?_⟩
 rintro rfl
 rw [hb] at hc
 injection hc with hc
 injection hc with _ hc
 exact absurd hc (by decide)
theorem qCD (g : Nat) (f0 : List Int) (p e : Int) (n : Nat) (w0 w : World) (hn : 0 < n) (hle : p + n ≤ f0.length) (hI : qAm w0 w g f0 p e) :
  Calls Tryz.prog 122 #[.pointer (some ⟨g, 0, none⟩), .int .i64 n] w fun e' w' => ∃ A c v, e' = .returned (.slice A n c) ∧ n ≤ c ∧ Kd.C (Kd.int .u8) w' A n ((f0.drop p.toNat).take n) ∧ qAm w0 w' g f0 (p + n) e ∧ w' = w.setCell ⟨g, 0, none⟩ v := by
 have HI := am hI
 obtain ⟨_, h1, h2, h3, v, hb, hr⟩ := hI
 have hlen : (f0.drop p.toNat).length = f0.length - p.toNat := List.length_drop
 obtain ⟨gb, o, c, cells, hb0, hbg, rfl, hc, hcb, hcells⟩ := hr.some_ (by omega)
 have hgb : g ≠ gb := by
  rintro rfl
  rw [hb] at hcb
  injection hcb with hcb
  injection hcb with _ hcb
  exact absurd hcb (by decide)
 have c0 : w.cell? ⟨g, 0, none⟩ = some _ := (qAn hb 0).trans rfl
 have f0z := qAx hb 0
 obtain ⟨m, hm⟩ : ∃ m, m = (f0.drop p.toNat).length := ⟨_, rfl⟩
 have hnm : n ≤ m := by omega
 have hml : m ≤ 9223372036854775807 := by omega
 rw [← hm] at c0 hc
 have hC : ∀ v, Kd.C (Kd.int .u8) (w.setCell ⟨g, 0, none⟩ v) (some ⟨gb, o, none⟩) n ((f0.drop p.toNat).take n) := fun v => by
  have hb' : (w.setCell ⟨g, 0, none⟩ v).heap[gb]? = some (.cells cells 5 (0, 0)) := qA2 hcb (Ne.symm hgb) v
  refine ⟨by rw [List.length_take]; omega, by omega, fun _ => ⟨_, rfl, fun j y hj => ⟨[.int .u8 y], rfl, rfl, fun i u hu => ?_⟩⟩⟩
  have hjn : (f0.drop p.toNat)[j]? = some y := by
   rw [List.getElem?_take] at hj
   split at hj
   ·exact hj
   cases hj
  match i, hu with
  | 0, hu =>
   injection hu with hu; subst hu
   have hadd : (⟨gb, o, none⟩ : Addr).add (j * (Kd.int .u8).sz + 0) = ⟨gb, o + j, none⟩ := by
    rw [show j * (Kd.int .u8).sz + 0 = j from Nat.mul_one j]; unfold Addr.add; split <;> simp_all
   rw [hadd, qAn hb']
   exact hcells j y hjn
 have hdrop : f0.drop (p + n).toNat = (f0.drop p.toNat).drop n := by rw [List.drop_drop]; congr 1; omega
 have hS : ∀ o' c', (n < m → o' = o + n ∧ c' = c - n) → qAm w0 (w.setCell ⟨g, 0, none⟩ (.slice (some ⟨gb, o', none⟩) (m - n) c')) g f0 (p + n) e := fun o' c' ho => by
  refine HI.out.set_b (by omega) hle ?_
  rw [hdrop]
  have hdl : ((f0.drop p.toNat).drop n).length = m - n := by rw [List.length_drop, ← hm]
  by_cases hlt : n < m
  rotate_left
  ·refine .inl ⟨List.length_eq_zero_iff.1 (by omega), some ⟨gb, o', none⟩, c', ?_⟩
   rw [show m - n = 0 by omega]
  obtain ⟨rfl, rfl⟩ := ho hlt
  refine .inr ⟨gb, o + n, c - n, cells, hb0, hbg, by rw [hdl], by omega, by omega, hcb, fun j y hj => ?_⟩
  rw [List.getElem?_drop] at hj
  rw [Nat.add_assoc]; exact hcells _ y hj
 have HC := am hC
 have HS := am hS
 have hx1 : decide ((m : Int) < (n : Int)) = false := by simp; omega
 clear hC hS hr hcells hlen hdrop hcb hb hm
 by_cases hcn : c = n
 ·subst hcn
  obtain rfl : m = c := by omega
  go_enter Tryz.func122, Tryz.ntmps122
  go_wp2
  go_ret
  exact ⟨some ⟨gb, o, none⟩, m, _, rfl, Nat.le_refl _, HC.out _, by simpa using HS.out o 0 (fun h => absurd h (Nat.lt_irrefl _)), rfl⟩
 ·go_enter Tryz.func122, Tryz.ntmps122
  go_wp2
  go_ret
  exact ⟨some ⟨gb, o, none⟩, c, _, rfl, by omega, HC.out _, HS.out _ _ (fun _ => ⟨rfl, rfl⟩), rfl⟩
theorem qCy (g : Nat) (f0 : List Int) (p e : Int) (n : Nat) (w0 w : World) (hle : f0.length < p + n) (hI : qAm w0 w g f0 p e) :
  Calls Tryz.prog 122 #[.pointer (some ⟨g, 0, none⟩), .int .i64 n] w fun e' w' => e' = .panicked [{ v := .iface 214 (.int .i64 40), recovered := false }] ∧ w' = w := by
 obtain ⟨_, h1, h2, h3, v, hb, hr⟩ := hI
 obtain ⟨A, c, rfl⟩ := hr.form
 have c0 : w.cell? ⟨g, 0, none⟩ = some _ := (qAn hb 0).trans rfl
 have hlen : (f0.drop p.toNat).length = f0.length - p.toNat := List.length_drop
 obtain ⟨m, hm⟩ : ∃ m, m = (f0.drop p.toNat).length := ⟨_, rfl⟩
 rw [← hm] at c0 hlen
 have hx1 : decide (m < n) = true := by simp; omega
 clear hm hlen hr hb hle h1 h2 h3
 go_enter Tryz.func122, Tryz.ntmps122
 go_wp2
 exact ⟨rfl, rfl, rfl⟩
theorem qCT {P : Program} {c : Code} {Q : Exit → Act → World → Prop} {a : Act} {w : World} (h : ∀ Q' : Exit → Act → World → Prop, (∀ e a w, Q e a w → Q' e a w) → c.wp P Q' a w) : c.wp P Q a w := h Q (fun _ _ _ h => h)
theorem qFj (p q : Addr) (w : World) :
  CallsD Tryz.prog 154 #[.pointer (some p), .pointer (some q)] .returning w fun e u' w' => e = .returned (.tuple #[]) ∧ u' = .returning ∧ w' = w := by
 refine callsD_of_wpS Tryz.func154 rfl fun c₀ cs hu => ?_
 apply wpS_seq
 apply wpS_region
 simp [wpOpsS, go_sem, recoverD, hu, Tryz.ntmps154, Exit.thenS]
 refine wpS_of_wp (qCT fun Q' hQ => ?_)
 have HQ := am hQ
 clear hQ
 rw [show ((#[Value.pointer (some p), Value.pointer (some q)] : Array Value) ++ (Array.replicate 15 undef).setIfInBounds 4 Value.nilIface) = #[.pointer (some p), .pointer (some q), undef, undef, undef, undef, .nilIface, undef, undef, undef, undef, undef, undef, undef, undef, undef, undef] from rfl]
 go_wp2
 refine HQ.out _ _ _ ?_
 cases c₀
 simp_all [bodyPostS, results, Tryz.results154]
theorem qEz (bv g bq : Nat) (x k : Int) (v : Value) (older : List PanicEntry) (w : World) (hp : w.cell? ⟨bv, 0, none⟩ = some (.int .u8 x)) (hz : w.frozen? ⟨bv, 0, none⟩ = false) (hq : w.cell? ⟨bq, 0, none⟩ = some (.pointer (some ⟨g, 0, none⟩))) (hg : w.heap[g]? = some (.cells #[v, .int .i64 0] 182 (0, 0))) (hpg : bv ≠ g) (hpq : bv ≠ bq) :
  CallsD Tryz.prog 154 #[.pointer (some ⟨bv, 0, none⟩), .pointer (some ⟨bq, 0, none⟩)] (.panicking ({ v := .iface 214 (.int .i64 k), recovered := false } :: older)) w fun e u' w' =>
   e = .returned (.tuple #[]) ∧ u' = .panicking ({ v := .iface 214 (.int .i64 k), recovered := true } :: older) ∧ w' = (w.setCell ⟨bv, 0, none⟩ (.int .u8 0)).setCell ⟨g, 1, none⟩ (.int .i64 k) := by
 have hta : ∀ (v : Value) (W : World), (Instr.typeAssert (.iface 214 v) 20 214 true).run Tryz.prog W = .ok (.tuple #[v, .bool true]) W := fun v W => by rfl
 have c1 : (w.setCell ⟨bv, 0, none⟩ (.int .u8 0)).cell? ⟨g, 1, none⟩ = some (.int .i64 0) := (World.cell?_setCell_other _ _ _ _ (by intro e; injection e with e; exact hpg e)).trans ((qAn hg 1).trans rfl)
 have f1 : (w.setCell ⟨bv, 0, none⟩ (.int .u8 0)).frozen? ⟨g, 1, none⟩ = false := (World.frozen?_setCell _ _ _ _).trans (qAx hg 1)
 have q1 : (w.setCell ⟨bv, 0, none⟩ (.int .u8 0)).cell? ⟨bq, 0, none⟩ = some (.pointer (some ⟨g, 0, none⟩)) := (World.cell?_setCell_other _ _ _ _ (by intro e; injection e with e; exact hpq e)).trans hq
 refine callsD_of_wpS Tryz.func154 rfl fun c₀ cs hu => ?_
 apply wpS_seq
 apply wpS_region
 simp [wpOpsS, go_sem, recoverD, hu, Tryz.ntmps154, Exit.thenS]
 refine wpS_of_wp (qCT fun Q' hQ => ?_)
 have HQ := am hQ
 clear hQ
 rw [show ((#[Value.pointer (some ⟨bv, 0, none⟩), Value.pointer (some ⟨bq, 0, none⟩)] : Array Value) ++ (Array.replicate 15 undef).setIfInBounds 4 (Value.iface 214 (.int .i64 k))) = #[.pointer (some ⟨bv, 0, none⟩), .pointer (some ⟨bq, 0, none⟩), undef, undef, undef, undef, .iface 214 (.int .i64 k), undef, undef, undef, undef, undef, undef, undef, undef, undef, undef] from rfl]
 go_wp2
 refine HQ.out _ _ _ ?_
 cases c₀
 simp_all [bodyPostS, results, Tryz.results154]
theorem qC0 {w W1 w4 : World} {g b j : Nat} (h1 : Below w.heap.size w W1) (hk : qAh W1 w4 g none) (hb : w.heap.size ≤ b) (u : Value) : qAh w (w4.setCell ⟨b, j, none⟩ u) g none := by
 refine ⟨?_, fun i hi hne _ => ?_⟩
 ·have := h1.size; have := hk.1; simp; omega
 rw [Below.heap_setCell _ _ _ i (by show i ≠ b; omega), hk.2 i (by have := h1.size; omega) hne (by simp)]
 exact h1.block i hi
theorem add_zero_ (ad : Addr) : ad.add (0 : Int).toNat = ad := by unfold Addr.add; cases ad; simp
theorem byte_fn_ok (b1 g : Nat) (f0 : List Int) (p e : Int) (w0 w : World) (hq : w.cell? ⟨b1, 0, none⟩ = some (.pointer (some ⟨g, 0, none⟩))) (hlt : p < f0.length) (hI : qAm w0 w g f0 p e) (hB : Below w0.heap.size w0 w) :
  Calls Tryz.prog 121 #[.pointer (some ⟨b1, 0, none⟩)] w fun e' w' => e' = .returned (.int .u8 (f0.getD p.toNat 0)) ∧ qAm w0 w' g f0 (p + 1) e ∧ Below w0.heap.size w0 w' ∧ qAh w w' g none := by
 have HI := am hI
 have HB := am hB
 clear hI hB
 go_enter Tryz.func121, Tryz.ntmps121
 have hv : rd ((f0.drop p.toNat).take 1) 0 = f0.getD p.toNat 0 := by
  unfold rd
  rw [List.getD_eq_getElem?_getD, List.getD_eq_getElem?_getD, List.getElem?_take, List.getElem?_drop]
  simp
 have HV := am hv
 clear hv
 go_wp2_with (go_at_call 122; refine (qCD g f0 p e 1 w0 w (by omega) (by omega) HI.out).mono ?_; rintro e' w' ⟨A, c, v, rfl, hc, hC, hi, hw⟩; have hk := hw ▸ qAh.set_ (qAh.refl w g none) 0 v; have HK := am hk; have HN := am hi; have HBN := am (hw ▸ qA1 (g := g) (j := 0) (v := v) HB.out HI.out.ge); obtain ⟨ad, rfl, hx⟩ := Kd.at_int hC 0 (by omega) (by omega); have hx' := add_zero_ ad ▸ hx; clear hk hi hw hC hx)
 go_ret
 exact ⟨by rw [HV.out]; rfl, HN.out, HBN.out, HK.out⟩
theorem byte_fn_bad (b1 g : Nat) (f0 : List Int) (p e : Int) (w0 w : World) (hq : w.cell? ⟨b1, 0, none⟩ = some (.pointer (some ⟨g, 0, none⟩))) (hlt : f0.length ≤ p) (hI : qAm w0 w g f0 p e) :
  Calls Tryz.prog 121 #[.pointer (some ⟨b1, 0, none⟩)] w fun e' w' => e' = .panicked [{ v := .iface 214 (.int .i64 40), recovered := false }] ∧ w' = w := by
 have HI := am hI
 clear hI
 go_enter Tryz.func121, Tryz.ntmps121
 go_wp2_with (go_at_call 122; refine (qCy g f0 p e 1 w0 w (by omega) HI.out).mono ?_; rintro e' w' ⟨rfl, rfl⟩)
 exact ⟨rfl, rfl, rfl⟩
theorem qFp (b1 g : Nat) (f0 : List Int) (p : Int) (w0 w : World) (hq : w.cell? ⟨b1, 0, none⟩ = some (.pointer (some ⟨g, 0, none⟩))) (hlt : p < f0.length) (hI : qAm w0 w g f0 p 0) (hB : Below w0.heap.size w0 w) :
  Calls Tryz.prog 120 #[.pointer (some ⟨g, 0, none⟩), .func (.func 121) #[] #[.pointer (some ⟨b1, 0, none⟩)]] w fun e w' => e = .returned (.int .u8 (f0.getD p.toNat 0)) ∧ qAm w0 w' g f0 (p + 1) 0 ∧ Below w0.heap.size w0 w' ∧ qAh w w' g none := by
 have HI := am hI
 have HB := am hB
 have HLT := am hlt
 have hgl := hI.lt
 have hb1 := World.block_lt_of_cell? w _ hq
 obtain ⟨_, h1, h2, h3, v, hb, hr⟩ := hI
 have c1 : w.cell? ⟨g, 1, none⟩ = some (.int .i64 0) := (qAn hb 1).trans rfl
 clear hb hr hB h1 h2 h3 hlt
 go_enter_defers Tryz.func120, Tryz.ntmps120
 have HB3 := am (((Below.refl w.heap.size w).alloc (Nat.le_refl _) (.cells #[.pointer (some ⟨g, 0, none⟩)] 124)).alloc (by simp) (.cells #[.int .u8 0] 5))
 have H3 : qAa (((w.alloc (.cells #[.pointer (some ⟨g, 0, none⟩)] 124)).alloc (.cells #[.int .u8 0] 5)).heap[w.heap.size + 1]? = some (.cells #[.int .u8 0] 5 (0, 0))) := ⟨by simpa using heap_alloc_new (w.alloc (.cells #[.pointer (some ⟨g, 0, none⟩)] 124)) (.cells #[.int .u8 0] 5)⟩
 obtain ⟨x, hx⟩ : ∃ x, x = f0.getD p.toNat 0 := ⟨_, rfl⟩
 have hfn := fun W (h1 : W.cell? ⟨b1, 0, none⟩ = some (.pointer (some ⟨g, 0, none⟩))) (h2 : qAm w0 W g f0 p 0) (h3 : Below w0.heap.size w0 W) => hx ▸ byte_fn_ok b1 g f0 p 0 w0 W h1 HLT.out h2 h3
 have HFN := am hfn
 rw [← hx]
 clear hx hfn
 go_wp2_with (go_at_call 121; refine (HFN.out _ ((HB3.out.cell (p := ⟨b1, 0, none⟩) hb1).trans hq) ((HI.out.alloc _).alloc _) (qA3 (qA3 HB.out _) _)).mono ?_; rintro e w4 ⟨rfl, hi, hbw, hk⟩; have hv4 : w4.heap[w.heap.size + 1]? = some (.cells #[.int .u8 0] 5 (0, 0)) := (hk.2 _ (qBd H3.out) (by omega) (by simp)).trans H3.out; have v4 : w4.cell? ⟨w.heap.size + 1, 0, none⟩ = some (.int .u8 0) := (qAn hv4 0).trans rfl; have z4 := qAx hv4 0; have HI4 := am (hi.behind (p := ⟨w.heap.size + 1, 0, none⟩) (by show g < w.heap.size + 1; omega) (.int .u8 x)); have HK4 := am (qC0 (j := 0) HB3.out hk (Nat.le_succ _) (.int .u8 x)); have HV4 := am hv4; have HB4 := am (qA1 (g := w.heap.size + 1) (j := 0) (v := .int .u8 x) hbw (Nat.le_trans HB.out.size (Nat.le_succ _))); clear hi hk hv4 hbw)
 refine leaves_cons (f := 154) (args := #[.pointer (some ⟨w.heap.size + 1, 0, none⟩), .pointer (some ⟨w.heap.size, 0, none⟩)]) (by simp) (by simp [go_sem]) ?_
 refine (qFj _ _ _).mono ?_
 rintro e u' w'' ⟨rfl, rfl, rfl⟩
 have hvc : (w4.setCell ⟨w.heap.size + 1, 0, none⟩ (.int .u8 x)).heap[w.heap.size + 1]? = some (.cells #[.int .u8 x] 5 (0, 0)) := by simpa using qCm HV4.out 0 (.int .u8 x)
 have hres := (qAn hvc 0).trans rfl
 exact ⟨.int .u8 x, by simp [results, Tryz.results120, go_sem, hres], rfl, HI4.out, HB4.out, HK4.out⟩
theorem qER (b1 g : Nat) (f0 : List Int) (p : Int) (w0 w : World) (hq : w.cell? ⟨b1, 0, none⟩ = some (.pointer (some ⟨g, 0, none⟩))) (hlt : f0.length ≤ p) (hI : qAm w0 w g f0 p 0) (hB : Below w0.heap.size w0 w) :
  Calls Tryz.prog 120 #[.pointer (some ⟨g, 0, none⟩), .func (.func 121) #[] #[.pointer (some ⟨b1, 0, none⟩)]] w fun e w' => e = .returned (.int .u8 0) ∧ qAm w0 w' g f0 p 40 ∧ Below w0.heap.size w0 w' ∧ qAh w w' g none := by
 have HI := am hI
 have HB := am hB
 have HLT := am hlt
 have hgl := hI.lt
 have hb1 := World.block_lt_of_cell? w _ hq
 obtain ⟨_, h1, h2, h3, v, hb, hr⟩ := hI
 have c1 : w.cell? ⟨g, 1, none⟩ = some (.int .i64 0) := (qAn hb 1).trans rfl
 have HG := am hb
 clear hb hr hB h1 h2 h3 hlt
 go_enter_defers Tryz.func120, Tryz.ntmps120
 have HB3 := am (((Below.refl w.heap.size w).alloc (Nat.le_refl _) (.cells #[.pointer (some ⟨g, 0, none⟩)] 124)).alloc (by simp) (.cells #[.int .u8 0] 5))
 have H2 : qAa (((w.alloc (.cells #[.pointer (some ⟨g, 0, none⟩)] 124)).alloc (.cells #[.int .u8 0] 5)).heap[w.heap.size]? = some (.cells #[.pointer (some ⟨g, 0, none⟩)] 124 (0, 0))) := ⟨qAW (heap_alloc_new w _) _⟩
 have H3 : qAa (((w.alloc (.cells #[.pointer (some ⟨g, 0, none⟩)] 124)).alloc (.cells #[.int .u8 0] 5)).heap[w.heap.size + 1]? = some (.cells #[.int .u8 0] 5 (0, 0))) := ⟨by simpa using heap_alloc_new (w.alloc (.cells #[.pointer (some ⟨g, 0, none⟩)] 124)) (.cells #[.int .u8 0] 5)⟩
 have HFN := am (fun W (h1 : W.cell? ⟨b1, 0, none⟩ = some (.pointer (some ⟨g, 0, none⟩))) (h2 : qAm w0 W g f0 p 0) => byte_fn_bad b1 g f0 p 0 w0 W h1 HLT.out h2)
 go_wp2_with (go_at_call 121; refine (HFN.out _ ((HB3.out.cell (p := ⟨b1, 0, none⟩) hb1).trans hq) ((HI.out.alloc _).alloc _)).mono ?_; rintro e w4 ⟨rfl, rfl⟩)
 refine leaves_cons (f := 154) (args := #[.pointer (some ⟨w.heap.size + 1, 0, none⟩), .pointer (some ⟨w.heap.size, 0, none⟩)]) (by simp) (by simp [go_sem]) ?_
 have hg3 : ((w.alloc (.cells #[.pointer (some ⟨g, 0, none⟩)] 124)).alloc (.cells #[.int .u8 0] 5)).heap[g]? = some (.cells #[v, .int .i64 0] 182 (0, 0)) := (HB3.out.block g hgl).trans HG.out
 refine (qEz (w.heap.size + 1) g w.heap.size 0 40 v [] _ ((qAn H3.out 0).trans rfl) (qAx H3.out 0) ((qAn H2.out 0).trans rfl) hg3 (by omega) (by omega)).mono ?_
 rintro e u' w'' ⟨rfl, rfl, rfl⟩
 have HI5 := am ((((HI.out.alloc (.cells #[.pointer (some ⟨g, 0, none⟩)] 124)).alloc (.cells #[.int .u8 0] 5)).behind (p := ⟨w.heap.size + 1, 0, none⟩) (by show g < w.heap.size + 1; omega) (.int .u8 0)).set_e 40)
 have HB5 := am (qA1 (g := g) (j := 1) (v := .int .i64 40) (qA1 (g := w.heap.size + 1) (j := 0) (v := .int .u8 0) (qA3 (qA3 HB.out (.cells #[.pointer (some ⟨g, 0, none⟩)] 124)) (.cells #[.int .u8 0] 5)) (Nat.le_trans HB.out.size (Nat.le_succ _))) HI.out.ge)
 have HK5 := am (qAh.set_ (qC0 (j := 0) HB3.out (qAh.refl _ g none) (Nat.le_succ _) (.int .u8 0)) 1 (.int .i64 40))
 have hvc := qA2 (g := w.heap.size + 1) (p := ⟨g, 1, none⟩) (qCm H3.out 0 (.int .u8 0)) (by show w.heap.size + 1 ≠ g; omega) (.int .i64 40)
 clear hvc
 exact ⟨.int .u8 0, by simp [results, Tryz.results120, go_sem], rfl, HI5.out, HB5.out, HK5.out⟩
theorem qEh (F : Value) (g : Nat) (f0 : List Int) (p e : Int) (w0 w : World) (he : e ≠ 0) (hI : qAm w0 w g f0 p e) (hB : Below w0.heap.size w0 w) :
  Calls Tryz.prog 120 #[.pointer (some ⟨g, 0, none⟩), F] w fun e' w' => e' = .returned (.int .u8 0) ∧ qAm w0 w' g f0 p e ∧ Below w0.heap.size w0 w' ∧ qAh w w' g none := by
 have HI := am hI
 have HB := am hB
 have hgl := hI.lt
 obtain ⟨_, h1, h2, h3, v, hb, hr⟩ := hI
 have c1 : w.cell? ⟨g, 1, none⟩ = some (.int .i64 e) := (qAn hb 1).trans rfl
 have hb0 : (e != 0) = true := bne_iff_ne.mpr he
 clear hb hr hB h1 h2 h3 he
 go_enter_defers Tryz.func120, Tryz.ntmps120
 go_wp2
 exact ⟨.int .u8 0, by simp [results, Tryz.results120, go_sem], rfl, (HI.out.alloc _).alloc _, qA3 (qA3 HB.out _) _, qBE (qBE (qAh.refl _ _ _) _) _⟩
def qAr.f (s0_0 : List Int) (s0_1 : Int) (s0_2 : Int) : Option (Int × Int × Int) :=
 some (if s0_2 ≠ 0 then (0, s0_1, s0_2) else if s0_1 < s0_0.length then (s0_0.getD s0_1.toNat 0, s0_1 + 1, 0) else (0, s0_1, 40))
theorem qAr.calls (g : Nat) (s0_0 : List Int) (s0_1 : Int) (s0_2 : Int) (r1 : Int) (r2 : Int) (r3 : Int) (w0 w : World) (hI : qAm w0 w g s0_0 s0_1 s0_2) (hB : Below w0.heap.size w0 w) (h : qAr.f s0_0 s0_1 s0_2 = some (r1, r2, r3)) :
  Calls Tryz.prog 56 #[.pointer (some ⟨g, 0, none⟩)] w fun e w' => e = .returned (.int .u8 r1) ∧ qAm w0 w' g s0_0 r2 r3 ∧ Below w0.heap.size w0 w' ∧ qAh w w' g none := by
 have HI := am (hI.alloc (.cells #[.pointer (some ⟨g, 0, none⟩)] 124))
 have HB := am (qA3 hB (.cells #[.pointer (some ⟨g, 0, none⟩)] 124))
 have HK := am (qBE (qAh.refl w g none) (.cells #[.pointer (some ⟨g, 0, none⟩)] 124))
 have hq : (w.alloc (.cells #[.pointer (some ⟨g, 0, none⟩)] 124)).cell? ⟨w.heap.size, 0, none⟩ = some (.pointer (some ⟨g, 0, none⟩)) := (qAn (heap_alloc_new w _) 0).trans rfl
 have HQ := am hq
 clear hq
 unfold qAr.f at h
 injection h with h
 have HF : qAa (Calls Tryz.prog 120 #[.pointer (some ⟨g, 0, none⟩), .func (.func 121) #[] #[.pointer (some ⟨w.heap.size, 0, none⟩)]] (w.alloc (.cells #[.pointer (some ⟨g, 0, none⟩)] 124)) fun e w' => e = .returned (.int .u8 r1) ∧ qAm w0 w' g s0_0 r2 r3 ∧ Below w0.heap.size w0 w' ∧ qAh w w' g none) := by
  by_cases he : s0_2 ≠ 0
  ·rw [if_pos he] at h
   simp only [Prod.mk.injEq] at h
   obtain ⟨rfl, rfl, rfl⟩ := h
   exact ⟨(qEh _ g s0_0 _ _ w0 _ he HI.out HB.out).mono fun e' w' ⟨h1, h2, h3, h4⟩ => ⟨h1, h2, h3, HK.out.trans h4 (.inl rfl)⟩⟩
  rw [if_neg he] at h
  simp only [Decidable.not_not] at he
  subst he
  by_cases hlt : s0_1 < s0_0.length
  ·rw [if_pos hlt] at h
   simp only [Prod.mk.injEq] at h
   obtain ⟨rfl, rfl, rfl⟩ := h
   exact ⟨(qFp _ g s0_0 _ w0 _ HQ.out hlt HI.out HB.out).mono fun e' w' ⟨h1, h2, h3, h4⟩ => ⟨h1, h2, h3, HK.out.trans h4 (.inl rfl)⟩⟩
  rw [if_neg hlt] at h
  simp only [Prod.mk.injEq] at h
  obtain ⟨rfl, rfl, rfl⟩ := h
  exact ⟨(qER _ g s0_0 _ w0 _ HQ.out (by omega) HI.out HB.out).mono fun e' w' ⟨h1, h2, h3, h4⟩ => ⟨h1, h2, h3, HK.out.trans h4 (.inl rfl)⟩⟩
 clear h hI hB
 go_enter Tryz.func56, Tryz.ntmps56
 go_wp2_with (go_at_call 120; refine HF.out.mono ?_; rintro e w' ⟨rfl, hi, hb, hk⟩; have HI2 := am hi; have HB2 := am hb; have HK2 := am hk; clear hi hb hk)
 go_ret
 exact ⟨rfl, HI2.out, HB2.out, HK2.out⟩
end Q
end
section
namespace Q
open Go.RowKit PA PC PB
attribute [local go_sem] qAX min2_int qBi min_two max_three min_three max_four min_four
def qB8.l0 : Nat → Int → List Int → Int → Int → Option (Int)
 | 0, _, _, _, _ => none
 | k + 1, x3, x6, x7, x8 => if x8 < x7 then (if 0 ≤ x8 then (if x8 < (x6.length : Int) then (qB8.l0 k (Go.bits .or .u64 (IntKind.u64.wrap (x3 * 256)) (IntKind.u64.wrap (rd x6 x8))) x6 x7 (wrap64 (x8 + 1))) else (none)) else (none)) else (some x3)
def qB8.f (k : Nat) (l0 : List Int) : Option (Int) := qB8.l0 k 0 l0 (l0.length : Int) 0
theorem qB8.calls (k : Nat) (A0 : Option Addr) (c0 : Nat) (l0 : List Int) (r : Int) (w : World) (hr0 : Kd.C (Kd.int .u8) w A0 l0.length l0) (hc0 : l0.length ≤ c0) (h : qB8.f k l0 = some r) :
  Calls Tryz.prog 128 #[.slice A0 l0.length c0] w fun e w' => e = .returned (.int .u64 r) ∧ qAS w w' := by
 have aJ := am hr0
 clear hr0 hc0
 have H : (qB8.l0 k 0 l0 (l0.length : Int) 0) = some r := h
 clear h
 have H' := am H
 clear H
 go_enter Tryz.func128, Tryz.ntmps128
 go_wp2
 go_loopg [3, 8] k (fun kq v3 v8 w' => ∃ (aB : Int) (aA : Int), v3 = .int .u64 aB ∧ v8 = .int .i64 aA ∧ qAa (qB8.l0 kq aB l0 (l0.length : Int) aA = some r) ∧ qAa (kq ≤ k) ∧ qAS w w')
 case atStart => exact ⟨(0), (0), (by rfl), (by rfl), H', ⟨Nat.le_refl _⟩, by exact qAS.refl _⟩
 case round =>
  clear H'
  obtain ⟨aB, aA, rfl, rfl, HA, aH, ⟨m1, rfl⟩⟩ := hrel
  cases gk with
  | zero => exact absurd HA.o (by simp [qB8.l0])
  | succ k1 =>
   have H := HA.o
   clear HA
   simp only [qB8.l0] at H
   by_cases c2 : aA < (l0.length : Int)
   rotate_left
   ·rw [if_neg c2] at H
    replace c2 := d0 c2
    obtain rfl := Option.some.inj H
    go_wp2
    go_ret
    exact ⟨by rfl, by repeat (first | exact qAS.refl _ | apply qAS.step)⟩
   rw [if_pos c2] at H
   replace c2 := d1 c2
   obtain ⟨c3, H⟩ := gd H
   replace c3 := d1 c3
   obtain ⟨c4, H⟩ := gd H
   replace c4 := d1 c4
   have H' := am H
   clear H
   have aC : 0 ≤ aA := od (by assumption)
   have aD : aA < (l0.length : Int) := od (by assumption)
   obtain ⟨aI, aG, aE⟩ := Kd.at_int aJ.o aA aC aD
   cases aG
   replace aC := eq_true aC
   replace aD := eq_true aD
   go_wp2
   go_roundg k1
   case measure => have := aH.o; omega
   case rel => exact ⟨(Go.bits .or .u64 (IntKind.u64.wrap (aB * 256)) (IntKind.u64.wrap (rd l0 aA))), (wrap64 (aA + 1)), (by rfl), (by rfl), H', ⟨by have := aH.o; omega⟩, by repeat (first | exact qAS.refl _ | apply qAS.step)⟩
end Q
end
section
namespace Q
open Go.RowKit PA PC PB
def qD8 (n x : Int) : Int := Go.bits .or .u64 (IntKind.u64.wrap (n * 256)) (IntKind.u64.wrap x)
def numF (l : List Int) : Int := l.foldl qD8 0
theorem number_l0 (l : List Int) (hl : l.length ≤ 9223372036854775806) (d : Nat) : ∀ (k : Nat) (i n : Int), 0 ≤ i → (l.length : Int) - i = d → d < k → qB8.l0 k n l (l.length : Int) i = some ((l.drop i.toNat).foldl qD8 n) := by
 induction d with
 | zero =>
  intro k i n h0 hd hk
  obtain ⟨k, rfl⟩ : ∃ m, k = m + 1 := ⟨k - 1, by omega⟩
  simp only [qB8.l0]
  rw [if_neg (by omega), List.drop_of_length_le (by omega)]
  rfl
 | succ d ih =>
  intro k i n h0 hd hk
  obtain ⟨k, rfl⟩ : ∃ m, k = m + 1 := ⟨k - 1, by omega⟩
  simp only [qB8.l0]
  have hw : wrap64 (i + 1) = i + 1 := by unfold wrap64; omega
  have hi : i.toNat < l.length := by omega
  have hrd : rd l i = l[i.toNat] := by unfold rd; rw [List.getD_eq_getElem?_getD, List.getElem?_eq_getElem hi]; rfl
  rw [if_pos (by omega), if_pos h0, if_pos (by omega), hw, ih k (i + 1) _ (by omega) (by omega) (by omega), List.drop_eq_getElem_cons hi, List.foldl_cons, hrd, show (i + 1).toNat = i.toNat + 1 by omega]
  rfl
theorem qCg (A : Option Addr) (c : Nat) (l : List Int) (w : World) (hr : Kd.C (Kd.int .u8) w A l.length l) (hc : l.length ≤ c) (hl : l.length ≤ 9223372036854775806) :
  Calls Tryz.prog 128 #[.slice A l.length c] w fun e w' => e = .returned (.int .u64 (numF l)) ∧ qAS w w' :=
 qB8.calls (l.length + 1) A c l (numF l) w hr hc (by
   unfold qB8.f
   rw [number_l0 l hl l.length (l.length + 1) 0 0 (by omega) (by omega) (by omega)]
   rfl)
end Q
end
end Go.Proofs.YtfjpnjbinbhcfaaGreat
