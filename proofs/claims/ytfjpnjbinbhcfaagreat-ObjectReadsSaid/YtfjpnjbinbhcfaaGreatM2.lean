/- What the document's object.Unpack and the program's tell of any bytes is the same: Rows.ObjectReadsSaid. Part 2 of 11. -/
import Derived.Test.YtfjpnjbinbhcfaaGreatM1
import Derived.Test.YtfjpnjbinbhcfaaGreatProg
import Derived.Below
import Derived.Deep.Draws
import Derived.Deep.AppendLies
import Derived.Maps.AppendAt
import Derived.OwnWalk
import Derived.Laws.BytesArg
import Derived.Laws.MakeOwn
import Derived.Laws.OwnMore
import Derived.Deep.OwnRows
import Derived.Tactics
import Derived.Lib.ConvBytes
import Derived.Laws.Slices
import Derived.WalkKit
import Derived.KernelRfl
import Derived.RowKit3
import Derived.Deep.LoopGhost
import Derived.Deep.QuietTactic
import Derived.BigQuiet
import Derived.WideLaws
import Derived.Deep.DeepCutAuto
import Derived.Deep.CutBlock
import Derived.Deep.RegionHeld3
import Derived.Laws.Rows
import Derived.Lib.AppendStr
import Derived.ArgAppend
import Derived.Laws.IdiomCopy
import Derived.OrdersHeld
import Derived.Laws.BitsLemmas
import Derived.RowKit
import Derived.WalkLawsBesides
import Derived.WalkSpells
import Derived.Lib.Strings
import Derived.Laws.BitsAllLaws
import Derived.Laws.Tables
set_option maxHeartbeats 8000000
set_option maxRecDepth 100000
set_option linter.unusedVariables false
set_option linter.unusedSimpArgs false
namespace Go.Proofs.YtfjpnjbinbhcfaaGreat
section
namespace Q
open Go.RowKit PA PC PB
attribute [local go_sem] qBe min2_int qBq min_two max_three min_three max_four min_four
theorem am {p : Prop} (h : p) : qAe p := ⟨h⟩
theorem a2 {p q : Prop} (h : p) (k : q) : qAe p ∧ q := ⟨⟨h⟩, k⟩
theorem cb {w wr : World} {a : Addr} {v : Value} (h : qAe (Below w.heap.size w wr)) (k : w.cell? a = some v) : wr.cell? a = some v := (h.out.cell (World.block_lt_of_cell? w _ k)).trans k
theorem bf {α : Type} [BEq α] [LawfulBEq α] {a b : α} (h : a ≠ b) : (a == b) = false := beq_eq_false_iff_ne.mpr h
theorem bn {α : Type} [BEq α] [LawfulBEq α] {a b : α} (h : a = b) : (a != b) = false := bne_eq_false_iff_eq.mpr h
theorem od {p : Prop} [Decidable p] (h : decide p = true) : p := of_decide_eq_true h
theorem d1 {p : Prop} [Decidable p] (h : p) : decide p = true := decide_eq_true h
theorem d0 {p : Prop} [Decidable p] (h : ¬p) : decide p = false := decide_eq_false h
theorem bm {α β : Type} {o : Option α} {f : α → Option β} {r : β} (h : o.bind f = some r) : ∃ a, o = some a ∧ f a = some r := Option.bind_eq_some_iff.mp h
theorem gd {α : Type} {c : Prop} [Decidable c] {a : Option α} {r : α} (h : (if c then a else none) = some r) : c ∧ a = some r := by
 split at h
 ·exact ⟨‹_›, h⟩
 cases h
theorem info3 : (Tryz.prog.info? 3).map (fun i => (i.zero, i.size, i.bytes)) = some (some (.int .i64 0), 1, 8) := by kernel_rfl
theorem info5 : (Tryz.prog.info? 5).map (fun i => (i.zero, i.size, i.bytes)) = some (some (.int .u8 0), 1, 1) := by kernel_rfl
theorem info9 : (Tryz.prog.info? 9).map (fun i => (i.zero, i.size, i.bytes)) = some (some (.string ⟨#[]⟩), 1, 16) := by kernel_rfl
theorem info85 : (Tryz.prog.info? 85).map (fun i => (i.zero, i.size, i.bytes)) = some (some (.agg #[(.string ⟨#[]⟩), (.int .i64 0), (.int .u64 0)]), 3, 32) := by kernel_rfl
theorem info92 : (Tryz.prog.info? 92).map (fun i => (i.zero, i.size, i.bytes)) = some (some (.agg #[(.string ⟨#[]⟩), (.slice none 0 0), (.int .i64 0), (.slice none 0 0), (.slice none 0 0)]), 5, 96) := by kernel_rfl
theorem info95 : (Tryz.prog.info? 95).map (fun i => (i.zero, i.size, i.bytes)) = some (some (.agg #[(.string ⟨#[]⟩), (.int .i64 0), (.int .u64 0)]), 3, 32) := by kernel_rfl
theorem info100 : (Tryz.prog.info? 100).map (fun i => (i.zero, i.size, i.bytes)) = some (some (.agg #[(.string ⟨#[]⟩), (.slice none 0 0), (.int .i64 0), (.slice none 0 0), (.slice none 0 0)]), 5, 96) := by kernel_rfl
theorem info103 : (Tryz.prog.info? 103).map (fun i => (i.zero, i.size, i.bytes)) = some (some (.agg #[(.int .i64 0), (.int .i64 0), (.int .i64 0), (.string ⟨#[]⟩), (.string ⟨#[]⟩)]), 5, 56) := by kernel_rfl
theorem info104 : (Tryz.prog.info? 104).map (fun i => (i.zero, i.size, i.bytes)) = some (some (.agg #[(.int .i64 0), (.int .i64 0), (.int .i64 0), (.string ⟨#[]⟩), (.string ⟨#[]⟩)]), 5, 56) := by kernel_rfl
theorem info172 : (Tryz.prog.info? 172).map (fun i => (i.zero, i.size, i.bytes)) = some (some (.agg #[(.int .i64 0), (.int .i64 0), (.int .i64 0), (.int .u64 0)]), 4, 32) := by kernel_rfl
structure S83 where
 f0 : Int
 f1 : Int
def z83 : S83 := ⟨(0 : Int), (0 : Int)⟩
def k83 : Kd S83 := Kd.iso (Kd.pair (Kd.int .i64) (Kd.int .u64)) (fun x : S83 => (x.f0, x.f1))
theorem qES {w : World} {x : S83} {cs : List Value} (h : k83.K w x cs) : cs = [.int .i64 x.f0, .int .u64 x.f1] := by
 obtain ⟨_, _, rfl, rfl, rfl⟩ := h
 exact rfl
theorem k83_mkM (w : World) (base : Nat) (ok : Nat → Prop) (x : S83)  : k83.M w base ok x [.int .i64 x.f0, .int .u64 x.f1] := ⟨[.int .i64 x.f0], [.int .u64 x.f1], rfl, rfl, rfl⟩
structure S69 where
 f0 : (List Int)
 f1 : Int
def z69 : S69 := ⟨([] : List Int), (0 : Int)⟩
def k69 : Kd S69 := Kd.iso (Kd.pair (Kd.slice 3 (Kd.int .i64)) (Kd.int .i64)) (fun x : S69 => (x.f0, x.f1))
theorem k69_open {w : World} {x : S69} {cs : List Value} (h : k69.K w x cs) : ∃ A0 c0, cs = [.slice A0 x.f0.length c0, .int .i64 x.f1] ∧ x.f0.length ≤ c0 ∧ (Kd.int .i64).C w A0 x.f0.length x.f0 := by
 obtain ⟨_, _, rfl, ⟨A0, c0, rfl, l0, g0⟩, rfl⟩ := h
 exact ⟨A0, c0, rfl, l0, g0⟩
theorem k69_mkM (w : World) (base : Nat) (ok : Nat → Prop) (x : S69) {v0 : Value} (g0 : (Kd.int .i64).R 3 w base ok v0 x.f0) : k69.M w base ok x [v0, .int .i64 x.f1] := ⟨[v0], [.int .i64 x.f1], rfl, ⟨v0, rfl, g0⟩, rfl⟩
structure S144 where
 f0 : Int
 f1 : Int
 f2 : S83
def z144 : S144 := ⟨(0 : Int), (0 : Int), z83⟩
def k144 : Kd S144 := Kd.iso (Kd.pair (Kd.int .i64) (Kd.pair (Kd.int .i64) k83)) (fun x : S144 => (x.f0, x.f1, x.f2))
theorem k144_open {w : World} {x : S144} {cs : List Value} (h : k144.K w x cs) : cs = [.int .i64 x.f0, .int .i64 x.f1, .int .i64 x.f2.f0, .int .u64 x.f2.f1] := by
 obtain ⟨_, _, rfl, rfl, ⟨_, _, rfl, rfl, s2⟩⟩ := h
 obtain rfl := qES s2
 exact rfl
theorem k144_mkM (w : World) (base : Nat) (ok : Nat → Prop) (x : S144)  : k144.M w base ok x [.int .i64 x.f0, .int .i64 x.f1, .int .i64 x.f2.f0, .int .u64 x.f2.f1] := ⟨[.int .i64 x.f0], [.int .i64 x.f1, .int .i64 x.f2.f0, .int .u64 x.f2.f1], rfl, rfl, ⟨[.int .i64 x.f1], [.int .i64 x.f2.f0, .int .u64 x.f2.f1], rfl, rfl, (k83_mkM w base ok x.f2 )⟩⟩
def qAH (xs : List S144) (i : Int) : S144 := xs.getD i.toNat z144
theorem qCF {w : World} {A : Option Addr} {n : Nat} {xs : List S144} (h : Kd.C k144 w A n xs) (i : Int) (h0 : 0 ≤ i) (h1 : i < n) : ∃ ad , A = some ad ∧ w.cell? (ad.add (i.toNat * 4)) = some (.int .i64 (qAH xs i).f0) ∧ w.cell? ⟨(ad.add (i.toNat * 4)).block, (ad.add (i.toNat * 4)).off + 1, none⟩ = some (.int .i64 (qAH xs i).f1) ∧ w.cell? ⟨(ad.add (i.toNat * 4)).block, (ad.add (i.toNat * 4)).off + 2, none⟩ = some (.int .i64 (qAH xs i).f2.f0) ∧ w.cell? ⟨(ad.add (i.toNat * 4)).block, (ad.add (i.toNat * 4)).off + 3, none⟩ = some (.int .u64 (qAH xs i).f2.f1) := by
 obtain ⟨ad, c, e, _, hK, hc0⟩ := Kd.C_get h z144 i h0 h1
 have hc : ∀ j u, c[j]? = some u → w.cell? (ad.add (i.toNat * 4 + j)) = some u := hc0
 obtain rfl := k144_open hK
 exact ⟨ad, e, hc 0 _ rfl, by rw [← qBt _ _ 1 (by omega)]; exact hc 1 _ rfl, by rw [← qBt _ _ 2 (by omega)]; exact hc 2 _ rfl, by rw [← qBt _ _ 3 (by omega)]; exact hc 3 _ rfl⟩
structure S90 where
 f0 : S69
 f1 : (List Int)
 f2 : (List S144)
def z90 : S90 := ⟨z69, ([] : List Int), ([] : List S144)⟩
def k90 : Kd S90 := Kd.iso (Kd.pair k69 (Kd.pair (Kd.slice 3 (Kd.int .i64)) (Kd.slice 144 k144))) (fun x : S90 => (x.f0, x.f1, x.f2))
theorem k90_open {w : World} {x : S90} {cs : List Value} (h : k90.K w x cs) : ∃ A0 c0 A2 c2 A3 c3, cs = [.slice A0 x.f0.f0.length c0, .int .i64 x.f0.f1, .slice A2 x.f1.length c2, .slice A3 x.f2.length c3] ∧ x.f0.f0.length ≤ c0 ∧ (Kd.int .i64).C w A0 x.f0.f0.length x.f0.f0 ∧ x.f1.length ≤ c2 ∧ (Kd.int .i64).C w A2 x.f1.length x.f1 ∧ x.f2.length ≤ c3 ∧ k144.C w A3 x.f2.length x.f2 := by
 obtain ⟨_, _, rfl, s0, ⟨_, _, rfl, ⟨A2, c2, rfl, l2, g2⟩, ⟨A3, c3, rfl, l3, g3⟩⟩⟩ := h
 obtain ⟨A0, c0, rfl, l0, g0⟩ := k69_open s0
 exact ⟨A0, c0, A2, c2, A3, c3, rfl, l0, g0, l2, g2, l3, g3⟩
theorem k90_mkM (w : World) (base : Nat) (ok : Nat → Prop) (x : S90) {v0 : Value} (g0 : (Kd.int .i64).R 3 w base ok v0 x.f0.f0) {v2 : Value} (g2 : (Kd.int .i64).R 3 w base ok v2 x.f1) {v3 : Value} (g3 : k144.R 144 w base ok v3 x.f2) : k90.M w base ok x [v0, .int .i64 x.f0.f1, v2, v3] := ⟨[v0, .int .i64 x.f0.f1], [v2, v3], rfl, (k69_mkM w base ok x.f0 g0), ⟨[v2], [v3], rfl, ⟨v2, rfl, g2⟩, ⟨v3, rfl, g3⟩⟩⟩
structure S92 where
 f0 : ByteArray
 f1 : S90
def z92 : S92 := ⟨(⟨#[]⟩ : ByteArray), z90⟩
def k92 : Kd S92 := Kd.iso (Kd.pair Kd.string k90) (fun x : S92 => (x.f0, x.f1))
theorem k92_open {w : World} {x : S92} {cs : List Value} (h : k92.K w x cs) : ∃ A1 c1 A3 c3 A4 c4, cs = [.string x.f0, .slice A1 x.f1.f0.f0.length c1, .int .i64 x.f1.f0.f1, .slice A3 x.f1.f1.length c3, .slice A4 x.f1.f2.length c4] ∧ x.f1.f0.f0.length ≤ c1 ∧ (Kd.int .i64).C w A1 x.f1.f0.f0.length x.f1.f0.f0 ∧ x.f1.f1.length ≤ c3 ∧ (Kd.int .i64).C w A3 x.f1.f1.length x.f1.f1 ∧ x.f1.f2.length ≤ c4 ∧ k144.C w A4 x.f1.f2.length x.f1.f2 := by
 obtain ⟨_, _, rfl, rfl, s1⟩ := h
 obtain ⟨A1, c1, A3, c3, A4, c4, rfl, l1, g1, l3, g3, l4, g4⟩ := k90_open s1
 exact ⟨A1, c1, A3, c3, A4, c4, rfl, l1, g1, l3, g3, l4, g4⟩
theorem k92_mkM (w : World) (base : Nat) (ok : Nat → Prop) (x : S92) {v1 : Value} (g1 : (Kd.int .i64).R 3 w base ok v1 x.f1.f0.f0) {v3 : Value} (g3 : (Kd.int .i64).R 3 w base ok v3 x.f1.f1) {v4 : Value} (g4 : k144.R 144 w base ok v4 x.f1.f2) : k92.M w base ok x [.string x.f0, v1, .int .i64 x.f1.f0.f1, v3, v4] := ⟨[.string x.f0], [v1, .int .i64 x.f1.f0.f1, v3, v4], rfl, rfl, (k90_mkM w base ok x.f1 g1 g3 g4)⟩
def qAy (xs : List S92) (i : Int) : S92 := xs.getD i.toNat z92
theorem qFu {w : World} {A : Option Addr} {n : Nat} {xs : List S92} (h : Kd.C k92 w A n xs) (i : Int) (h0 : 0 ≤ i) (h1 : i < n) : ∃ ad A1 c1 A3 c3 A4 c4, A = some ad ∧ w.cell? (ad.add (i.toNat * 5)) = some (.string (qAy xs i).f0) ∧ w.cell? ⟨(ad.add (i.toNat * 5)).block, (ad.add (i.toNat * 5)).off + 1, none⟩ = some (.slice A1 (qAy xs i).f1.f0.f0.length c1) ∧ w.cell? ⟨(ad.add (i.toNat * 5)).block, (ad.add (i.toNat * 5)).off + 2, none⟩ = some (.int .i64 (qAy xs i).f1.f0.f1) ∧ w.cell? ⟨(ad.add (i.toNat * 5)).block, (ad.add (i.toNat * 5)).off + 3, none⟩ = some (.slice A3 (qAy xs i).f1.f1.length c3) ∧ w.cell? ⟨(ad.add (i.toNat * 5)).block, (ad.add (i.toNat * 5)).off + 4, none⟩ = some (.slice A4 (qAy xs i).f1.f2.length c4) ∧ (qAy xs i).f1.f0.f0.length ≤ c1 ∧ (Kd.int .i64).C w A1 (qAy xs i).f1.f0.f0.length (qAy xs i).f1.f0.f0 ∧ (qAy xs i).f1.f1.length ≤ c3 ∧ (Kd.int .i64).C w A3 (qAy xs i).f1.f1.length (qAy xs i).f1.f1 ∧ (qAy xs i).f1.f2.length ≤ c4 ∧ k144.C w A4 (qAy xs i).f1.f2.length (qAy xs i).f1.f2 := by
 obtain ⟨ad, c, e, _, hK, hc0⟩ := Kd.C_get h z92 i h0 h1
 have hc : ∀ j u, c[j]? = some u → w.cell? (ad.add (i.toNat * 5 + j)) = some u := hc0
 obtain ⟨A1, c1, A3, c3, A4, c4, rfl, l1, g1, l3, g3, l4, g4⟩ := k92_open hK
 exact ⟨ad, A1, c1, A3, c3, A4, c4, e, hc 0 _ rfl, by rw [← qBt _ _ 1 (by omega)]; exact hc 1 _ rfl, by rw [← qBt _ _ 2 (by omega)]; exact hc 2 _ rfl, by rw [← qBt _ _ 3 (by omega)]; exact hc 3 _ rfl, by rw [← qBt _ _ 4 (by omega)]; exact hc 4 _ rfl, l1, g1, l3, g3, l4, g4⟩
structure S104 where
 f0 : Int
 f1 : Int
 f2 : Int
 f3 : ByteArray
 f4 : ByteArray
def z104 : S104 := ⟨(0 : Int), (0 : Int), (0 : Int), (⟨#[]⟩ : ByteArray), (⟨#[]⟩ : ByteArray)⟩
def k104 : Kd S104 := Kd.iso (Kd.pair (Kd.int .i64) (Kd.pair (Kd.int .i64) (Kd.pair (Kd.int .i64) (Kd.pair Kd.string Kd.string)))) (fun x : S104 => (x.f0, x.f1, x.f2, x.f3, x.f4))
theorem k104_open {w : World} {x : S104} {cs : List Value} (h : k104.K w x cs) : cs = [.int .i64 x.f0, .int .i64 x.f1, .int .i64 x.f2, .string x.f3, .string x.f4] := by
 obtain ⟨_, _, rfl, rfl, ⟨_, _, rfl, rfl, ⟨_, _, rfl, rfl, ⟨_, _, rfl, rfl, rfl⟩⟩⟩⟩ := h
 exact rfl
theorem k104_mkM (w : World) (base : Nat) (ok : Nat → Prop) (x : S104)  : k104.M w base ok x [.int .i64 x.f0, .int .i64 x.f1, .int .i64 x.f2, .string x.f3, .string x.f4] := ⟨[.int .i64 x.f0], [.int .i64 x.f1, .int .i64 x.f2, .string x.f3, .string x.f4], rfl, rfl, ⟨[.int .i64 x.f1], [.int .i64 x.f2, .string x.f3, .string x.f4], rfl, rfl, ⟨[.int .i64 x.f2], [.string x.f3, .string x.f4], rfl, rfl, ⟨[.string x.f3], [.string x.f4], rfl, rfl, rfl⟩⟩⟩⟩
def qCE (xs : List S104) (i : Int) : S104 := xs.getD i.toNat z104
theorem qDK {w : World} {A : Option Addr} {n : Nat} {xs : List S104} (h : Kd.C k104 w A n xs) (i : Int) (h0 : 0 ≤ i) (h1 : i < n) : ∃ ad , A = some ad ∧ w.cell? (ad.add (i.toNat * 5)) = some (.int .i64 (qCE xs i).f0) ∧ w.cell? ⟨(ad.add (i.toNat * 5)).block, (ad.add (i.toNat * 5)).off + 1, none⟩ = some (.int .i64 (qCE xs i).f1) ∧ w.cell? ⟨(ad.add (i.toNat * 5)).block, (ad.add (i.toNat * 5)).off + 2, none⟩ = some (.int .i64 (qCE xs i).f2) ∧ w.cell? ⟨(ad.add (i.toNat * 5)).block, (ad.add (i.toNat * 5)).off + 3, none⟩ = some (.string (qCE xs i).f3) ∧ w.cell? ⟨(ad.add (i.toNat * 5)).block, (ad.add (i.toNat * 5)).off + 4, none⟩ = some (.string (qCE xs i).f4) := by
 obtain ⟨ad, c, e, _, hK, hc0⟩ := Kd.C_get h z104 i h0 h1
 have hc : ∀ j u, c[j]? = some u → w.cell? (ad.add (i.toNat * 5 + j)) = some u := hc0
 obtain rfl := k104_open hK
 exact ⟨ad, e, hc 0 _ rfl, by rw [← qBt _ _ 1 (by omega)]; exact hc 1 _ rfl, by rw [← qBt _ _ 2 (by omega)]; exact hc 2 _ rfl, by rw [← qBt _ _ 3 (by omega)]; exact hc 3 _ rfl, by rw [← qBt _ _ 4 (by omega)]; exact hc 4 _ rfl⟩
structure S85 where
 f0 : ByteArray
 f1 : S83
def z85 : S85 := ⟨(⟨#[]⟩ : ByteArray), z83⟩
def k85 : Kd S85 := Kd.iso (Kd.pair Kd.string k83) (fun x : S85 => (x.f0, x.f1))
theorem k85_open {w : World} {x : S85} {cs : List Value} (h : k85.K w x cs) : cs = [.string x.f0, .int .i64 x.f1.f0, .int .u64 x.f1.f1] := by
 obtain ⟨_, _, rfl, rfl, s1⟩ := h
 obtain rfl := qES s1
 exact rfl
theorem k85_mkM (w : World) (base : Nat) (ok : Nat → Prop) (x : S85)  : k85.M w base ok x [.string x.f0, .int .i64 x.f1.f0, .int .u64 x.f1.f1] := ⟨[.string x.f0], [.int .i64 x.f1.f0, .int .u64 x.f1.f1], rfl, rfl, (k83_mkM w base ok x.f1 )⟩
def qBd (xs : List S85) (i : Int) : S85 := xs.getD i.toNat z85
theorem at_T85 {w : World} {A : Option Addr} {n : Nat} {xs : List S85} (h : Kd.C k85 w A n xs) (i : Int) (h0 : 0 ≤ i) (h1 : i < n) : ∃ ad , A = some ad ∧ w.cell? (ad.add (i.toNat * 3)) = some (.string (qBd xs i).f0) ∧ w.cell? ⟨(ad.add (i.toNat * 3)).block, (ad.add (i.toNat * 3)).off + 1, none⟩ = some (.int .i64 (qBd xs i).f1.f0) ∧ w.cell? ⟨(ad.add (i.toNat * 3)).block, (ad.add (i.toNat * 3)).off + 2, none⟩ = some (.int .u64 (qBd xs i).f1.f1) := by
 obtain ⟨ad, c, e, _, hK, hc0⟩ := Kd.C_get h z85 i h0 h1
 have hc : ∀ j u, c[j]? = some u → w.cell? (ad.add (i.toNat * 3 + j)) = some u := hc0
 obtain rfl := k85_open hK
 exact ⟨ad, e, hc 0 _ rfl, by rw [← qBt _ _ 1 (by omega)]; exact hc 1 _ rfl, by rw [← qBt _ _ 2 (by omega)]; exact hc 2 _ rfl⟩
structure S172 where
 f0 : Int
 f1 : Int
 f2 : S83
def z172 : S172 := ⟨(0 : Int), (0 : Int), z83⟩
def k172 : Kd S172 := Kd.iso (Kd.pair (Kd.int .i64) (Kd.pair (Kd.int .i64) k83)) (fun x : S172 => (x.f0, x.f1, x.f2))
theorem k172_open {w : World} {x : S172} {cs : List Value} (h : k172.K w x cs) : cs = [.int .i64 x.f0, .int .i64 x.f1, .int .i64 x.f2.f0, .int .u64 x.f2.f1] := by
 obtain ⟨_, _, rfl, rfl, ⟨_, _, rfl, rfl, s2⟩⟩ := h
 obtain rfl := qES s2
 exact rfl
theorem k172_mkM (w : World) (base : Nat) (ok : Nat → Prop) (x : S172)  : k172.M w base ok x [.int .i64 x.f0, .int .i64 x.f1, .int .i64 x.f2.f0, .int .u64 x.f2.f1] := ⟨[.int .i64 x.f0], [.int .i64 x.f1, .int .i64 x.f2.f0, .int .u64 x.f2.f1], rfl, rfl, ⟨[.int .i64 x.f1], [.int .i64 x.f2.f0, .int .u64 x.f2.f1], rfl, rfl, (k83_mkM w base ok x.f2 )⟩⟩
def qAQ (xs : List S172) (i : Int) : S172 := xs.getD i.toNat z172
theorem qCj {w : World} {A : Option Addr} {n : Nat} {xs : List S172} (h : Kd.C k172 w A n xs) (i : Int) (h0 : 0 ≤ i) (h1 : i < n) : ∃ ad , A = some ad ∧ w.cell? (ad.add (i.toNat * 4)) = some (.int .i64 (qAQ xs i).f0) ∧ w.cell? ⟨(ad.add (i.toNat * 4)).block, (ad.add (i.toNat * 4)).off + 1, none⟩ = some (.int .i64 (qAQ xs i).f1) ∧ w.cell? ⟨(ad.add (i.toNat * 4)).block, (ad.add (i.toNat * 4)).off + 2, none⟩ = some (.int .i64 (qAQ xs i).f2.f0) ∧ w.cell? ⟨(ad.add (i.toNat * 4)).block, (ad.add (i.toNat * 4)).off + 3, none⟩ = some (.int .u64 (qAQ xs i).f2.f1) := by
 obtain ⟨ad, c, e, _, hK, hc0⟩ := Kd.C_get h z172 i h0 h1
 have hc : ∀ j u, c[j]? = some u → w.cell? (ad.add (i.toNat * 4 + j)) = some u := hc0
 obtain rfl := k172_open hK
 exact ⟨ad, e, hc 0 _ rfl, by rw [← qBt _ _ 1 (by omega)]; exact hc 1 _ rfl, by rw [← qBt _ _ 2 (by omega)]; exact hc 2 _ rfl, by rw [← qBt _ _ 3 (by omega)]; exact hc 3 _ rfl⟩
structure S95 where
 f0 : ByteArray
 f1 : S83
def z95 : S95 := ⟨(⟨#[]⟩ : ByteArray), z83⟩
def k95 : Kd S95 := Kd.iso (Kd.pair Kd.string k83) (fun x : S95 => (x.f0, x.f1))
theorem k95_open {w : World} {x : S95} {cs : List Value} (h : k95.K w x cs) : cs = [.string x.f0, .int .i64 x.f1.f0, .int .u64 x.f1.f1] := by
 obtain ⟨_, _, rfl, rfl, s1⟩ := h
 obtain rfl := qES s1
 exact rfl
theorem k95_mkM (w : World) (base : Nat) (ok : Nat → Prop) (x : S95)  : k95.M w base ok x [.string x.f0, .int .i64 x.f1.f0, .int .u64 x.f1.f1] := ⟨[.string x.f0], [.int .i64 x.f1.f0, .int .u64 x.f1.f1], rfl, rfl, (k83_mkM w base ok x.f1 )⟩
def qCo (xs : List S95) (i : Int) : S95 := xs.getD i.toNat z95
theorem at_T95 {w : World} {A : Option Addr} {n : Nat} {xs : List S95} (h : Kd.C k95 w A n xs) (i : Int) (h0 : 0 ≤ i) (h1 : i < n) : ∃ ad , A = some ad ∧ w.cell? (ad.add (i.toNat * 3)) = some (.string (qCo xs i).f0) ∧ w.cell? ⟨(ad.add (i.toNat * 3)).block, (ad.add (i.toNat * 3)).off + 1, none⟩ = some (.int .i64 (qCo xs i).f1.f0) ∧ w.cell? ⟨(ad.add (i.toNat * 3)).block, (ad.add (i.toNat * 3)).off + 2, none⟩ = some (.int .u64 (qCo xs i).f1.f1) := by
 obtain ⟨ad, c, e, _, hK, hc0⟩ := Kd.C_get h z95 i h0 h1
 have hc : ∀ j u, c[j]? = some u → w.cell? (ad.add (i.toNat * 3 + j)) = some u := hc0
 obtain rfl := k95_open hK
 exact ⟨ad, e, hc 0 _ rfl, by rw [← qBt _ _ 1 (by omega)]; exact hc 1 _ rfl, by rw [← qBt _ _ 2 (by omega)]; exact hc 2 _ rfl⟩
structure S70 where
 f0 : (List Int)
 f1 : Int
def z70 : S70 := ⟨([] : List Int), (0 : Int)⟩
def k70 : Kd S70 := Kd.iso (Kd.pair (Kd.slice 3 (Kd.int .i64)) (Kd.int .i64)) (fun x : S70 => (x.f0, x.f1))
theorem k70_open {w : World} {x : S70} {cs : List Value} (h : k70.K w x cs) : ∃ A0 c0, cs = [.slice A0 x.f0.length c0, .int .i64 x.f1] ∧ x.f0.length ≤ c0 ∧ (Kd.int .i64).C w A0 x.f0.length x.f0 := by
 obtain ⟨_, _, rfl, ⟨A0, c0, rfl, l0, g0⟩, rfl⟩ := h
 exact ⟨A0, c0, rfl, l0, g0⟩
theorem k70_mkM (w : World) (base : Nat) (ok : Nat → Prop) (x : S70) {v0 : Value} (g0 : (Kd.int .i64).R 3 w base ok v0 x.f0) : k70.M w base ok x [v0, .int .i64 x.f1] := ⟨[v0], [.int .i64 x.f1], rfl, ⟨v0, rfl, g0⟩, rfl⟩
structure S98 where
 f0 : S70
 f1 : (List Int)
 f2 : (List S172)
def z98 : S98 := ⟨z70, ([] : List Int), ([] : List S172)⟩
def k98 : Kd S98 := Kd.iso (Kd.pair k70 (Kd.pair (Kd.slice 3 (Kd.int .i64)) (Kd.slice 172 k172))) (fun x : S98 => (x.f0, x.f1, x.f2))
theorem k98_open {w : World} {x : S98} {cs : List Value} (h : k98.K w x cs) : ∃ A0 c0 A2 c2 A3 c3, cs = [.slice A0 x.f0.f0.length c0, .int .i64 x.f0.f1, .slice A2 x.f1.length c2, .slice A3 x.f2.length c3] ∧ x.f0.f0.length ≤ c0 ∧ (Kd.int .i64).C w A0 x.f0.f0.length x.f0.f0 ∧ x.f1.length ≤ c2 ∧ (Kd.int .i64).C w A2 x.f1.length x.f1 ∧ x.f2.length ≤ c3 ∧ k172.C w A3 x.f2.length x.f2 := by
 obtain ⟨_, _, rfl, s0, ⟨_, _, rfl, ⟨A2, c2, rfl, l2, g2⟩, ⟨A3, c3, rfl, l3, g3⟩⟩⟩ := h
 obtain ⟨A0, c0, rfl, l0, g0⟩ := k70_open s0
 exact ⟨A0, c0, A2, c2, A3, c3, rfl, l0, g0, l2, g2, l3, g3⟩
theorem k98_mkM (w : World) (base : Nat) (ok : Nat → Prop) (x : S98) {v0 : Value} (g0 : (Kd.int .i64).R 3 w base ok v0 x.f0.f0) {v2 : Value} (g2 : (Kd.int .i64).R 3 w base ok v2 x.f1) {v3 : Value} (g3 : k172.R 172 w base ok v3 x.f2) : k98.M w base ok x [v0, .int .i64 x.f0.f1, v2, v3] := ⟨[v0, .int .i64 x.f0.f1], [v2, v3], rfl, (k70_mkM w base ok x.f0 g0), ⟨[v2], [v3], rfl, ⟨v2, rfl, g2⟩, ⟨v3, rfl, g3⟩⟩⟩
structure S100 where
 f0 : ByteArray
 f1 : S98
def z100 : S100 := ⟨(⟨#[]⟩ : ByteArray), z98⟩
def k100 : Kd S100 := Kd.iso (Kd.pair Kd.string k98) (fun x : S100 => (x.f0, x.f1))
theorem k100_open {w : World} {x : S100} {cs : List Value} (h : k100.K w x cs) : ∃ A1 c1 A3 c3 A4 c4, cs = [.string x.f0, .slice A1 x.f1.f0.f0.length c1, .int .i64 x.f1.f0.f1, .slice A3 x.f1.f1.length c3, .slice A4 x.f1.f2.length c4] ∧ x.f1.f0.f0.length ≤ c1 ∧ (Kd.int .i64).C w A1 x.f1.f0.f0.length x.f1.f0.f0 ∧ x.f1.f1.length ≤ c3 ∧ (Kd.int .i64).C w A3 x.f1.f1.length x.f1.f1 ∧ x.f1.f2.length ≤ c4 ∧ k172.C w A4 x.f1.f2.length x.f1.f2 := by
 obtain ⟨_, _, rfl, rfl, s1⟩ := h
 obtain ⟨A1, c1, A3, c3, A4, c4, rfl, l1, g1, l3, g3, l4, g4⟩ := k98_open s1
 exact ⟨A1, c1, A3, c3, A4, c4, rfl, l1, g1, l3, g3, l4, g4⟩
theorem k100_mkM (w : World) (base : Nat) (ok : Nat → Prop) (x : S100) {v1 : Value} (g1 : (Kd.int .i64).R 3 w base ok v1 x.f1.f0.f0) {v3 : Value} (g3 : (Kd.int .i64).R 3 w base ok v3 x.f1.f1) {v4 : Value} (g4 : k172.R 172 w base ok v4 x.f1.f2) : k100.M w base ok x [.string x.f0, v1, .int .i64 x.f1.f0.f1, v3, v4] := ⟨[.string x.f0], [v1, .int .i64 x.f1.f0.f1, v3, v4], rfl, rfl, (k98_mkM w base ok x.f1 g1 g3 g4)⟩
def qAM (xs : List S100) (i : Int) : S100 := xs.getD i.toNat z100
theorem qEz {w : World} {A : Option Addr} {n : Nat} {xs : List S100} (h : Kd.C k100 w A n xs) (i : Int) (h0 : 0 ≤ i) (h1 : i < n) : ∃ ad A1 c1 A3 c3 A4 c4, A = some ad ∧ w.cell? (ad.add (i.toNat * 5)) = some (.string (qAM xs i).f0) ∧ w.cell? ⟨(ad.add (i.toNat * 5)).block, (ad.add (i.toNat * 5)).off + 1, none⟩ = some (.slice A1 (qAM xs i).f1.f0.f0.length c1) ∧ w.cell? ⟨(ad.add (i.toNat * 5)).block, (ad.add (i.toNat * 5)).off + 2, none⟩ = some (.int .i64 (qAM xs i).f1.f0.f1) ∧ w.cell? ⟨(ad.add (i.toNat * 5)).block, (ad.add (i.toNat * 5)).off + 3, none⟩ = some (.slice A3 (qAM xs i).f1.f1.length c3) ∧ w.cell? ⟨(ad.add (i.toNat * 5)).block, (ad.add (i.toNat * 5)).off + 4, none⟩ = some (.slice A4 (qAM xs i).f1.f2.length c4) ∧ (qAM xs i).f1.f0.f0.length ≤ c1 ∧ (Kd.int .i64).C w A1 (qAM xs i).f1.f0.f0.length (qAM xs i).f1.f0.f0 ∧ (qAM xs i).f1.f1.length ≤ c3 ∧ (Kd.int .i64).C w A3 (qAM xs i).f1.f1.length (qAM xs i).f1.f1 ∧ (qAM xs i).f1.f2.length ≤ c4 ∧ k172.C w A4 (qAM xs i).f1.f2.length (qAM xs i).f1.f2 := by
 obtain ⟨ad, c, e, _, hK, hc0⟩ := Kd.C_get h z100 i h0 h1
 have hc : ∀ j u, c[j]? = some u → w.cell? (ad.add (i.toNat * 5 + j)) = some u := hc0
 obtain ⟨A1, c1, A3, c3, A4, c4, rfl, l1, g1, l3, g3, l4, g4⟩ := k100_open hK
 exact ⟨ad, A1, c1, A3, c3, A4, c4, e, hc 0 _ rfl, by rw [← qBt _ _ 1 (by omega)]; exact hc 1 _ rfl, by rw [← qBt _ _ 2 (by omega)]; exact hc 2 _ rfl, by rw [← qBt _ _ 3 (by omega)]; exact hc 3 _ rfl, by rw [← qBt _ _ 4 (by omega)]; exact hc 4 _ rfl, l1, g1, l3, g3, l4, g4⟩
structure S103 where
 f0 : Int
 f1 : Int
 f2 : Int
 f3 : ByteArray
 f4 : ByteArray
def z103 : S103 := ⟨(0 : Int), (0 : Int), (0 : Int), (⟨#[]⟩ : ByteArray), (⟨#[]⟩ : ByteArray)⟩
def k103 : Kd S103 := Kd.iso (Kd.pair (Kd.int .i64) (Kd.pair (Kd.int .i64) (Kd.pair (Kd.int .i64) (Kd.pair Kd.string Kd.string)))) (fun x : S103 => (x.f0, x.f1, x.f2, x.f3, x.f4))
theorem k103_open {w : World} {x : S103} {cs : List Value} (h : k103.K w x cs) : cs = [.int .i64 x.f0, .int .i64 x.f1, .int .i64 x.f2, .string x.f3, .string x.f4] := by
 obtain ⟨_, _, rfl, rfl, ⟨_, _, rfl, rfl, ⟨_, _, rfl, rfl, ⟨_, _, rfl, rfl, rfl⟩⟩⟩⟩ := h
 exact rfl
theorem k103_mkM (w : World) (base : Nat) (ok : Nat → Prop) (x : S103)  : k103.M w base ok x [.int .i64 x.f0, .int .i64 x.f1, .int .i64 x.f2, .string x.f3, .string x.f4] := ⟨[.int .i64 x.f0], [.int .i64 x.f1, .int .i64 x.f2, .string x.f3, .string x.f4], rfl, rfl, ⟨[.int .i64 x.f1], [.int .i64 x.f2, .string x.f3, .string x.f4], rfl, rfl, ⟨[.int .i64 x.f2], [.string x.f3, .string x.f4], rfl, rfl, ⟨[.string x.f3], [.string x.f4], rfl, rfl, rfl⟩⟩⟩⟩
def qAE (xs : List S103) (i : Int) : S103 := xs.getD i.toNat z103
theorem qCJ {w : World} {A : Option Addr} {n : Nat} {xs : List S103} (h : Kd.C k103 w A n xs) (i : Int) (h0 : 0 ≤ i) (h1 : i < n) : ∃ ad , A = some ad ∧ w.cell? (ad.add (i.toNat * 5)) = some (.int .i64 (qAE xs i).f0) ∧ w.cell? ⟨(ad.add (i.toNat * 5)).block, (ad.add (i.toNat * 5)).off + 1, none⟩ = some (.int .i64 (qAE xs i).f1) ∧ w.cell? ⟨(ad.add (i.toNat * 5)).block, (ad.add (i.toNat * 5)).off + 2, none⟩ = some (.int .i64 (qAE xs i).f2) ∧ w.cell? ⟨(ad.add (i.toNat * 5)).block, (ad.add (i.toNat * 5)).off + 3, none⟩ = some (.string (qAE xs i).f3) ∧ w.cell? ⟨(ad.add (i.toNat * 5)).block, (ad.add (i.toNat * 5)).off + 4, none⟩ = some (.string (qAE xs i).f4) := by
 obtain ⟨ad, c, e, _, hK, hc0⟩ := Kd.C_get h z103 i h0 h1
 have hc : ∀ j u, c[j]? = some u → w.cell? (ad.add (i.toNat * 5 + j)) = some u := hc0
 obtain rfl := k103_open hK
 exact ⟨ad, e, hc 0 _ rfl, by rw [← qBt _ _ 1 (by omega)]; exact hc 1 _ rfl, by rw [← qBt _ _ 2 (by omega)]; exact hc 2 _ rfl, by rw [← qBt _ _ 3 (by omega)]; exact hc 3 _ rfl, by rw [← qBt _ _ 4 (by omega)]; exact hc 4 _ rfl⟩
def TyB (W : World) (b : Nat) (t : TypeId) : Prop := ∃ cs fr, W.heap[b]? = some (.cells cs t fr)
theorem TyB.of {W : World} {b : Nat} {t : TypeId} {cs : Array Value} {fr : Nat × Nat} (h : W.heap[b]? = some (.cells cs t fr)) : TyB W b t := ⟨cs, fr, h⟩
theorem TyB.set {W : World} {b : Nat} {t : TypeId} {p : Addr} {u : Value} (h : TyB W b t) : TyB (W.setCell p u) b t := by
 obtain ⟨cs, fr, h⟩ := h
 by_cases e : b = p.block
 rotate_left
 ·exact ⟨cs, fr, (Below.heap_setCell W p u b e).trans h⟩
 subst e
 exact ⟨if p.spot.isSome then cs else cs.setIfInBounds p.off u, fr, by simp [World.setCell, Array.getElem?_modify, h]⟩
theorem TyB.ofR {W : World} {α : Type} {d : Kd α} {e : Nat} {base : Nat} {ok : Nat → Prop} {v : Value} {xs : List α} (h : d.R e W base ok v xs) (k : Nat) (hk : v.ownBlock = some k) : TyB W k e := by
 obtain ⟨inner, ho⟩ := Kd.R_own h
 obtain ⟨cells, hc⟩ := qDW ho k hk
 exact ⟨cells, _, hc⟩
theorem TyB.ne {W : World} {a b : Nat} {t u : TypeId} {cs : Array Value} (h : TyB W a t) (hb : W.heap[b]? = some (.cells cs u (0, 0))) (ht : t ≠ u) : b ≠ a := by
 rintro rfl
 obtain ⟨_, _, h⟩ := h
 rw [hb] at h
 injection h with h
 injection h with _ h
 exact ht h.symm
def RdB (W : World) (b0 g : Nat) (bs : List Int) (v : Value) : Prop :=
 (bs = [] ∧ ∃ A c, v = Value.slice A 0 c) ∨
  ∃ (gb o c : Nat) (cells : Array Value), b0 ≤ gb ∧ gb < g ∧ v = .slice (some ⟨gb, o, none⟩) bs.length c ∧ 0 < bs.length ∧ bs.length ≤ c ∧ W.heap[gb]? = some (.cells cells 5 (0, 0)) ∧ (∀ (j : Nat) (y : Int), bs[j]? = some y → cells[o + j]? = some (Value.int .u8 y))
def qAm (w0 W : World) (g : Nat) (f0 : List Int) (f1 : Int) (f2 : Int) : Prop :=
 w0.heap.size ≤ g ∧ 0 ≤ f1 ∧ f1 ≤ f0.length ∧ f0.length ≤ 9223372036854775807 ∧ ∃ v, W.heap[g]? = some (.cells #[v, .int .i64 f2] 182 (0, 0)) ∧ RdB W w0.heap.size g (f0.drop f1.toNat) v
theorem RdB.move {W W1 : World} {b0 g : Nat} {bs : List Int} {v : Value} (h : RdB W b0 g bs v) (hm : ∀ (gb : Nat) (cells : Array Value), W.heap[gb]? = some (.cells cells 5 (0, 0)) → W1.heap[gb]? = W.heap[gb]?) : RdB W1 b0 g bs v := by
 rcases h with h | ⟨gb, o, c, cells, h1, h1', h2, h3, h4, hc, r⟩
 ·exact .inl h
 exact .inr ⟨gb, o, c, cells, h1, h1', h2, h3, h4, (hm gb cells hc).trans hc, r⟩
theorem qAm.move {w0 W W1 : World} {g : Nat} {f0 : List Int} {f1 : Int} {f2 : Int} (h : qAm w0 W g f0 f1 f2) (hg : g < W.heap.size → W1.heap[g]? = W.heap[g]?) (hm : ∀ (gb : Nat) (cells : Array Value), W.heap[gb]? = some (.cells cells 5 (0, 0)) → W1.heap[gb]? = W.heap[gb]?) : qAm w0 W1 g f0 f1 f2 := by
 obtain ⟨h1, h2, h3, h4, v, hb, hr⟩ := h
 exact ⟨h1, h2, h3, h4, v, (hg (qBo hb)).trans hb, hr.move hm⟩
theorem qAm.grown {w0 W : World} {g : Nat} {f0 : List Int} {f1 : Int} {f2 : Int} {W1 : World} {row : Option Nat} {e : TypeId} (h : qAm w0 W g f0 f1 f2) (hw : W.grownBy W1 row) (hne : some g ≠ row) (hty : ∀ k, row = some k → TyB W k e) (hte : e ≠ 5) : qAm w0 W1 g f0 f1 f2 :=
 h.move (fun hl => hw.block g hl hne) (fun gb _ hc => hw.block gb (qBo hc) (fun e => (hty gb e.symm).ne hc hte rfl))
theorem qAm.grownR {w0 W W0 : World} {g : Nat} {f0 f0' : List Int} {f1 f1' : Int} {f2 f2' : Int} {W1 : World} {α : Type} {d : Kd α} {e : Nat} {base : Nat} {ok : Nat → Prop} {v : Value} {xs : List α} (h : qAm w0 W g f0 f1 f2) (hw : W.grownBy W1 v.ownBlock) (h0 : qAm w0 W0 g f0' f1' f2') (ho : d.R e W0 base ok v xs) (ht : e ≠ 182 ∧ e ≠ 5) (hs : ∀ b t, TyB W0 b t → TyB W b t) : qAm w0 W1 g f0 f1 f2 := by
 obtain ⟨_, _, _, _, u, hb, _⟩ := h0
 exact h.grown hw (Kd.R_ne ho hb ht.1) (fun k hk => hs k e (TyB.ofR ho k hk)) ht.2
theorem qAm.grownRS {w0 W W0 : World} {g : Nat} {f0 f0' : List Int} {f1 f1' : Int} {f2 f2' : Int} {W1 : World} {α : Type} {d : Kd α} {e : Nat} {base : Nat} {ok : Nat → Prop} {v : Value} {xs : List α} (h : qAm w0 W g f0 f1 f2) (hw : W.grownBy W1 v.ownBlock) (h0 : qAm w0 W0 g f0' f1' f2') (ho : d.S e W0 base ok v xs) (ht : e ≠ 182 ∧ e ≠ 5) (hs : ∀ b t, TyB W0 b t → TyB W b t) : qAm w0 W1 g f0 f1 f2 :=
 h.grownR hw h0 (Kd.S_R ho) ht hs
theorem qAm.below {w0 W : World} {g : Nat} {f0 : List Int} {f1 : Int} {f2 : Int} {W1 : World} (h : qAm w0 W g f0 f1 f2) (hw : Below W.heap.size W W1) : qAm w0 W1 g f0 f1 f2 :=
 h.move (fun hl => hw.block g hl) (fun gb _ hc => hw.block gb (qBo hc))
theorem qAm.alloc {w0 W : World} {g : Nat} {f0 : List Int} {f1 : Int} {f2 : Int} (h : qAm w0 W g f0 f1 f2) (o : Obj) : qAm w0 (W.alloc o) g f0 f1 f2 := h.below (qAI (Below.refl _ _) o)
theorem qAm.drewN {w0 W : World} {g : Nat} {f0 : List Int} {f1 : Int} {f2 : Int} (h : qAm w0 W g f0 f1 f2) (m : Nat) : qAm w0 (W.drewN m) g f0 f1 f2 := h
theorem qAm.drew {w0 W : World} {g : Nat} {f0 : List Int} {f1 : Int} {f2 : Int} (h : qAm w0 W g f0 f1 f2) : qAm w0 W.drew g f0 f1 f2 := h
theorem qAm.apart {w0 W : World} {g : Nat} {f0 : List Int} {f1 : Int} {f2 : Int} {α : Type} {d : Kd α} {e : Nat} {base : Nat} {ok : Nat → Prop} {v : Value} {xs : List α} (h : qAm w0 W g f0 f1 f2) (ho : d.R e W base ok v xs) (ht : ∀ q, q ∈ e :: d.E → q ≠ 182) : d.R e W base (fun k => ok k ∧ k ≠ g) v xs := by
 obtain ⟨_, _, _, _, u, hb, _⟩ := h
 exact Kd.R_types ho hb ht
theorem qAm.apartS {w0 W : World} {g : Nat} {f0 : List Int} {f1 : Int} {f2 : Int} {α : Type} {d : Kd α} {e : Nat} {base : Nat} {ok : Nat → Prop} {v : Value} {xs : List α} (h : qAm w0 W g f0 f1 f2) (ho : d.S e W base ok v xs) (ht : ∀ q, q ∈ e :: d.E → q ≠ 182) : d.S e W base (fun k => ok k ∧ k ≠ g) v xs := by
 obtain ⟨_, _, _, _, u, hb, _⟩ := h
 exact Kd.S_types ho hb ht
theorem qAm.lt {w0 W : World} {g : Nat} {f0 : List Int} {f1 : Int} {f2 : Int} (h : qAm w0 W g f0 f1 f2) : g < W.heap.size := by
 obtain ⟨_, _, _, _, v, hb, _⟩ := h
 exact qBo hb
theorem qAm.ge {w0 W : World} {g : Nat} {f0 : List Int} {f1 : Int} {f2 : Int} (h : qAm w0 W g f0 f1 f2) : w0.heap.size ≤ g := h.1
theorem qAm.ne_blk {w0 W : World} {g : Nat} {f0 : List Int} {f1 : Int} {f2 : Int} {a : Nat} {cs : Array Value} {t : TypeId} {fr : Nat × Nat} (h : qAm w0 W g f0 f1 f2) (hb2 : W.heap[a]? = some (.cells cs t fr)) (ht : t ≠ 182) : g ≠ a := by
 obtain ⟨_, _, _, _, v, hb, _⟩ := h
 rintro rfl
 rw [hb] at hb2
 injection hb2 with hb2
 injection hb2 with _ ht2
 exact ht ht2.symm
theorem qAm.far {w0 W : World} {g : Nat} {f0 : List Int} {f1 : Int} {f2 : Int} {p : Addr} {t : TypeId} (h : qAm w0 W g f0 f1 f2) (hne : g ≠ p.block) (hb : TyB W p.block t) (ht : t ≠ 5) (u : Value) : qAm w0 (W.setCell p u) g f0 f1 f2 :=
 h.move (fun _ => Below.heap_setCell W p u g hne) (fun gb _ hc => Below.heap_setCell W p u gb (hb.ne hc ht))
theorem qAm.behind {w0 W : World} {g : Nat} {f0 : List Int} {f1 : Int} {f2 : Int} {p : Addr} (h : qAm w0 W g f0 f1 f2) (hne : g < p.block) (u : Value) : qAm w0 (W.setCell p u) g f0 f1 f2 := by
 obtain ⟨h1, h2, h3, h4, v, hb, hr⟩ := h
 refine ⟨h1, h2, h3, h4, v, (Below.heap_setCell W p u g (by omega)).trans hb, ?_⟩
 rcases hr with hr | ⟨gb, o, c, cells, k1, k1', k2, k3, k4, hc, r⟩
 ·exact .inl hr
 exact .inr ⟨gb, o, c, cells, k1, k1', k2, k3, k4, (Below.heap_setCell W p u gb (by omega)).trans hc, r⟩
def MkR (e : Nat) (W : World) (v : Value) (xs : List Int) : Prop :=
 ∃ (g c : Nat) (cells : Array Value) (fr : Nat × Nat), v = .slice (some ⟨g, 0, none⟩) xs.length c ∧ xs.length ≤ c ∧ xs.length ≤ 9223372036854775807 ∧ W.heap[g]? = some (.cells cells e fr) ∧ ∀ (j : Nat) (y : Int), xs[j]? = some y → cells[j]? = some (Value.int .u8 y)
theorem MkR.move {e : Nat} {W W1 : World} {v : Value} {xs : List Int} (h : MkR e W v xs) (hm : ∀ (g : Nat) cells fr, W.heap[g]? = some (.cells cells e fr) → W1.heap[g]? = W.heap[g]?) : MkR e W1 v xs := by
 obtain ⟨g, c, cells, fr, h1, h2, h3, h4, h5⟩ := h
 exact ⟨g, c, cells, fr, h1, h2, h3, (hm g cells fr h4).trans h4, h5⟩
theorem MkR.below {e : Nat} {W W1 : World} {v : Value} {xs : List Int} (h : MkR e W v xs) (hb : Below W.heap.size W W1) : MkR e W1 v xs := h.move fun g _ _ hc => hb.block g (qBo hc)
theorem MkR.keep {e t : Nat} {W W1 : World} {v : Value} {xs : List Int} {g : Nat} {cs : Array Value} (h : MkR e W v xs) (hk : qAg W W1 g none) (hg : W.heap[g]? = some (.cells cs t (0, 0))) (ht : e ≠ t) : MkR e W1 v xs :=
 h.move fun g' cells fr hc => hk.2 g' (qBo hc) (fun e_ => by
   subst e_
   rw [hg] at hc
   injection hc with hc
   injection hc with _ hc
   exact ht hc.symm) (by simp)
theorem MkR.keepS {e : Nat} {W W1 w0 : World} {v : Value} {xs : List Int} {g : Nat} {f0 : List Int} {f1 f2 : Int} (h : MkR e W v xs) (hk : qAg W W1 g none) (hI : qAm w0 W g f0 f1 f2) (ht : e ≠ 182) : MkR e W1 v xs := by
 obtain ⟨_, _, _, _, u, hb, _⟩ := hI
 exact h.keep hk hb ht
theorem qDa (g j : Nat) : (⟨g, 0, none⟩ : Addr).add j = ⟨g, j, none⟩ := by unfold Addr.add; split <;> simp_all
theorem MkR.at_int {e : Nat} {W : World} {A : Option Addr} {n c : Nat} {xs : List Int} (h : MkR e W (.slice A n c) xs) (i : Int) (h0 : 0 ≤ i) (h1 : i < xs.length) : ∃ ad, A = some ad ∧ W.cell? (ad.add i.toNat) = some (.int .u8 (rd xs i)) := by
 obtain ⟨g, c', cells, fr, h1', h2, h3, h4, h5⟩ := h
 injection h1' with hA hn hc
 refine ⟨⟨g, 0, none⟩, hA, ?_⟩
 have hx : xs[i.toNat]? = some (rd xs i) := by
  unfold rd
  rw [List.getD_eq_getElem?_getD, List.getElem?_eq_getElem (by omega)]; rfl
 rw [qDa]
 have := h5 _ _ hx
 simp [World.cell?, h4, this]
theorem qDQ (W : World) (a : Addr) (n k : Nat) (hk : k ≠ a.block) : (W.freeze a n).heap[k]? = W.heap[k]? := by
 unfold World.freeze
 split
 ·rfl
 simp [Array.getElem?_modify, Ne.symm hk]
theorem mark_event {P : Program} {ops : Array Oper} {rest : List Oper} {o : Oper} {a : Act} {Q : Exit → Act → World → Prop} {W W0 : World} (hgd : o.guard = none) (s : Operand) (t e : TypeId) (ho : o.op = .convert t t s) (ht : P.underlying t = some (.slice e)) (he : P.underlying e = some (.int .u8))
  {ok : Nat → Prop} {A : Option Addr} {c : Nat} {xs : List Int} (hs : a.eval s = .slice A xs.length c) (HO : (Kd.int .u8).R e W W0.heap.size ok (.slice A xs.length c) xs) (HB : Below W0.heap.size W0 W) (h0 : 0 < xs.length)
  (h : ∀ w1, MkR e w1 (.slice A xs.length c) xs → Below W0.heap.size W0 w1 → wpList P ops Q rest (a.put o.dst (.slice A xs.length c)) w1) : wpList P ops Q (o :: rest) a W := by
 obtain ⟨A', c', hv, hcl, hC⟩ := Kd.R_reads HO
 injection hv with hA hn hc; subst hA; subst hc
 obtain ⟨inner, hown⟩ := Kd.R_own HO
 rcases hown.2 with ⟨hv, _⟩ | ⟨g, cap, cur, hv, hb, hg, hr⟩
 ·injection hv with hA hn _; omega
 injection hv with hA hn hcap; subst hA
 have hsh : W.shape? g = some (e, cur.size) := by unfold World.shape?; rw [hg]
 refine Kd.event_run (W := W) (v := .slice (some ⟨g, 0, none⟩) xs.length c) (w1 := W.freeze ⟨g, cur.size, none⟩ 1) hgd ?_ ?_
 ·unfold execOp
  rw [ho]
  simp [hs, convert, run_underlying ht, run_underlying he, markStringish, hsh]
 ·have hfz : (W.freeze ⟨g, cur.size, none⟩ 1).heap[g]? = some (.cells cur e (cur.size, cur.size + 1)) := by
   unfold World.freeze
   simp [Array.getElem?_modify, hg]
  refine h _ ⟨g, c, cur, _, rfl, hcl, hC.2.1, hfz, fun j y hy => ?_⟩ ?_
  ·obtain ⟨ad, had, hcell⟩ := hC.2.2 h0
   cases had
   obtain ⟨cs, hcl, hK, hcc⟩ := hcell j y hy
   obtain rfl : cs = [Value.int .u8 y] := hK
   have := hcc 0 _ rfl
   rw [show j * (Kd.int .u8).sz + 0 = j from Nat.mul_one j, qDa] at this
   simpa [World.cell?, hg] using this
  ·refine ⟨HB.os, HB.tape, HB.output, ?_, fun k hk => ?_⟩
   ·have : (W.freeze ⟨g, cur.size, none⟩ 1).heap.size = W.heap.size := by unfold World.freeze; simp
    rw [this]; exact HB.size
   ·rw [qDQ _ _ _ _ (by show k ≠ g; omega)]; exact HB.block k hk
def qAv (w0 W : World) (g : Nat) (f0 : List Int) (f1 : Int) (f2 : Int) : Prop := ∃ A0 c0, W.heap[g]? = some (.cells #[.slice A0 f0.length c0, .int .i64 f1, .int .i64 f2] 136 (0, 0)) ∧ (w0.heap.size ≤ g ∧ f0.length ≤ c0) ∧ Kd.C (Kd.int .u8) w0 A0 f0.length f0
theorem qAv.grown {w0 W : World} {g : Nat} {f0 : List Int} {f1 : Int} {f2 : Int} {W1 : World} {row : Option Nat} (h : qAv w0 W g f0 f1 f2) (hw : W.grownBy W1 row) (hne : some g ≠ row) : qAv w0 W1 g f0 f1 f2 := by
 obtain ⟨A0, c0, hb, hg, hr0⟩ := h
 exact ⟨A0, c0, qBr hb hw hne, hg, hr0⟩
theorem qAv.below {w0 W : World} {g : Nat} {f0 : List Int} {f1 : Int} {f2 : Int} {W1 : World} (h : qAv w0 W g f0 f1 f2) (hw : Below W.heap.size W W1) : qAv w0 W1 g f0 f1 f2 := h.grown (grown_of_below hw none) (by simp)
theorem qAv.alloc {w0 W : World} {g : Nat} {f0 : List Int} {f1 : Int} {f2 : Int} (h : qAv w0 W g f0 f1 f2) (o : Obj) : qAv w0 (W.alloc o) g f0 f1 f2 := h.below (qAI (Below.refl _ _) o)
theorem qAv.drewN {w0 W : World} {g : Nat} {f0 : List Int} {f1 : Int} {f2 : Int} (h : qAv w0 W g f0 f1 f2) (m : Nat) : qAv w0 (W.drewN m) g f0 f1 f2 := h
theorem qAv.drew {w0 W : World} {g : Nat} {f0 : List Int} {f1 : Int} {f2 : Int} (h : qAv w0 W g f0 f1 f2) : qAv w0 W.drew g f0 f1 f2 := h
theorem qAv.apart {w0 W : World} {g : Nat} {f0 : List Int} {f1 : Int} {f2 : Int} {α : Type} {d : Kd α} {e : Nat} {base : Nat} {ok : Nat → Prop} {v : Value} {xs : List α} (h : qAv w0 W g f0 f1 f2) (ho : d.R e W base ok v xs) (ht : ∀ q, q ∈ e :: d.E → q ≠ 136) : d.R e W base (fun k => ok k ∧ k ≠ g) v xs := by
 obtain ⟨A0, c0, hb, hg, hr0⟩ := h
 exact Kd.R_types ho hb ht
theorem qAv.own_ne {w0 W : World} {g : Nat} {f0 : List Int} {f1 : Int} {f2 : Int} {α : Type} {d : Kd α} {e : Nat} {base : Nat} {ok : Nat → Prop} {v : Value} {xs : List α} (h : qAv w0 W g f0 f1 f2) (ho : d.R e W base ok v xs) (ht : e ≠ 136) : some g ≠ v.ownBlock := by
 obtain ⟨A0, c0, hb, hg, hr0⟩ := h
 exact Kd.R_ne ho hb ht
theorem qAv.apartS {w0 W : World} {g : Nat} {f0 : List Int} {f1 : Int} {f2 : Int} {α : Type} {d : Kd α} {e : Nat} {base : Nat} {ok : Nat → Prop} {v : Value} {xs : List α} (h : qAv w0 W g f0 f1 f2) (ho : d.S e W base ok v xs) (ht : ∀ q, q ∈ e :: d.E → q ≠ 136) : d.S e W base (fun k => ok k ∧ k ≠ g) v xs := by
 obtain ⟨A0, c0, hb, hg, hr0⟩ := h
 exact Kd.S_types ho hb ht
theorem qAv.own_neS {w0 W : World} {g : Nat} {f0 : List Int} {f1 : Int} {f2 : Int} {α : Type} {d : Kd α} {e : Nat} {base : Nat} {ok : Nat → Prop} {v : Value} {xs : List α} (h : qAv w0 W g f0 f1 f2) (ho : d.S e W base ok v xs) (ht : e ≠ 136) : some g ≠ v.ownBlock := by
 obtain ⟨A0, c0, hb, hg, hr0⟩ := h
 exact Kd.S_ne ho hb ht
theorem qAv.lt {w0 W : World} {g : Nat} {f0 : List Int} {f1 : Int} {f2 : Int} (h : qAv w0 W g f0 f1 f2) : g < W.heap.size := by
 obtain ⟨A0, c0, hb, hg, hr0⟩ := h
 exact qBo hb
theorem qAv.ge {w0 W : World} {g : Nat} {f0 : List Int} {f1 : Int} {f2 : Int} (h : qAv w0 W g f0 f1 f2) : w0.heap.size ≤ g := by
 obtain ⟨A0, c0, hb, hg, hr0⟩ := h
 exact hg.1
theorem qAv.ne_blk {w0 W : World} {g : Nat} {f0 : List Int} {f1 : Int} {f2 : Int} {a : Nat} {cs : Array Value} {t : TypeId} {fr : Nat × Nat} (h : qAv w0 W g f0 f1 f2) (hb2 : W.heap[a]? = some (.cells cs t fr)) (ht : t ≠ 136) : g ≠ a := by
 obtain ⟨A0, c0, hb, hg, hr0⟩ := h
 rintro rfl
 rw [hb] at hb2
 injection hb2 with hb2
 injection hb2 with _ ht2
 exact ht ht2.symm
theorem qAv.far {w0 W : World} {g : Nat} {f0 : List Int} {f1 : Int} {f2 : Int} {p : Addr} (h : qAv w0 W g f0 f1 f2) (hne : g ≠ p.block) (u : Value) : qAv w0 (W.setCell p u) g f0 f1 f2 := by
 obtain ⟨A0, c0, hb, hg, hr0⟩ := h
 exact ⟨A0, c0, qAz hb hne u, hg, hr0⟩
theorem qCn {W : World} {g : Nat} {A0 : Option Addr} {c0 : Nat} {f0 : List Int} {f1 : Int} {f2 : Int} (h : W.heap[g]? = some (.cells #[.slice A0 f0.length c0, .int .i64 f1, .int .i64 f2] 136 (0, 0))) : W.cell? ⟨g, 0, none⟩ = some (.slice A0 f0.length c0) := (qAa h 0).trans rfl
theorem qCe {W : World} {g : Nat} {A0 : Option Addr} {c0 : Nat} {f0 : List Int} {f1 : Int} {f2 : Int} (h : W.heap[g]? = some (.cells #[.slice A0 f0.length c0, .int .i64 f1, .int .i64 f2] 136 (0, 0))) : W.cell? ⟨g, 1, none⟩ = some (.int .i64 f1) := (qAa h 1).trans rfl
theorem qAv.set_1 {w0 W : World} {g : Nat} {f0 : List Int} {f1 : Int} {f2 : Int} (h : qAv w0 W g f0 f1 f2) (x : Int) : qAv w0 (W.setCell ⟨g, 1, none⟩ (.int .i64 x)) g f0 x f2 := by
 obtain ⟨A0, c0, hb, hg, hr0⟩ := h
 exact ⟨A0, c0, by simpa using qCk hb 1 (.int .i64 x), hg, hr0⟩
theorem qB4 {W : World} {g : Nat} {A0 : Option Addr} {c0 : Nat} {f0 : List Int} {f1 : Int} {f2 : Int} (h : W.heap[g]? = some (.cells #[.slice A0 f0.length c0, .int .i64 f1, .int .i64 f2] 136 (0, 0))) : W.cell? ⟨g, 2, none⟩ = some (.int .i64 f2) := (qAa h 2).trans rfl
theorem qAv.set_2 {w0 W : World} {g : Nat} {f0 : List Int} {f1 : Int} {f2 : Int} (h : qAv w0 W g f0 f1 f2) (x : Int) : qAv w0 (W.setCell ⟨g, 2, none⟩ (.int .i64 x)) g f0 f1 x := by
 obtain ⟨A0, c0, hb, hg, hr0⟩ := h
 exact ⟨A0, c0, by simpa using qCk hb 2 (.int .i64 x), hg, hr0⟩
def qA6.l0 : Nat → List Int → List Int → Int → Option (Bool)
 | 0, _, _, _ => none
 | k + 1, x0, x1, x5 => if x5 < (x0.length : Int) then (if 0 ≤ x5 then (if x5 < (x1.length : Int) then (if (rd x0 x5) = (rd x1 x5) then (qA6.l0 k x0 x1 (wrap64 (x5 + 1))) else (some false)) else (none)) else (none)) else (some true)
def qA6.f (k : Nat) (l0 : List Int) (l1 : List Int) : Option (Bool) := if (l0.length : Int) = (l1.length : Int) then (qA6.l0 k l0 l1 0) else (some false)
theorem qA6.calls (k : Nat) (A0 : Option Addr) (c0 : Nat) (l0 : List Int) (A1 : Option Addr) (c1 : Nat) (l1 : List Int) (r : Bool) (w : World) (hr0 : Kd.C (Kd.int .i64) w A0 l0.length l0) (hc0 : l0.length ≤ c0) (hr1 : Kd.C (Kd.int .i64) w A1 l1.length l1) (hc1 : l1.length ≤ c1) (h : qA6.f k l0 l1 = some r) :
  Calls Tryz.prog 23 #[.slice A0 l0.length c0, .slice A1 l1.length c1] w fun e w' => e = .returned (.bool r) ∧ qAZ w w' := by
 have aR := am hr0
 clear hr0 hc0
 have aS := am hr1
 clear hr1 hc1
 have H : (if (l0.length : Int) = (l1.length : Int) then (qA6.l0 k l0 l1 0) else (some false)) = some r := h
 clear h
 by_cases c3 : (l0.length : Int) = (l1.length : Int)
 ·rw [if_pos c3] at H
  have aM : ((l0.length : Int) == (l1.length : Int)) = true := beq_iff_eq.mpr c3
  have aL : ((l0.length : Int) != (l1.length : Int)) = false := bn c3
  have aN : (l0.length == l1.length) = true := by (simp at c3 ⊢; omega)
  clear c3
  have H' := am H
  clear H
  go_enter Tryz.func23, Tryz.ntmps23
  go_wp2
  repeat (go_quiet (fail))
  go_loopg [5] k (fun kq v5 w' => ∃ (aA : Int), v5 = .int .i64 aA ∧ qAe (qA6.l0 kq l0 l1 aA = some r) ∧ qAe (kq ≤ k) ∧ qAZ w w')
  case atStart => exact ⟨(0), (by rfl), H', ⟨Nat.le_refl _⟩, by exact qAZ.refl _⟩
  case round =>
   clear H'
   obtain ⟨aA, rfl, HA, aQ, ⟨m1, rfl⟩⟩ := hrel
   cases gk with
   | zero => exact absurd HA.o (by simp [qA6.l0])
   | succ k1 =>
    have H := HA.o
    clear HA
    simp only [qA6.l0] at H
    by_cases c4 : aA < (l0.length : Int)
    rotate_left
    ·rw [if_neg c4] at H
     replace c4 := d0 c4
     obtain rfl := Option.some.inj H
     go_wp2
     repeat (go_quiet (fail))
     go_ret
     exact ⟨by rfl, by repeat (first | exact qAZ.refl _ | apply qAZ.step)⟩
    rw [if_pos c4] at H
    replace c4 := d1 c4
    obtain ⟨c5, H⟩ := gd H
    replace c5 := d1 c5
    obtain ⟨c6, H⟩ := gd H
    replace c6 := d1 c6
    by_cases c7 : (rd l0 aA) = (rd l1 aA)
    rotate_left
    ·rw [if_neg c7] at H
     have aP : ((rd l0 aA) != (rd l1 aA)) = true := bne_iff_ne.mpr c7
     obtain rfl := Option.some.inj H
     have aB : 0 ≤ aA := od (by assumption)
     have aC : aA < (l0.length : Int) := od (by assumption)
     obtain ⟨aJ, aG, aE⟩ := Kd.at_int aR.o aA aB aC
     cases aG
     replace aB := eq_true aB
     replace aC := eq_true aC
     have aI : 0 ≤ aA := od (by assumption)
     have aD : aA < (l1.length : Int) := od (by assumption)
     obtain ⟨aK, aH, aF⟩ := Kd.at_int aS.o aA aI aD
     cases aH
     replace aD := eq_true aD
     go_wp2
     repeat (go_quiet (fail); try go_wp2)
     go_ret
     exact ⟨by rfl, by repeat (first | exact qAZ.refl _ | apply qAZ.step)⟩
    rw [if_pos c7] at H
    have aP : ((rd l0 aA) != (rd l1 aA)) = false := bn c7
    clear c7
    have H' := am H
    clear H
    have aB : 0 ≤ aA := od (by assumption)
    have aC : aA < (l0.length : Int) := od (by assumption)
    obtain ⟨aJ, aG, aE⟩ := Kd.at_int aR.o aA aB aC
    cases aG
    replace aB := eq_true aB
    replace aC := eq_true aC
    have aI : 0 ≤ aA := od (by assumption)
    have aD : aA < (l1.length : Int) := od (by assumption)
    obtain ⟨aK, aH, aF⟩ := Kd.at_int aS.o aA aI aD
    cases aH
    replace aD := eq_true aD
    go_wp2
    repeat (go_quiet (fail); try go_wp2)
    go_roundg k1
    case measure => have := aQ.o; omega
    case rel => exact ⟨(wrap64 (aA + 1)), (by rfl), H', ⟨by have := aQ.o; omega⟩, by repeat (first | exact qAZ.refl _ | apply qAZ.step)⟩
 ·rw [if_neg c3] at H
  have aL : ((l0.length : Int) != (l1.length : Int)) = true := bne_iff_ne.mpr c3
  obtain rfl := Option.some.inj H
  go_enter Tryz.func23, Tryz.ntmps23
  go_wp2
  repeat (go_quiet (fail))
  go_ret
  exact ⟨by rfl, by exact qAZ.refl _⟩
theorem eqA83 (d : Nat) (w : World) (x0 y0 : Int) (x1 y1 : Int) :
  (Op.equalIn (d + 2) 83 (.agg #[.int .i64 x0, .int .u64 x1]) (.agg #[.int .i64 y0, .int .u64 y1])).run Tryz.prog w = .ok (x0 == y0 && (x1 == y1)) w := by
 refine eqA_of Tryz.underlying83 (by kernel_rfl) ?_
 refine eqf_cons (by rfl) (by go_simp; rfl) (by go_simp; rfl) (by go_simp) ?_
 exact eqf_last (by rfl) (by go_simp; rfl) (by go_simp; rfl) (by go_simp)
attribute [local go_sem high] eqA83
mutual
def qAn.j0 : Nat → Bool → List Int → Int → List Int → List (S144) → List Int → Int → List Int → List (S172) → Option (Bool)
 | 0, _, _, _, _, _, _, _, _, _ => none
 | k + 1, cg, a9, aa, ab, aN, ac, ad, ae, aO => if cg = true then (some false) else (qAn.l0 k 0 a9 aa ab aN ac ad ae aO)
def qAn.l0 : Nat → Int → List Int → Int → List Int → List (S144) → List Int → Int → List Int → List (S172) → Option (Bool)
 | 0, _, _, _, _, _, _, _, _, _ => none
 | k + 1, x5, a9, aa, ab, aN, ac, ad, ae, aO => if x5 < (aN.length : Int) then (if 0 ≤ x5 then (if x5 < (aO.length : Int) then (if ((qAH aN x5).f0) = ((qAQ aO x5).f0) then (if ((qAH aN x5).f1) = ((qAQ aO x5).f1) then (if (!(((qAH aN x5).f2.f0) == ((qAQ aO x5).f2.f0)) || (!(((qAH aN x5).f2.f1) == ((qAQ aO x5).f2.f1)))) = true then (some false) else (qAn.l0 k (wrap64 (x5 + 1)) a9 aa ab aN ac ad ae aO)) else (some false)) else (some false)) else (none)) else (none)) else (some true)
end
def qAn.f (k : Nat) (l0_0 : List Int) (a0_1 : Int) (l0_2 : List Int) (l0_3 : List (S144)) (l1_0 : List Int) (a1_1 : Int) (l1_2 : List Int) (l1_3 : List (S172)) : Option (Bool) := if a0_1 = a1_1 then ((qA6.f k l0_0 l1_0).bind fun bE => (if bE = true then ((qA6.f k l0_2 l1_2).bind fun a8 => (if a8 = true then (qAn.j0 k ((l0_3.length : Int) != (l1_3.length : Int)) l0_0 a0_1 l0_2 l0_3 l1_0 a1_1 l1_2 l1_3) else (qAn.j0 k true l0_0 a0_1 l0_2 l0_3 l1_0 a1_1 l1_2 l1_3))) else (qAn.j0 k true l0_0 a0_1 l0_2 l0_3 l1_0 a1_1 l1_2 l1_3))) else (qAn.j0 k true l0_0 a0_1 l0_2 l0_3 l1_0 a1_1 l1_2 l1_3)
theorem qAn.calls (k : Nat) (af : Option Addr) (aj : Nat) (l0_0 : List Int) (a0_1 : Int) (al : Option Addr) (ao : Nat) (l0_2 : List Int) (aW : Option Addr) (aX : Nat) (l0_3 : List (S144)) (ag : Option Addr) (ak : Nat) (l1_0 : List Int) (a1_1 : Int) (an : Option Addr) (ap : Nat) (l1_2 : List Int) (aY : Option Addr) (aZ : Nat) (l1_3 : List (S172)) (r : Bool) (w : World) (hr0_0 : Kd.C (Kd.int .i64) w af l0_0.length l0_0) (hc0_0 : l0_0.length ≤ aj) (hr0_2 : Kd.C (Kd.int .i64) w al l0_2.length l0_2) (hc0_2 : l0_2.length ≤ ao) (hr0_3 : Kd.C k144 w aW l0_3.length l0_3) (hc0_3 : l0_3.length ≤ aX) (hr1_0 : Kd.C (Kd.int .i64) w ag l1_0.length l1_0) (hc1_0 : l1_0.length ≤ ak) (hr1_2 : Kd.C (Kd.int .i64) w an l1_2.length l1_2) (hc1_2 : l1_2.length ≤ ap) (hr1_3 : Kd.C k172 w aY l1_3.length l1_3) (hc1_3 : l1_3.length ≤ aZ) (h : qAn.f k l0_0 a0_1 l0_2 l0_3 l1_0 a1_1 l1_2 l1_3 = some r) :
  Calls Tryz.prog 54 #[.agg #[.slice af l0_0.length aj, .int .i64 a0_1, .slice al l0_2.length ao, .slice aW l0_3.length aX], .agg #[.slice ag l1_0.length ak, .int .i64 a1_1, .slice an l1_2.length ap, .slice aY l1_3.length aZ]] w fun e w' => e = .returned (.bool r) ∧ Below w.heap.size w w' := by
 have bH := am hr0_0
 have bF := am hc0_0
 clear hr0_0 hc0_0
 have b1 := am hr0_2
 have bZ := am hc0_2
 clear hr0_2 hc0_2
 have aS := am hr0_3
 clear hr0_3 hc0_3
 have bI := am hr1_0
 have bG := am hc1_0
 clear hr1_0 hc1_0
 have b2 := am hr1_2
 have b0 := am hc1_2
 clear hr1_2 hc1_2
 have aT := am hr1_3
 clear hr1_3 hc1_3
 have HB := am (Below.refl w.heap.size w)
 have H : (if a0_1 = a1_1 then ((qA6.f k l0_0 l1_0).bind fun bE => (if bE = true then ((qA6.f k l0_2 l1_2).bind fun a8 => (if a8 = true then (qAn.j0 k ((l0_3.length : Int) != (l1_3.length : Int)) l0_0 a0_1 l0_2 l0_3 l1_0 a1_1 l1_2 l1_3) else (qAn.j0 k true l0_0 a0_1 l0_2 l0_3 l1_0 a1_1 l1_2 l1_3))) else (qAn.j0 k true l0_0 a0_1 l0_2 l0_3 l1_0 a1_1 l1_2 l1_3))) else (qAn.j0 k true l0_0 a0_1 l0_2 l0_3 l1_0 a1_1 l1_2 l1_3)) = some r := h
 clear h
 have cV := am H
 clear H
 go_enter Tryz.func54, Tryz.ntmps54
 go_upto_region 1 with (first | ((with_reducible refine qAO (N := 2) rfl ?_); (try (refine qBJ (by rfl) ?_; dsimp only)); refine bx 2 #[.slice af l0_0.length aj, .int .i64 a0_1, .slice al l0_2.length ao, .slice aW l0_3.length aX] 90 ?_; intro aH hg w4 hbox hb; have n_ := a2 (qAp HB.o hb) (am (hbox)); clear HB; obtain ⟨HB, aB⟩ := n_; clear hb hbox hg) | ((with_reducible refine qAO (N := 3) rfl ?_); (try (refine qBJ (by rfl) ?_; dsimp only)); refine bx 3 #[.slice ag l1_0.length ak, .int .i64 a1_1, .slice an l1_2.length ap, .slice aY l1_3.length aZ] 98 ?_; intro aI hg w5 hbox hb; have n_ := a2 (qA4 aB.o hb) (a2 (qAp HB.o hb) (am (hbox))); clear aB HB; obtain ⟨aB, HB, aE⟩ := n_; clear hb hbox hg))
 repeat (go_quiet (fail); go_upto_region 1 with (fail))
 (skip)
 go_cut [39] (fun cf wc => ∃ (kq : Nat) (bD : Bool), cf = .bool bD ∧ qAe (qAn.j0 kq bD l0_0 a0_1 l0_2 l0_3 l1_0 a1_1 l1_2 l1_3 = some r) ∧ qAe (kq ≤ k) ∧ qAe (wc.heap[aH]? = some (.cells #[(.slice af l0_0.length aj), .int .i64 a0_1, (.slice al l0_2.length ao), (.slice aW l0_3.length aX)] 90 (0, 0))) ∧ qAe (wc.heap[aI]? = some (.cells #[(.slice ag l1_0.length ak), .int .i64 a1_1, (.slice an l1_2.length ap), (.slice aY l1_3.length aZ)] 98 (0, 0))) ∧ qAe (Below w.heap.size w wc))
 case first =>
  have H := cV.o
  clear cV
  by_cases c6 : a0_1 = a1_1
  rotate_left
  ·rw [if_neg c6] at H
   have cW : (a0_1 != a1_1) = true := bne_iff_ne.mpr c6
   (skip)
   have H' := am H
   clear H
   have cK : w5.cell? ⟨aH, 1, none⟩ = some (.int .i64 a0_1) := (qAa aB.o 1).trans rfl
   have cL : w5.cell? ⟨aI, 1, none⟩ = some (.int .i64 a1_1) := (qAa aE.o 1).trans rfl
   go_wp2
   repeat (go_quiet (fail))
   go_meet
   case rel => exact ⟨_, (true), (by rfl), H', ⟨by omega⟩, ⟨by exact aB.o⟩, ⟨by exact aE.o⟩, ⟨by exact HB.o⟩⟩
  rw [if_pos c6] at H
  have cW : (a0_1 != a1_1) = false := bn c6
  clear c6
  (skip)
  replace H := bm H
  obtain ⟨bE, cY, H⟩ := H
  replace H : (if bE = true then ((qA6.f k l0_2 l1_2).bind fun a8 => (if a8 = true then (qAn.j0 k ((l0_3.length : Int) != (l1_3.length : Int)) l0_0 a0_1 l0_2 l0_3 l1_0 a1_1 l1_2 l1_3) else (qAn.j0 k true l0_0 a0_1 l0_2 l0_3 l1_0 a1_1 l1_2 l1_3))) else (qAn.j0 k true l0_0 a0_1 l0_2 l0_3 l1_0 a1_1 l1_2 l1_3)) = some r := H
  have A7 := am cY
  clear cY
  by_cases c8 : bE = true
  rotate_left
  ·replace c8 := Bool.eq_false_iff.mpr c8
   subst c8
   replace H : (qAn.j0 k true l0_0 a0_1 l0_2 l0_3 l1_0 a1_1 l1_2 l1_3) = some r := by rw [if_neg (show ¬ (false = true) by decide)] at H; exact H
   have H' := am H
   clear H
   have cG : w5.cell? ⟨aH, 0, none⟩ = some (.slice af l0_0.length aj) := (qAa aB.o 0).trans rfl
   have cH : w5.cell? ⟨aH, 1, none⟩ = some (.int .i64 a0_1) := (qAa aB.o 1).trans rfl
   have cI : w5.cell? ⟨aI, 0, none⟩ = some (.slice ag l1_0.length ak) := (qAa aE.o 0).trans rfl
   have cJ : w5.cell? ⟨aI, 1, none⟩ = some (.int .i64 a1_1) := (qAa aE.o 1).trans rfl
   go_wp2_with (go_at_call 23; (with_reducible refine (qA6.calls k _ _ l0_0 _ _ l1_0 false _ ?side1 ?side2 ?side3 ?side4 A7.o).mono ?_); (case side1 => exact (Kd.C_below bH.o HB.o)); (case side2 => exact bF.o); (case side3 => exact (Kd.C_below bI.o HB.o)); (case side4 => exact bG.o); rintro e w' ⟨rfl, ⟨nd, rfl⟩⟩; (skip))
   repeat (go_quiet (fail))
   go_meet
   case rel => exact ⟨_, (true), (by rfl), H', ⟨by omega⟩, ⟨by (with_reducible repeat (refine qBs ?_ _)); exact aB.o⟩, ⟨by (with_reducible repeat (refine qBs ?_ _)); exact aE.o⟩, ⟨by repeat (with_reducible first | exact HB.o | apply qAw)⟩⟩
  subst c8
  replace H : ((qA6.f k l0_2 l1_2).bind fun a8 => (if a8 = true then (qAn.j0 k ((l0_3.length : Int) != (l1_3.length : Int)) l0_0 a0_1 l0_2 l0_3 l1_0 a1_1 l1_2 l1_3) else (qAn.j0 k true l0_0 a0_1 l0_2 l0_3 l1_0 a1_1 l1_2 l1_3))) = some r := by rw [if_pos rfl] at H; exact H
  replace H := bm H
  obtain ⟨a8, cZ, H⟩ := H
  replace H : (if a8 = true then (qAn.j0 k ((l0_3.length : Int) != (l1_3.length : Int)) l0_0 a0_1 l0_2 l0_3 l1_0 a1_1 l1_2 l1_3) else (qAn.j0 k true l0_0 a0_1 l0_2 l0_3 l1_0 a1_1 l1_2 l1_3)) = some r := H
  have A9 := am cZ
  clear cZ
  by_cases c10 : a8 = true
  rotate_left
  ·replace c10 := Bool.eq_false_iff.mpr c10
   subst c10
   replace H : (qAn.j0 k true l0_0 a0_1 l0_2 l0_3 l1_0 a1_1 l1_2 l1_3) = some r := by rw [if_neg (show ¬ (false = true) by decide)] at H; exact H
   have H' := am H
   clear H
   have cA : w5.cell? ⟨aH, 0, none⟩ = some (.slice af l0_0.length aj) := (qAa aB.o 0).trans rfl
   have cB : w5.cell? ⟨aH, 1, none⟩ = some (.int .i64 a0_1) := (qAa aB.o 1).trans rfl
   have cC : w5.cell? ⟨aH, 2, none⟩ = some (.slice al l0_2.length ao) := (qAa aB.o 2).trans rfl
   have cD : w5.cell? ⟨aI, 0, none⟩ = some (.slice ag l1_0.length ak) := (qAa aE.o 0).trans rfl
   have cE : w5.cell? ⟨aI, 1, none⟩ = some (.int .i64 a1_1) := (qAa aE.o 1).trans rfl
   have cF : w5.cell? ⟨aI, 2, none⟩ = some (.slice an l1_2.length ap) := (qAa aE.o 2).trans rfl
   go_wp2_with (first | (go_at_call 23; (with_reducible refine (qA6.calls k _ _ l0_0 _ _ l1_0 true _ ?side1 ?side2 ?side3 ?side4 A7.o).mono ?_); (case side1 => exact (Kd.C_below bH.o HB.o)); (case side2 => exact bF.o); (case side3 => exact (Kd.C_below bI.o HB.o)); (case side4 => exact bG.o); rintro e w' ⟨rfl, ⟨nd, rfl⟩⟩; (skip)) | (go_at_call 23; (with_reducible refine (qA6.calls k _ _ l0_2 _ _ l1_2 false _ ?side1 ?side2 ?side3 ?side4 A9.o).mono ?_); (case side1 => repeat (exact (Kd.C_below b1.o (by repeat (with_reducible first | exact HB.o | apply qAw))))); (case side2 => exact bZ.o); (case side3 => repeat (exact (Kd.C_below b2.o (by repeat (with_reducible first | exact HB.o | apply qAw))))); (case side4 => exact b0.o); rintro e w' ⟨rfl, ⟨nd, rfl⟩⟩; (skip)))
   repeat (go_quiet (fail))
   go_meet
   case rel => exact ⟨_, (true), (by rfl), H', ⟨by omega⟩, ⟨by (with_reducible repeat (refine qBs ?_ _)); exact aB.o⟩, ⟨by (with_reducible repeat (refine qBs ?_ _)); exact aE.o⟩, ⟨by repeat (with_reducible first | exact HB.o | apply qAw)⟩⟩
  subst c10
  replace H : (qAn.j0 k ((l0_3.length : Int) != (l1_3.length : Int)) l0_0 a0_1 l0_2 l0_3 l1_0 a1_1 l1_2 l1_3) = some r := by rw [if_pos rfl] at H; exact H
  have H' := am H
  clear H
  have bo : w5.cell? ⟨aH, 0, none⟩ = some (.slice af l0_0.length aj) := (qAa aB.o 0).trans rfl
  have bp : w5.cell? ⟨aH, 1, none⟩ = some (.int .i64 a0_1) := (qAa aB.o 1).trans rfl
  have bq : w5.cell? ⟨aH, 2, none⟩ = some (.slice al l0_2.length ao) := (qAa aB.o 2).trans rfl
  have br : w5.cell? ⟨aH, 3, none⟩ = some (.slice aW l0_3.length aX) := (qAa aB.o 3).trans rfl
  have bs : w5.cell? ⟨aI, 0, none⟩ = some (.slice ag l1_0.length ak) := (qAa aE.o 0).trans rfl
  have bu : w5.cell? ⟨aI, 1, none⟩ = some (.int .i64 a1_1) := (qAa aE.o 1).trans rfl
  have bw : w5.cell? ⟨aI, 2, none⟩ = some (.slice an l1_2.length ap) := (qAa aE.o 2).trans rfl
  have bz : w5.cell? ⟨aI, 3, none⟩ = some (.slice aY l1_3.length aZ) := (qAa aE.o 3).trans rfl
  go_wp2_with (first | (go_at_call 23; (with_reducible refine (qA6.calls k _ _ l0_0 _ _ l1_0 true _ ?side1 ?side2 ?side3 ?side4 A7.o).mono ?_); (case side1 => exact (Kd.C_below bH.o HB.o)); (case side2 => exact bF.o); (case side3 => exact (Kd.C_below bI.o HB.o)); (case side4 => exact bG.o); rintro e w' ⟨rfl, ⟨nd, rfl⟩⟩; (skip)) | (go_at_call 23; (with_reducible refine (qA6.calls k _ _ l0_2 _ _ l1_2 true _ ?side1 ?side2 ?side3 ?side4 A9.o).mono ?_); (case side1 => repeat (exact (Kd.C_below b1.o (by repeat (with_reducible first | exact HB.o | apply qAw))))); (case side2 => exact bZ.o); (case side3 => repeat (exact (Kd.C_below b2.o (by repeat (with_reducible first | exact HB.o | apply qAw))))); (case side4 => exact b0.o); rintro e w' ⟨rfl, ⟨nd, rfl⟩⟩; (skip)))
  repeat (go_quiet (fail))
  go_meet
  case rel => exact ⟨_, ((l0_3.length : Int) != (l1_3.length : Int)), (by rfl), H', ⟨by omega⟩, ⟨by (with_reducible repeat (refine qBs ?_ _)); exact aB.o⟩, ⟨by (with_reducible repeat (refine qBs ?_ _)); exact aE.o⟩, ⟨by repeat (with_reducible first | exact HB.o | apply qAw)⟩⟩
 case rest =>
  clear cV
  obtain ⟨kq, bD, rfl, HA, c0, aB, aE, HB⟩ := hcut
  cases kq with
  | zero => exact absurd HA.o (by simp [qAn.j0])
  | succ cX =>
   have H := HA.o
   clear HA
   simp only [qAn.j0] at H
   by_cases bj : bD = true
   ·subst bj
    replace H : (some false) = some r := by rw [if_pos rfl] at H; exact H
    obtain rfl := Option.some.inj H
    go_wp2
    repeat (go_quiet (fail))
    go_ret
    exact ⟨by rfl, by exact HB.o⟩
   replace bj := Bool.eq_false_iff.mpr bj
   subst bj
   replace H : (qAn.l0 cX 0 l0_0 a0_1 l0_2 l0_3 l1_0 a1_1 l1_2 l1_3) = some r := by rw [if_neg (show ¬ (false = true) by decide)] at H; exact H
   have H' := am H
   clear H
   go_wp2
   repeat (go_quiet (fail))
   go_loopg [5] cX (fun kq v5 w' => ∃ (aA : Int), v5 = .int .i64 aA ∧ qAe (qAn.l0 kq aA l0_0 a0_1 l0_2 l0_3 l1_0 a1_1 l1_2 l1_3 = some r) ∧ qAe (kq ≤ cX) ∧ qAe (w'.heap[aH]? = some (.cells #[(.slice af l0_0.length aj), .int .i64 a0_1, (.slice al l0_2.length ao), (.slice aW l0_3.length aX)] 90 (0, 0))) ∧ qAe (w'.heap[aI]? = some (.cells #[(.slice ag l1_0.length ak), .int .i64 a1_1, (.slice an l1_2.length ap), (.slice aY l1_3.length aZ)] 98 (0, 0))) ∧ qAe (Below w.heap.size w w'))
   case atStart => exact ⟨(0), (by rfl), H', ⟨Nat.le_refl _⟩, ⟨by exact aB.o⟩, ⟨by exact aE.o⟩, ⟨by exact HB.o⟩⟩
   case round =>
    clear H'
    obtain ⟨aA, rfl, HA, c1, aB, aE, HB⟩ := hrel
    cases gk with
    | zero => exact absurd HA.o (by simp [qAn.l0])
    | succ k2 =>
     have H := HA.o
     clear HA
     simp only [qAn.l0] at H
     by_cases b9 : aA < (l0_3.length : Int)
     rotate_left
     ·rw [if_neg b9] at H
      replace b9 := d0 b9
      obtain rfl := Option.some.inj H
      have cU : wr.cell? ⟨aH, 3, none⟩ = some (.slice aW l0_3.length aX) := (qAa aB.o 3).trans rfl
      go_wp2
      repeat (go_quiet (fail))
      go_ret
      exact ⟨by rfl, by exact HB.o⟩
     rw [if_pos b9] at H
     replace b9 := d1 b9
     obtain ⟨bk, H⟩ := gd H
     replace bk := d1 bk
     obtain ⟨bl, H⟩ := gd H
     replace bl := d1 bl
     by_cases ba : ((qAH l0_3 aA).f0) = ((qAQ l1_3 aA).f0)
     rotate_left
     ·rw [if_neg ba] at H
      have bg : (((qAH l0_3 aA).f0) != ((qAQ l1_3 aA).f0)) = true := bne_iff_ne.mpr ba
      obtain rfl := Option.some.inj H
      have cS : wr.cell? ⟨aH, 3, none⟩ = some (.slice aW l0_3.length aX) := (qAa aB.o 3).trans rfl
      have aP : 0 ≤ aA := od (by assumption)
      have aQ : aA < (l0_3.length : Int) := od (by assumption)
      obtain ⟨aU, aq, aC, aF, aJ, aK⟩ := qCF aS.o aA aP aQ
      cases aq
      replace aC := (HB.o.cell (World.block_lt_of_cell? w _ aC)).trans aC
      replace aP := eq_true aP
      replace aQ := eq_true aQ
      have cT : wr.cell? ⟨aI, 3, none⟩ = some (.slice aY l1_3.length aZ) := (qAa aE.o 3).trans rfl
      have au : 0 ≤ aA := od (by assumption)
      have aR : aA < (l1_3.length : Int) := od (by assumption)
      obtain ⟨aV, ar, aD, aG, aL, aM⟩ := qCj aT.o aA au aR
      cases ar
      replace aD := (HB.o.cell (World.block_lt_of_cell? w _ aD)).trans aD
      replace aR := eq_true aR
      go_wp2
      repeat (go_quiet (fail); try go_wp2)
      go_ret
      exact ⟨by rfl, by repeat (with_reducible first | exact HB.o | apply qAw)⟩
     rw [if_pos ba] at H
     have cd : (((qAH l0_3 aA).f0) == ((qAQ l1_3 aA).f0)) = true := beq_iff_eq.mpr ba
     have bg : (((qAH l0_3 aA).f0) != ((qAQ l1_3 aA).f0)) = false := bn ba
     clear ba
     by_cases bb : ((qAH l0_3 aA).f1) = ((qAQ l1_3 aA).f1)
     rotate_left
     ·rw [if_neg bb] at H
      have bh : (((qAH l0_3 aA).f1) != ((qAQ l1_3 aA).f1)) = true := bne_iff_ne.mpr bb
      obtain rfl := Option.some.inj H
      have cQ : wr.cell? ⟨aH, 3, none⟩ = some (.slice aW l0_3.length aX) := (qAa aB.o 3).trans rfl
      have aP : 0 ≤ aA := od (by assumption)
      have aQ : aA < (l0_3.length : Int) := od (by assumption)
      obtain ⟨aU, aq, aC, aF, aJ, aK⟩ := qCF aS.o aA aP aQ
      cases aq
      replace aC := (HB.o.cell (World.block_lt_of_cell? w _ aC)).trans aC
      replace aF := (HB.o.cell (World.block_lt_of_cell? w _ aF)).trans aF
      replace aP := eq_true aP
      replace aQ := eq_true aQ
      have cR : wr.cell? ⟨aI, 3, none⟩ = some (.slice aY l1_3.length aZ) := (qAa aE.o 3).trans rfl
      have au : 0 ≤ aA := od (by assumption)
      have aR : aA < (l1_3.length : Int) := od (by assumption)
      obtain ⟨aV, ar, aD, aG, aL, aM⟩ := qCj aT.o aA au aR
      cases ar
      replace aD := (HB.o.cell (World.block_lt_of_cell? w _ aD)).trans aD
      replace aG := (HB.o.cell (World.block_lt_of_cell? w _ aG)).trans aG
      replace aR := eq_true aR
      have bN : 0 ≤ aA := od (by assumption)
      have bP : aA < (l0_3.length : Int) := od (by assumption)
      obtain ⟨ah, bL, av, aw, ax, ay⟩ := qCF aS.o aA bN bP
      obtain rfl : aU = ah := (by injection bL)
      have bO : 0 ≤ aA := od (by assumption)
      have bQ : aA < (l1_3.length : Int) := od (by assumption)
      obtain ⟨ai, bM, az, bA, bB, bC⟩ := qCj aT.o aA bO bQ
      obtain rfl : aV = ai := (by injection bM)
      go_wp2
      repeat (go_quiet (fail); try go_wp2)
      go_ret
      exact ⟨by rfl, by repeat (with_reducible first | exact HB.o | apply qAw)⟩
     rw [if_pos bb] at H
     have ce : (((qAH l0_3 aA).f1) == ((qAQ l1_3 aA).f1)) = true := beq_iff_eq.mpr bb
     have bh : (((qAH l0_3 aA).f1) != ((qAQ l1_3 aA).f1)) = false := bn bb
     clear bb
     by_cases bc : (!(((qAH l0_3 aA).f2.f0) == ((qAQ l1_3 aA).f2.f0)) || (!(((qAH l0_3 aA).f2.f1) == ((qAQ l1_3 aA).f2.f1)))) = true
     ·rw [if_pos bc] at H
      have bi : (!(((qAH l0_3 aA).f2.f0) == ((qAQ l1_3 aA).f2.f0)) || (!(((qAH l0_3 aA).f2.f1) == ((qAQ l1_3 aA).f2.f1)))) = true := bc
      clear bc
      obtain rfl := Option.some.inj H
      have cM : wr.cell? ⟨aH, 3, none⟩ = some (.slice aW l0_3.length aX) := (qAa aB.o 3).trans rfl
      have aP : 0 ≤ aA := od (by assumption)
      have aQ : aA < (l0_3.length : Int) := od (by assumption)
      obtain ⟨aU, aq, aC, aF, aJ, aK⟩ := qCF aS.o aA aP aQ
      cases aq
      replace aC := (HB.o.cell (World.block_lt_of_cell? w _ aC)).trans aC
      replace aF := (HB.o.cell (World.block_lt_of_cell? w _ aF)).trans aF
      replace aJ := (HB.o.cell (World.block_lt_of_cell? w _ aJ)).trans aJ
      replace aK := (HB.o.cell (World.block_lt_of_cell? w _ aK)).trans aK
      replace aP := eq_true aP
      replace aQ := eq_true aQ
      have cN : wr.cell? ⟨aI, 3, none⟩ = some (.slice aY l1_3.length aZ) := (qAa aE.o 3).trans rfl
      have au : 0 ≤ aA := od (by assumption)
      have aR : aA < (l1_3.length : Int) := od (by assumption)
      obtain ⟨aV, ar, aD, aG, aL, aM⟩ := qCj aT.o aA au aR
      cases ar
      replace aD := (HB.o.cell (World.block_lt_of_cell? w _ aD)).trans aD
      replace aG := (HB.o.cell (World.block_lt_of_cell? w _ aG)).trans aG
      replace aL := (HB.o.cell (World.block_lt_of_cell? w _ aL)).trans aL
      replace aM := (HB.o.cell (World.block_lt_of_cell? w _ aM)).trans aM
      replace aR := eq_true aR
      have bN : 0 ≤ aA := od (by assumption)
      have bP : aA < (l0_3.length : Int) := od (by assumption)
      obtain ⟨ah, bL, av, aw, ax, ay⟩ := qCF aS.o aA bN bP
      obtain rfl : aU = ah := (by injection bL)
      have bO : 0 ≤ aA := od (by assumption)
      have bQ : aA < (l1_3.length : Int) := od (by assumption)
      obtain ⟨ai, bM, az, bA, bB, bC⟩ := qCj aT.o aA bO bQ
      obtain rfl : aV = ai := (by injection bM)
      have b5 : 0 ≤ aA := od (by assumption)
      have b7 : aA < (l0_3.length : Int) := od (by assumption)
      obtain ⟨bJ, b3, bR, bS, bT, bU⟩ := qCF aS.o aA b5 b7
      obtain rfl : aU = bJ := (by injection b3)
      have b6 : 0 ≤ aA := od (by assumption)
      have b8 : aA < (l1_3.length : Int) := od (by assumption)
      obtain ⟨bK, b4, bV, bW, bX, bY⟩ := qCj aT.o aA b6 b8
      obtain rfl : aV = bK := (by injection b4)
      go_wp2
      repeat (go_quiet (fail); try go_wp2)
      go_ret
      exact ⟨by rfl, by repeat (with_reducible first | exact HB.o | apply qAw)⟩
     rw [if_neg bc] at H
     have bi : (!(((qAH l0_3 aA).f2.f0) == ((qAQ l1_3 aA).f2.f0)) || (!(((qAH l0_3 aA).f2.f1) == ((qAQ l1_3 aA).f2.f1)))) = false := by simpa using bc
     clear bc
     have H' := am H
     clear H
     have cO : wr.cell? ⟨aH, 3, none⟩ = some (.slice aW l0_3.length aX) := (qAa aB.o 3).trans rfl
     have aP : 0 ≤ aA := od (by assumption)
     have aQ : aA < (l0_3.length : Int) := od (by assumption)
     obtain ⟨aU, aq, aC, aF, aJ, aK⟩ := qCF aS.o aA aP aQ
     cases aq
     replace aC := (HB.o.cell (World.block_lt_of_cell? w _ aC)).trans aC
     replace aF := (HB.o.cell (World.block_lt_of_cell? w _ aF)).trans aF
     replace aJ := (HB.o.cell (World.block_lt_of_cell? w _ aJ)).trans aJ
     replace aK := (HB.o.cell (World.block_lt_of_cell? w _ aK)).trans aK
     replace aP := eq_true aP
     replace aQ := eq_true aQ
     have cP : wr.cell? ⟨aI, 3, none⟩ = some (.slice aY l1_3.length aZ) := (qAa aE.o 3).trans rfl
     have au : 0 ≤ aA := od (by assumption)
     have aR : aA < (l1_3.length : Int) := od (by assumption)
     obtain ⟨aV, ar, aD, aG, aL, aM⟩ := qCj aT.o aA au aR
     cases ar
     replace aD := (HB.o.cell (World.block_lt_of_cell? w _ aD)).trans aD
     replace aG := (HB.o.cell (World.block_lt_of_cell? w _ aG)).trans aG
     replace aL := (HB.o.cell (World.block_lt_of_cell? w _ aL)).trans aL
     replace aM := (HB.o.cell (World.block_lt_of_cell? w _ aM)).trans aM
     replace aR := eq_true aR
     have bN : 0 ≤ aA := od (by assumption)
     have bP : aA < (l0_3.length : Int) := od (by assumption)
     obtain ⟨ah, bL, av, aw, ax, ay⟩ := qCF aS.o aA bN bP
     obtain rfl : aU = ah := (by injection bL)
     have bO : 0 ≤ aA := od (by assumption)
     have bQ : aA < (l1_3.length : Int) := od (by assumption)
     obtain ⟨ai, bM, az, bA, bB, bC⟩ := qCj aT.o aA bO bQ
     obtain rfl : aV = ai := (by injection bM)
     have b5 : 0 ≤ aA := od (by assumption)
     have b7 : aA < (l0_3.length : Int) := od (by assumption)
     obtain ⟨bJ, b3, bR, bS, bT, bU⟩ := qCF aS.o aA b5 b7
     obtain rfl : aU = bJ := (by injection b3)
     have b6 : 0 ≤ aA := od (by assumption)
     have b8 : aA < (l1_3.length : Int) := od (by assumption)
     obtain ⟨bK, b4, bV, bW, bX, bY⟩ := qCj aT.o aA b6 b8
     obtain rfl : aV = bK := (by injection b4)
     go_wp2
     repeat (go_quiet (fail); try go_wp2)
     go_roundg k2
     case measure => have := c0.o; have := c1.o; omega
     case rel => exact ⟨(wrap64 (aA + 1)), (by rfl), H', ⟨by have := c0.o; have := c1.o; omega⟩, ⟨by (with_reducible repeat (refine qBs ?_ _)); exact aB.o⟩, ⟨by (with_reducible repeat (refine qBs ?_ _)); exact aE.o⟩, ⟨by repeat (with_reducible first | exact HB.o | apply qAw)⟩⟩
end Q
end
section
namespace Q
open Go.RowKit PA PC PB
def all2 {α β : Type} (p : α → β → Bool) : List α → List β → Bool
 | [], [] => true
 | x :: xs, y :: ys => p x y && all2 p xs ys
 | _, _ => false
theorem all2_len {α β : Type} (p : α → β → Bool) : ∀ (a : List α) (b : List β), all2 p a b = true → a.length = b.length
 | [], [], _ => rfl
 | [], _ :: _, h => by cases h
 | _ :: _, [], h => by cases h
 | x :: xs, y :: ys, h => by simp only [all2, Bool.and_eq_true] at h; simp [all2_len p xs ys h.2]
theorem qDZ {α β : Type} (p : α → β → Bool) : ∀ (a : List α) (b : List β), a.length = b.length → (∀ (j : Nat) x y, a[j]? = some x → b[j]? = some y → p x y = true) → all2 p a b = true
 | [], [], _, _ => rfl
 | [], _ :: _, h, _ => by simp at h
 | _ :: _, [], h, _ => by simp at h
 | x :: xs, y :: ys, hl, h => by
  simp only [all2, Bool.and_eq_true]
  exact ⟨h 0 x y rfl rfl, qDZ p xs ys (by simpa using hl) fun j u v hu hv => h (j + 1) u v (by simpa using hu) (by simpa using hv)⟩
theorem qBA {α β : Type} (p : α → β → Bool) : ∀ (a : List α) (b : List β) (j : Nat) x y, a[j]? = some x → b[j]? = some y → p x y = false → all2 p a b = false
 | [], _, j, x, y, h, _, _ => by simp at h
 | _ :: _, [], j, x, y, _, h, _ => by simp at h
 | x :: xs, y :: ys, 0, u, v, hu, hv, h => by
  simp only [List.getElem?_cons_zero, Option.some.injEq] at hu hv
  subst hu; subst hv
  simp [all2, h]
 | x :: xs, y :: ys, j + 1, u, v, hu, hv, h => by
  simp only [List.getElem?_cons_succ] at hu hv
  simp [all2, qBA p xs ys j u v hu hv h]
theorem qEZ {α β : Type} (p : α → β → Bool) (a : List α) (b : List β) (h : a.length ≠ b.length) : all2 p a b = false := by
 cases hh : all2 p a b with
 | false => rfl
 | true => exact absurd (all2_len p a b hh) h
theorem wrapAdd1 {i : Int} {n : Nat} (h0 : 0 ≤ i) (h : i < n) (hn : n ≤ 4611686018427387904) : wrap64 (i + 1) = i + 1 := by unfold wrap64; omega
theorem qC2 {α : Type} (l : List α) (d : α) (i : Int) (h0 : 0 ≤ i) (h : i < l.length) : l.drop i.toNat = l.getD i.toNat d :: l.drop (i + 1).toNat := by
 rw [show (i + 1).toNat = i.toNat + 1 from by omega, List.drop_eq_getElem_cons (by omega), List.getD_eq_getElem?_getD, List.getElem?_eq_getElem (by omega)]; rfl
def eqI (x y : Int) : Bool := x == y
theorem ints_ev (a b : List Int) (hl : a.length ≤ 4611686018427387904) : Ev (fun k => qA6.f k a b) (all2 eqI a b) := by
 by_cases hn : a.length = b.length
 rotate_left
 ·rw [qEZ _ _ _ hn]
  exact Ev.congr (f := fun _ => some false) (fun k => by unfold qA6.f; rw [if_neg (by omega)]) (Ev.now _)
 have loop : ∀ (d : Nat) (i : Int), 0 ≤ i → (a.length : Int) - i = d → Ev (fun k => qA6.l0 k a b i) (all2 eqI (a.drop i.toNat) (b.drop i.toNat)) := by
  intro d
  induction d with
  | zero =>
   intro i h0 hd
   rw [List.drop_eq_nil_of_le (by omega), List.drop_eq_nil_of_le (by omega)]
   refine Ev.step (f := fun _ => some true) (fun k => ?_) (Ev.now _)
   simp only [qA6.l0]; rw [if_neg (by omega)]
  | succ d ih =>
   intro i h0 hd
   rw [qC2 a 0 i h0 (by omega), qC2 b 0 i h0 (by omega)]
   simp only [all2]
   have e1 : a.getD i.toNat 0 = rd a i := rfl
   have e2 : b.getD i.toNat 0 = rd b i := rfl
   rw [e1, e2]
   by_cases he : rd a i = rd b i
   rotate_left
   ·have hq : eqI (rd a i) (rd b i) = false := beq_eq_false_iff_ne.mpr he
    rw [hq, Bool.false_and]
    refine Ev.step (f := fun _ => some false) (fun k => ?_) (Ev.now _)
    simp only [qA6.l0]; rw [if_pos (by omega), if_pos h0, if_pos (by omega), if_neg he]
   have hq : eqI (rd a i) (rd b i) = true := beq_iff_eq.mpr he
   rw [hq, Bool.true_and]
   refine Ev.step (f := fun k => qA6.l0 k a b (i + 1)) (fun k => ?_) (ih (i + 1) (by omega) (by omega))
   simp only [qA6.l0]; rw [if_pos (by omega), if_pos h0, if_pos (by omega), if_pos he, wrapAdd1 (n := a.length) h0 (by omega) hl]
 refine Ev.congr (f := fun k => qA6.l0 k a b 0) (fun k => by unfold qA6.f; rw [if_pos (by omega)]) ?_
 exact loop a.length 0 (by omega) (by omega)
def qE4 (x : S144) (y : S172) : Bool := x.f0 == y.f0 && (x.f1 == y.f1 && (x.f2.f0 == y.f2.f0 && x.f2.f1 == y.f2.f1))
def likeF (x : S90) (y : S98) : Bool := x.f0.f1 == y.f0.f1 && (all2 eqI x.f0.f0 y.f0.f0 && (all2 eqI x.f1 y.f1 && all2 qE4 x.f2 y.f2))
theorem likeFn_ev (a0 : List Int) (a1 : Int) (a2 : List Int) (a3 : List S144) (b0 : List Int) (b1 : Int) (b2 : List Int) (b3 : List S172) (h0 : a0.length ≤ 4611686018427387904) (h2 : a2.length ≤ 4611686018427387904) (h3 : a3.length ≤ 4611686018427387904) :
  Ev (fun k => qAn.f k a0 a1 a2 a3 b0 b1 b2 b3) (a1 == b1 && (all2 eqI a0 b0 && (all2 eqI a2 b2 && all2 qE4 a3 b3))) := by
 have no : Ev (fun k => qAn.j0 k true a0 a1 a2 a3 b0 b1 b2 b3) false := Ev.step (f := fun _ => some false) (fun k => by simp only [qAn.j0]; rfl) (Ev.now _)
 have loop : a3.length = b3.length → ∀ (d : Nat) (i : Int), 0 ≤ i → (a3.length : Int) - i = d → Ev (fun k => qAn.l0 k i a0 a1 a2 a3 b0 b1 b2 b3) (all2 qE4 (a3.drop i.toNat) (b3.drop i.toNat)) := by
  intro hn d
  induction d with
  | zero =>
   intro i g0 hd
   rw [List.drop_eq_nil_of_le (by omega), List.drop_eq_nil_of_le (by omega)]
   refine Ev.step (f := fun _ => some true) (fun k => ?_) (Ev.now _)
   simp only [qAn.l0]; rw [if_neg (by omega)]
  | succ d ih =>
   intro i g0 hd
   rw [qC2 a3 z144 i g0 (by omega), qC2 b3 z172 i g0 (by omega)]
   simp only [all2]
   have e1 : a3.getD i.toNat z144 = qAH a3 i := rfl
   have e2 : b3.getD i.toNat z172 = qAQ b3 i := rfl
   rw [e1, e2]
   generalize hx : qAH a3 i = x
   generalize hy : qAQ b3 i = y
   by_cases c0 : x.f0 = y.f0
   rotate_left
   ·have hq : qE4 x y = false := by unfold qE4; rw [beq_eq_false_iff_ne.mpr c0]; simp
    rw [hq, Bool.false_and]
    refine Ev.step (f := fun _ => some false) (fun k => ?_) (Ev.now _)
    simp only [qAn.l0, hx, hy]; rw [if_pos (by omega), if_pos g0, if_pos (by omega), if_neg c0]
   by_cases c1 : x.f1 = y.f1
   rotate_left
   ·have hq : qE4 x y = false := by unfold qE4; rw [beq_eq_false_iff_ne.mpr c1]; simp
    rw [hq, Bool.false_and]
    refine Ev.step (f := fun _ => some false) (fun k => ?_) (Ev.now _)
    simp only [qAn.l0, hx, hy]; rw [if_pos (by omega), if_pos g0, if_pos (by omega), if_pos c0, if_neg c1]
   by_cases c2 : (!(x.f2.f0 == y.f2.f0) || (!(x.f2.f1 == y.f2.f1))) = true
   ·have hq : qE4 x y = false := by
     unfold qE4
     rw [beq_iff_eq.mpr c0, beq_iff_eq.mpr c1]
     revert c2
     cases (x.f2.f0 == y.f2.f0) <;> cases (x.f2.f1 == y.f2.f1) <;> simp
    rw [hq, Bool.false_and]
    refine Ev.step (f := fun _ => some false) (fun k => ?_) (Ev.now _)
    simp only [qAn.l0, hx, hy]; rw [if_pos (by omega), if_pos g0, if_pos (by omega), if_pos c0, if_pos c1, if_pos c2]
   have hq : qE4 x y = true := by
    unfold qE4
    rw [beq_iff_eq.mpr c0, beq_iff_eq.mpr c1]
    revert c2
    cases (x.f2.f0 == y.f2.f0) <;> cases (x.f2.f1 == y.f2.f1) <;> simp
   rw [hq, Bool.true_and]
   refine Ev.step (f := fun k => qAn.l0 k (i + 1) a0 a1 a2 a3 b0 b1 b2 b3) (fun k => ?_) (ih (i + 1) (by omega) (by omega))
   simp only [qAn.l0, hx, hy]; rw [if_pos (by omega), if_pos g0, if_pos (by omega), if_pos c0, if_pos c1, if_neg c2, wrapAdd1 (n := a3.length) g0 (by omega) h3]
 by_cases c1 : a1 = b1
 ·rw [beq_iff_eq.mpr c1, Bool.true_and]
  have e1 := ints_ev a0 b0 h0
  have e2 := ints_ev a2 b2 h2
  refine Ev.congr (f := fun k => (qA6.f k a0 b0).bind fun t => (if t = true then ((qA6.f k a2 b2).bind fun t2 => (if t2 = true then (qAn.j0 k ((a3.length : Int) != (b3.length : Int)) a0 a1 a2 a3 b0 b1 b2 b3) else (qAn.j0 k true a0 a1 a2 a3 b0 b1 b2 b3))) else (qAn.j0 k true a0 a1 a2 a3 b0 b1 b2 b3))) (fun k => by unfold qAn.f; rw [if_pos c1]) (Ev.bind e1 ?_)
  cases q1 : all2 eqI a0 b0 with
  | false => simpa using no
  | true =>
   simp only [if_true, Bool.true_and]
   refine Ev.bind e2 ?_
   cases q2 : all2 eqI a2 b2 with
   | false => simpa using no
   | true =>
    simp only [if_true, Bool.true_and]
    by_cases hn : a3.length = b3.length
    rotate_left
    ·rw [qEZ _ _ _ hn]
     refine Ev.step (f := fun _ => some false) (fun k => ?_) (Ev.now _)
     simp only [qAn.j0]
     rw [if_pos (bne_iff_ne.mpr (by omega))]
    refine Ev.step (f := fun k => qAn.l0 k 0 a0 a1 a2 a3 b0 b1 b2 b3) (fun k => ?_) (loop hn a3.length 0 (by omega) (by omega))
    simp only [qAn.j0]
    rw [if_neg (by simp; omega)]
 ·rw [beq_eq_false_iff_ne.mpr c1, Bool.false_and]
  exact Ev.congr (f := fun k => qAn.j0 k true a0 a1 a2 a3 b0 b1 b2 b3) (fun k => by unfold qAn.f; rw [if_neg c1]) no
end Q
end
section
namespace Base
open Go.RowKit
theorem hid {p : Prop} (h : p) : Hid p := h
theorem qCg {α : Type} (l : List α) (k : Nat) (d : α) (h : k < l.length) : l.take (k + 1) = l.take k ++ [l.getD k d] := by
 rw [List.take_succ_eq_append_getElem h, List.getD_eq_getElem?_getD, List.getElem?_eq_getElem h]; rfl
theorem toList_ne {s : ByteArray} (h : s.size ≠ 0) : s.toList.isEmpty = false := by
 rw [Lib.toList_data]
 cases hl : s.data.toList with
 | nil => exact absurd (by have := congrArg List.length hl; simpa using this) h
 | cons _ _ => rfl
theorem qCW (P : Program) (a : Addr) (w : World) : (loadCells a 0).run P w = .ok #[] w := by
 simp [loadCells, loadCellsFrom]
theorem run_append_zero {P : Program} {w : World} (base : Nat) (t ty e : TypeId) (i : TypeInfo) (size : Nat) (ht : P.underlying t = some (.slice e)) (hi : P.info? e = some i)
  (v : Value) (n : Nat) (xs : List Value) (hown : w.ownsRow base e size v n xs) (A : Option Addr) (c : Nat) :
  (Builtin.append_ #[t, t] ty #[v, .slice A 0 c]).run P w = .ok v w := by
 rcases hown.2 with ⟨rfl, rfl⟩ | ⟨g, cap, cur, rfl, _, _, hnc, _⟩
 ·cases A <;> simp [Builtin.append_, run_underlying ht, sizeOf, typeInfo, hi, Builtin.lenOf, Builtin.firstCells, qCW]
 ·cases A <;> simp [Builtin.append_, run_underlying ht, sizeOf, typeInfo, hi, Builtin.lenOf, Builtin.firstCells, hnc, storeCells, qCW]
theorem wpList_append_zero {P : Program} {w : World} {ops : Array Oper} {rest : List Oper} {o : Oper} {a : Act} {Q : Exit → Act → World → Prop} (hgd : o.guard = none) (s x : Operand) (t : TypeId)
  (ho : o.op = .call { callee := .builtin .append, args := #[s, x], argTypes := #[t, t] })
  (base : Nat) (e : TypeId) (i : TypeInfo) (size : Nat) (ht : P.underlying t = some (.slice e)) (hi : P.info? e = some i)
  (v : Value) (n : Nat) (xs : List Value) (hs : a.eval s = v) (hown : w.ownsRow base e size v n xs) (A : Option Addr) (c : Nat) (hx : a.eval x = .slice A 0 c)
  (h : wpList P ops Q rest (a.put o.dst v) w) : wpList P ops Q (o :: rest) a w := by
 refine wpList_plain hgd fun K hK => ?_
 have hrun := run_append_zero (P := P) (w := w) base t o.type e i size ht hi v n xs hown A c
 unfold Oper.wp
 simp [execOp, ho, resolve, invoke, builtin, hs, hx, hrun, Result.andThen]
 exact hK _ _ h
end Base
end
section
namespace Val
open Go.RowKit Base
def nanB (a : Int) : Bool := decide (9218868437227405312 < a % 9223372036854775808)
def qEP (a : Int) : Int := if nanB a = true then 9221120237041090561 else a
def okV (t b : Int) : Bool := if t = 1 then true else if t = 2 then qEP b == b else if t = 3 then decide (b < 2) else false
theorem canon_nan {a : Int} (h : nanB a = true) : qEP a = 9221120237041090561 := by unfold qEP; rw [if_pos h]
theorem qFe {a : Int} (h : nanB a = false) : qEP a = a := by unfold qEP; rw [if_neg (by simp [h])]
def U64 (a : Int) : Prop := 0 ≤ a ∧ a < 18446744073709551616
theorem andNot_sign (a : Int) (h : U64 a) : bits .andNot .u64 a 9223372036854775808 = a % 9223372036854775808 := by
 obtain ⟨n, rfl⟩ := Int.eq_ofNat_of_zero_le h.1
 have hn : n < 18446744073709551616 := by have := h.2; omega
 have k := u64_andNot_nat n 9223372036854775808 hn (by decide)
 rw [show (9223372036854775808 : Int) = ((9223372036854775808 : Nat) : Int) from rfl, k, show (18446744073709551615 - 9223372036854775808 : Nat) = 2 ^ 63 - 1 from rfl, Nat.and_two_pow_sub_one_eq_mod]
 rfl
theorem and_exp (a : Int) (h : U64 a) : bits .and .u64 (a / 4503599627370496) 2047 = a / 4503599627370496 % 2048 := by
 obtain ⟨n, rfl⟩ := Int.eq_ofNat_of_zero_le h.1
 have hn : n < 18446744073709551616 := by have := h.2; omega
 have k := u64_and_nat (n / 4503599627370496) 2047 (by omega) (by decide)
 rw [show (2047 : Int) = ((2047 : Nat) : Int) from rfl, show ((n : Int) / 4503599627370496) = ((n / 4503599627370496 : Nat) : Int) from rfl, k, show (2047 : Nat) = 2 ^ 11 - 1 from rfl, Nat.and_two_pow_sub_one_eq_mod]
 rfl
theorem wrap_low (a : Int) : IntKind.u64.wrap (a * 4096) = a * 4096 % 18446744073709551616 := by simp [IntKind.wrap, IntKind.bits, IntKind.signed]
theorem nanB_sign (a : Int) (h : U64 a) : decide (9218868437227405312 < bits .andNot .u64 a 9223372036854775808) = nanB a := by rw [andNot_sign a h]; rfl
theorem canon_any (a : Int) (ha : U64 a) (w : World) : Calls Tryz.prog 93 #[.int .u64 a] w fun e w' => e = .returned (.int .u64 (qEP a)) ∧ w = w' := by
 have hb := nanB_sign a ha
 cases hn : nanB a with
 | true =>
  rw [hn] at hb
  rw [canon_nan hn]
  clear ha hn
  go_enter Tryz.func93, Tryz.ntmps93
  go_wp2
  go_ret
  exact ⟨rfl, rfl⟩
 | false =>
  rw [hn] at hb
  rw [qFe hn]
  clear ha hn
  go_enter Tryz.func93, Tryz.ntmps93
  go_wp2
  go_ret
  exact ⟨rfl, rfl⟩
theorem rcanon_any (a : Int) (ha : U64 a) (w : World) : Calls Tryz.prog 109 #[.int .u64 a] w fun e w' => e = .returned (.int .u64 (qEP a)) ∧ w = w' := by
 have h1 := and_exp a ha
 have h2 := wrap_low a
 have hn : nanB a = decide (a / 4503599627370496 % 2048 = 2047 ∧ a * 4096 % 18446744073709551616 ≠ 0) := by
  unfold nanB
  have := ha.1
  have := ha.2
  rw [decide_eq_decide]
  omega
 by_cases c1 : a / 4503599627370496 % 2048 = 2047
 rotate_left
 ·have b1 : (bits .and .u64 (a / 4503599627370496) 2047 == 2047) = false := by rw [h1]; exact beq_eq_false_iff_ne.mpr c1
  rw [qFe (by rw [hn]; simp [c1])]
  clear ha h1 h2 hn c1
  go_enter Tryz.func109, Tryz.ntmps109
  go_wp2
  go_ret
  exact ⟨rfl, rfl⟩
 have b1 : (bits .and .u64 (a / 4503599627370496) 2047 == 2047) = true := by rw [h1]; exact beq_iff_eq.mpr c1
 by_cases c2 : a * 4096 % 18446744073709551616 = 0
 ·have b2 : (IntKind.u64.wrap (a * 4096) != 0) = false := by rw [h2]; exact bne_eq_false_iff_eq.mpr c2
  have b3 : (IntKind.u64.wrap (a * 4096) == 0) = true := by rw [h2]; exact beq_iff_eq.mpr c2
  rw [qFe (by rw [hn]; simp [c2])]
  clear ha h1 h2 hn c1 c2
  go_enter Tryz.func109, Tryz.ntmps109
  go_wp2
  go_ret
  exact ⟨rfl, rfl⟩
 have b2 : (IntKind.u64.wrap (a * 4096) != 0) = true := by rw [h2]; exact bne_iff_ne.mpr c2
 have b3 : (IntKind.u64.wrap (a * 4096) == 0) = false := by rw [h2]; exact beq_eq_false_iff_ne.mpr c2
 rw [canon_nan (by rw [hn]; simp [c1, c2])]
 clear ha h1 h2 hn c1 c2
 go_enter Tryz.func109, Tryz.ntmps109
 go_wp2
 go_ret
 exact ⟨rfl, rfl⟩
theorem okV_1 (b : Int) : okV 1 b = true := rfl
theorem okV_2 (b : Int) : okV 2 b = (qEP b == b) := rfl
theorem okV_3 (b : Int) : okV 3 b = decide (b < 2) := rfl
theorem okV_no (t b : Int) (h : t < 1 ∨ 3 < t) : okV t b = false := by unfold okV; rw [if_neg (by omega), if_neg (by omega), if_neg (by omega)]
theorem right_1 (b : Int) (w : World) : Calls Tryz.prog 32 #[.agg #[.int .i64 1, .int .u64 b]] w fun e w' => e = .returned (.bool true) ∧ Below w.heap.size w w' := by
 go_enter Tryz.func32, Tryz.ntmps32
 go_wp2
 go_ret
 exact ⟨rfl, (Below.refl _ _).alloc (Nat.le_refl _) _⟩
theorem right_3 (b : Int) (w : World) : Calls Tryz.prog 32 #[.agg #[.int .i64 3, .int .u64 b]] w fun e w' => e = .returned (.bool (decide (b < 2))) ∧ Below w.heap.size w w' := by
 go_enter Tryz.func32, Tryz.ntmps32
 go_wp2
 go_ret
 exact ⟨rfl, (Below.refl _ _).alloc (Nat.le_refl _) _⟩
theorem right_no (t b : Int) (h : t < 1 ∨ 3 < t) (w : World) : Calls Tryz.prog 32 #[.agg #[.int .i64 t, .int .u64 b]] w fun e w' => e = .returned (.bool false) ∧ Below w.heap.size w w' := by
 have b1 : (t == 1) = false := beq_eq_false_iff_ne.mpr (by omega)
 have b2 : (t == 2) = false := beq_eq_false_iff_ne.mpr (by omega)
 have b3 : (t == 3) = false := beq_eq_false_iff_ne.mpr (by omega)
 go_enter Tryz.func32, Tryz.ntmps32
 go_wp2
 go_ret
 exact ⟨rfl, (Below.refl _ _).alloc (Nat.le_refl _) _⟩
theorem right_2 (b : Int) (hb : U64 b) (w : World) : Calls Tryz.prog 32 #[.agg #[.int .i64 2, .int .u64 b]] w fun e w' => e = .returned (.bool (qEP b == b)) ∧ Below w.heap.size w w' := by
 obtain ⟨c, hc⟩ : ∃ c, c = qEP b := ⟨_, rfl⟩
 have HC : Hid (∀ W : World, Calls Tryz.prog 93 #[.int .u64 b] W fun e w' => e = .returned (.int .u64 c) ∧ w' = W) := hid fun W => by rw [hc]; exact (canon_any b hb W).mono fun _ _ ⟨he, hw⟩ => ⟨he, hw.symm⟩
 rw [← hc]
 clear hb hc
 go_enter Tryz.func32, Tryz.ntmps32
 go_wp2_with fail
 go_quiet ((go_at_call 93; exact Calls.quiet_of_same (HC.out _)))
 go_wp2
 go_ret
 exact ⟨rfl, by (exact ⟨rfl, rfl, rfl, by simp, fun k hk => Below.heap_alloc _ _ _ hk⟩)⟩
theorem right_any (t b : Int) (hb : U64 b) (w : World) : Calls Tryz.prog 32 #[.agg #[.int .i64 t, .int .u64 b]] w fun e w' => e = .returned (.bool (okV t b)) ∧ Below w.heap.size w w' := by
 by_cases h : t < 1 ∨ 3 < t
 ·rw [okV_no t b h]; exact right_no t b h w
 have ht : t = 1 ∨ t = 2 ∨ t = 3 := by omega
 rcases ht with rfl | rfl | rfl
 ·rw [okV_1]; exact right_1 b w
 ·rw [okV_2]; exact right_2 b hb w
 rw [okV_3]; exact right_3 b w
theorem rright_1 (b : Int) (w : World) : Calls Tryz.prog 37 #[.agg #[.int .i64 1, .int .u64 b]] w fun e w' => e = .returned (.bool true) ∧ Below w.heap.size w w' := by
 go_enter Tryz.func37, Tryz.ntmps37
 go_wp2
 go_ret
 exact ⟨rfl, (Below.refl _ _).alloc (Nat.le_refl _) _⟩
theorem rright_3 (b : Int) (w : World) : Calls Tryz.prog 37 #[.agg #[.int .i64 3, .int .u64 b]] w fun e w' => e = .returned (.bool (decide (b ≤ 1))) ∧ Below w.heap.size w w' := by
 go_enter Tryz.func37, Tryz.ntmps37
 go_wp2
 go_ret
 exact ⟨rfl, (Below.refl _ _).alloc (Nat.le_refl _) _⟩
theorem rright_no (t b : Int) (h : t < 1 ∨ 3 < t) (w : World) : Calls Tryz.prog 37 #[.agg #[.int .i64 t, .int .u64 b]] w fun e w' => e = .returned (.bool false) ∧ Below w.heap.size w w' := by
 have b1 : (t == 1) = false := beq_eq_false_iff_ne.mpr (by omega)
 have b2 : (t == 2) = false := beq_eq_false_iff_ne.mpr (by omega)
 have b3 : (t == 3) = false := beq_eq_false_iff_ne.mpr (by omega)
 go_enter Tryz.func37, Tryz.ntmps37
 go_wp2
 go_ret
 exact ⟨rfl, (Below.refl _ _).alloc (Nat.le_refl _) _⟩
theorem rright_2 (b : Int) (hb : U64 b) (w : World) : Calls Tryz.prog 37 #[.agg #[.int .i64 2, .int .u64 b]] w fun e w' => e = .returned (.bool (qEP b == b)) ∧ Below w.heap.size w w' := by
 obtain ⟨c, hc⟩ : ∃ c, c = qEP b := ⟨_, rfl⟩
 have HC : Hid (∀ W : World, Calls Tryz.prog 109 #[.int .u64 b] W fun e w' => e = .returned (.int .u64 c) ∧ w' = W) := hid fun W => by rw [hc]; exact (rcanon_any b hb W).mono fun _ _ ⟨he, hw⟩ => ⟨he, hw.symm⟩
 rw [← hc]
 clear hb hc
 go_enter Tryz.func37, Tryz.ntmps37
 go_wp2_with fail
 go_quiet ((go_at_call 109; exact Calls.quiet_of_same (HC.out _)))
 go_wp2
 go_ret
 exact ⟨rfl, by (exact ⟨rfl, rfl, rfl, by simp, fun k hk => Below.heap_alloc _ _ _ hk⟩)⟩
theorem rright_any (t b : Int) (hb : U64 b) (w : World) : Calls Tryz.prog 37 #[.agg #[.int .i64 t, .int .u64 b]] w fun e w' => e = .returned (.bool (okV t b)) ∧ Below w.heap.size w w' := by
 by_cases h : t < 1 ∨ 3 < t
 ·rw [okV_no t b h]; exact rright_no t b h w
 have ht : t = 1 ∨ t = 2 ∨ t = 3 := by omega
 rcases ht with rfl | rfl | rfl
 ·rw [okV_1]; exact rright_1 b w
 ·rw [okV_2]; exact rright_2 b hb w
 rw [okV_3, show decide (b < 2) = decide (b ≤ 1) from by rw [decide_eq_decide]; omega]; exact rright_3 b w
end Val
end
section
namespace Tbl
open Go.RowKit Base
def qFg : Array Value := #[.string ⟨#[]⟩, .int .i64 0, .string ⟨#[112, 117, 115, 104]⟩, .int .i64 9, .string ⟨#[103, 101, 116]⟩, .int .i64 1, .string ⟨#[112, 117, 116]⟩, .int .i64 1, .string ⟨#[108, 111, 97, 100]⟩, .int .i64 2, .string ⟨#[115, 116, 111, 114, 101]⟩, .int .i64 2,
  .string ⟨#[117, 110]⟩, .int .i64 1, .string ⟨#[98, 105, 110]⟩, .int .i64 1, .string ⟨#[106, 117, 109, 112]⟩, .int .i64 2, .string ⟨#[117, 110, 108, 101, 115, 115]⟩, .int .i64 2, .string ⟨#[99, 97, 108, 108]⟩, .int .i64 2, .string ⟨#[114, 101, 116, 117, 114, 110]⟩, .int .i64 0,
  .string ⟨#[115, 104, 111, 119]⟩, .int .i64 0, .string ⟨#[102, 97, 105, 108]⟩, .int .i64 0, .string ⟨#[105, 110, 112, 117, 116]⟩, .int .i64 0, .string ⟨#[116, 114, 121]⟩, .int .i64 2, .string ⟨#[117, 110, 116, 114, 121]⟩, .int .i64 0, .string ⟨#[100, 114, 111, 112]⟩, .int .i64 0]
theorem rows_built (w : World) : (Instr.build 202 #[(1, .agg #[.string ⟨#[112, 117, 115, 104]⟩, .int .i64 9]), (2, .agg #[.string ⟨#[103, 101, 116]⟩, .int .i64 1]), (3, .agg #[.string ⟨#[112, 117, 116]⟩, .int .i64 1]), (4, .agg #[.string ⟨#[108, 111, 97, 100]⟩, .int .i64 2]), (5, .agg #[.string ⟨#[115, 116, 111, 114, 101]⟩, .int .i64 2]), (6, .agg #[.string ⟨#[117, 110]⟩, .int .i64 1]), (7, .agg #[.string ⟨#[98, 105, 110]⟩, .int .i64 1]), (8, .agg #[.string ⟨#[106, 117, 109, 112]⟩, .int .i64 2]), (9, .agg #[.string ⟨#[117, 110, 108, 101, 115, 115]⟩, .int .i64 2]), (10, .agg #[.string ⟨#[99, 97, 108, 108]⟩, .int .i64 2]), (11, .agg #[.string ⟨#[114, 101, 116, 117, 114, 110]⟩, .int .i64 0]), (12, .agg #[.string ⟨#[115, 104, 111, 119]⟩, .int .i64 0]), (13, .agg #[.string ⟨#[102, 97, 105, 108]⟩, .int .i64 0]), (14, .agg #[.string ⟨#[105, 110, 112, 117, 116]⟩, .int .i64 0]), (15, .agg #[.string ⟨#[116, 114, 121]⟩, .int .i64 2]), (16, .agg #[.string ⟨#[117, 110, 116, 114, 121]⟩, .int .i64 0]), (17, .agg #[.string ⟨#[100, 114, 111, 112]⟩, .int .i64 0])]).run Tryz.prog w = .ok (.agg qFg) w := run_build w _ _ _ (by kernel_rfl)
def rowsZ : Array Value := #[.string ⟨#[]⟩, .int .i64 0, .string ⟨#[]⟩, .int .i64 0, .string ⟨#[]⟩, .int .i64 0, .string ⟨#[]⟩, .int .i64 0, .string ⟨#[]⟩, .int .i64 0, .string ⟨#[]⟩, .int .i64 0, .string ⟨#[]⟩, .int .i64 0, .string ⟨#[]⟩, .int .i64 0, .string ⟨#[]⟩, .int .i64 0, .string ⟨#[]⟩, .int .i64 0, .string ⟨#[]⟩, .int .i64 0, .string ⟨#[]⟩, .int .i64 0, .string ⟨#[]⟩, .int .i64 0, .string ⟨#[]⟩, .int .i64 0, .string ⟨#[]⟩, .int .i64 0, .string ⟨#[]⟩, .int .i64 0, .string ⟨#[]⟩, .int .i64 0, .string ⟨#[]⟩, .int .i64 0]
theorem rows_size : (Tryz.prog.info? 202).map (·.size) = some qFg.size := by kernel_rfl
theorem rows_one : qFg.all (·.oneCell') = true := by kernel_rfl
theorem below_setRow {B : Nat} {a w : World} (h : Below B a w) {g : Nat} (hg : B ≤ g) (cs : Array Value) : Below B a (w.setRow g cs) :=
 h.trans ⟨rfl, rfl, rfl, by simp [World.setRow], fun k hk => setRow_other w g k cs (by omega)⟩
theorem qDn (w : World) : Calls Tryz.prog 141 #[] w fun e w' => e = .returned (.agg qFg) ∧ Below w.heap.size w w' := by
 have hb := rows_built
 go_enter Tryz.func141, Tryz.ntmps141
 go_wp2_with (refine wpList_store_row rfl 202 _ _ rfl w.heap.size qFg rfl rfl 202 rowsZ ?h1 ?h2 ?h3 ?h4 ?_)
 case h2 => exact rows_size
 case h3 => rfl
 case h4 => exact rows_one
 ·exact heap_alloc_new w _
 clear hb
 refine bodyPost_ret (results_cell_row rfl _ _ w.heap.size 202 qFg (0, 0) _ rfl (setRow_heap _ _ _ _ _ _ (heap_alloc_new w _)) Tryz.underlying202 rfl rows_size) rfl ⟨rfl, below_setRow ((Below.refl _ _).alloc (Nat.le_refl _) _) (Nat.le_refl _) _⟩
end Tbl
end
section
namespace Ins
open Go.RowKit Base Val Tbl
def wid (op : Int) : Int := if op = 1 then 9 else if op = 2 ∨ op = 3 ∨ op = 6 ∨ op = 7 then 1 else if op = 4 ∨ op = 5 ∨ op = 8 ∨ op = 9 ∨ op = 10 ∨ op = 15 then 2 else 0
def most (op : Int) : Int := if wid op = 0 then 0 else if wid op = 1 then 255 else 65535
def okI (op n t b : Int) : Bool :=
 if op < 1 ∨ 17 < op then false else if op = 1 then n == 0 && okV t b
 else if ¬(t = 0 ∧ b = 0 ∧ 0 ≤ n ∧ n ≤ most op) then false
 else if op = 6 then decide (1 ≤ n ∧ n ≤ 4) else if op = 7 then decide (1 ≤ n ∧ n ≤ 11) else true
def insV (op n t b : Int) : Value := .agg #[.int .i64 op, .int .i64 n, .int .i64 t, .int .u64 b]
theorem qCr (op n ty b wd mo : Int) (nm : ByteArray) (hlo : (decide (op < 1)) = false) (hhi : (decide (17 < op)) = false) (h1 : (op == 1) = false) (h6 : (op == 6) = false) (h7 : (op == 7) = false)
  (hix : ∀ w, (Instr.index 202 (.agg qFg) (.int .i64 op)).run Tryz.prog w = .ok (.agg #[.string nm, .int .i64 wd]) w)
  (hiy : ∀ w, (Instr.index 210 (.agg #[.int .i64 0, .int .i64 255, .int .i64 65535]) (.int .i64 wd)).run Tryz.prog w = .ok (.int .i64 mo) w)
  (hif : ∀ w, (Instr.field 201 (.agg #[.string nm, .int .i64 wd]) 1).run Tryz.prog w = .ok (.int .i64 wd) w) (w : World) : Calls Tryz.prog 100 #[.agg #[.int .i64 op, .int .i64 n, .int .i64 ty, .int .u64 b]] w fun e w' => e = .returned (.bool (decide (ty = 0 ∧ b = 0 ∧ 0 ≤ n ∧ n ≤ mo))) ∧ Below w.heap.size w w' := by
 go_enter Tryz.func100, Tryz.ntmps100
 go_wp2_with fail
 obtain ⟨W1, hW1⟩ : ∃ W1, W1 = w.alloc (.cells #[.int .i64 op, .int .i64 n, .int .i64 ty, .int .u64 b] 144) := ⟨_, rfl⟩
 have hB1 : Below w.heap.size w W1 := by rw [hW1]; exact (Below.refl _ _).alloc (Nat.le_refl _) _
 have hs : w.heap.size < W1.heap.size := by rw [hW1]; simp
 have c0 : W1.cell? ⟨w.heap.size, 0, none⟩ = some (.int .i64 op) := by rw [hW1, World.cell?_alloc_at _ _ _ _ rfl]; rfl
 have c1 : W1.cell? ⟨w.heap.size, 1, none⟩ = some (.int .i64 n) := by rw [hW1, World.cell?_alloc_at _ _ _ _ rfl]; rfl
 have c2 : W1.cell? ⟨w.heap.size, 2, none⟩ = some (.int .i64 ty) := by rw [hW1, World.cell?_alloc_at _ _ _ _ rfl]; rfl
 have c3 : W1.cell? ⟨w.heap.size, 3, none⟩ = some (.int .u64 b) := by rw [hW1, World.cell?_alloc_at _ _ _ _ rfl]; rfl
 rw [← hW1]
 clear hW1
 go_region_held3 (fun W => W.cell? ⟨w.heap.size, 0, none⟩ = some (.int .i64 op) ∧ W.cell? ⟨w.heap.size, 1, none⟩ = some (.int .i64 n) ∧ W.cell? ⟨w.heap.size, 2, none⟩ = some (.int .i64 ty) ∧ W.cell? ⟨w.heap.size, 3, none⟩ = some (.int .u64 b))
  (first | go_keep | exact ⟨(hbj.cell (p := ⟨w.heap.size, 0, none⟩) hs).trans c0, (hbj.cell (p := ⟨w.heap.size, 1, none⟩) hs).trans c1, (hbj.cell (p := ⟨w.heap.size, 2, none⟩) hs).trans c2, (hbj.cell (p := ⟨w.heap.size, 3, none⟩) hs).trans c3⟩)
  ((go_at_call 141; refine (qDn _).mono ?_; rintro e w1 ⟨rfl, hbj⟩))
 go_wp2
 all_goals have hB2 : Below w.heap.size w w1 := hB1.drew.trans (hbj.mono (by simp; omega))
 all_goals (go_ret; refine ⟨congrArg (fun x => Ending.returned (Value.bool x)) ?_, hB2⟩; simp_all <;> omega)
theorem right_6 (op n ty b wd mo : Int) (nm : ByteArray) (hlo : (decide (op < 1)) = false) (hhi : (decide (17 < op)) = false) (h1 : (op == 1) = false) (h6 : (op == 6) = true)
  (hix : ∀ w, (Instr.index 202 (.agg qFg) (.int .i64 op)).run Tryz.prog w = .ok (.agg #[.string nm, .int .i64 wd]) w)
  (hiy : ∀ w, (Instr.index 210 (.agg #[.int .i64 0, .int .i64 255, .int .i64 65535]) (.int .i64 wd)).run Tryz.prog w = .ok (.int .i64 mo) w)
  (hif : ∀ w, (Instr.field 201 (.agg #[.string nm, .int .i64 wd]) 1).run Tryz.prog w = .ok (.int .i64 wd) w) (w : World) : Calls Tryz.prog 100 #[.agg #[.int .i64 op, .int .i64 n, .int .i64 ty, .int .u64 b]] w fun e w' => e = .returned (.bool (decide (ty = 0 ∧ b = 0 ∧ 0 ≤ n ∧ n ≤ mo ∧ 1 ≤ n ∧ n ≤ 4))) ∧ Below w.heap.size w w' := by
 go_enter Tryz.func100, Tryz.ntmps100
 go_wp2_with fail
 obtain ⟨W1, hW1⟩ : ∃ W1, W1 = w.alloc (.cells #[.int .i64 op, .int .i64 n, .int .i64 ty, .int .u64 b] 144) := ⟨_, rfl⟩
 have hB1 : Below w.heap.size w W1 := by rw [hW1]; exact (Below.refl _ _).alloc (Nat.le_refl _) _
 have hs : w.heap.size < W1.heap.size := by rw [hW1]; simp
 have c0 : W1.cell? ⟨w.heap.size, 0, none⟩ = some (.int .i64 op) := by rw [hW1, World.cell?_alloc_at _ _ _ _ rfl]; rfl
 have c1 : W1.cell? ⟨w.heap.size, 1, none⟩ = some (.int .i64 n) := by rw [hW1, World.cell?_alloc_at _ _ _ _ rfl]; rfl
 have c2 : W1.cell? ⟨w.heap.size, 2, none⟩ = some (.int .i64 ty) := by rw [hW1, World.cell?_alloc_at _ _ _ _ rfl]; rfl
 have c3 : W1.cell? ⟨w.heap.size, 3, none⟩ = some (.int .u64 b) := by rw [hW1, World.cell?_alloc_at _ _ _ _ rfl]; rfl
 rw [← hW1]
 clear hW1
 go_region_held3 (fun W => W.cell? ⟨w.heap.size, 0, none⟩ = some (.int .i64 op) ∧ W.cell? ⟨w.heap.size, 1, none⟩ = some (.int .i64 n) ∧ W.cell? ⟨w.heap.size, 2, none⟩ = some (.int .i64 ty) ∧ W.cell? ⟨w.heap.size, 3, none⟩ = some (.int .u64 b))
  (first | go_keep | exact ⟨(hbj.cell (p := ⟨w.heap.size, 0, none⟩) hs).trans c0, (hbj.cell (p := ⟨w.heap.size, 1, none⟩) hs).trans c1, (hbj.cell (p := ⟨w.heap.size, 2, none⟩) hs).trans c2, (hbj.cell (p := ⟨w.heap.size, 3, none⟩) hs).trans c3⟩)
  ((go_at_call 141; refine (qDn _).mono ?_; rintro e w1 ⟨rfl, hbj⟩))
 go_wp2
 all_goals have hB2 : Below w.heap.size w w1 := hB1.drew.trans (hbj.mono (by simp; omega))
 all_goals (go_ret; refine ⟨congrArg (fun x => Ending.returned (Value.bool x)) ?_, hB2⟩; simp_all <;> omega)
theorem right_7 (op n ty b wd mo : Int) (nm : ByteArray) (hlo : (decide (op < 1)) = false) (hhi : (decide (17 < op)) = false) (h1 : (op == 1) = false) (h6 : (op == 6) = false) (h7 : (op == 7) = true)
  (hix : ∀ w, (Instr.index 202 (.agg qFg) (.int .i64 op)).run Tryz.prog w = .ok (.agg #[.string nm, .int .i64 wd]) w)
  (hiy : ∀ w, (Instr.index 210 (.agg #[.int .i64 0, .int .i64 255, .int .i64 65535]) (.int .i64 wd)).run Tryz.prog w = .ok (.int .i64 mo) w)
  (hif : ∀ w, (Instr.field 201 (.agg #[.string nm, .int .i64 wd]) 1).run Tryz.prog w = .ok (.int .i64 wd) w) (w : World) : Calls Tryz.prog 100 #[.agg #[.int .i64 op, .int .i64 n, .int .i64 ty, .int .u64 b]] w fun e w' => e = .returned (.bool (decide (ty = 0 ∧ b = 0 ∧ 0 ≤ n ∧ n ≤ mo ∧ 1 ≤ n ∧ n ≤ 11))) ∧ Below w.heap.size w w' := by
 go_enter Tryz.func100, Tryz.ntmps100
 go_wp2_with fail
 obtain ⟨W1, hW1⟩ : ∃ W1, W1 = w.alloc (.cells #[.int .i64 op, .int .i64 n, .int .i64 ty, .int .u64 b] 144) := ⟨_, rfl⟩
 have hB1 : Below w.heap.size w W1 := by rw [hW1]; exact (Below.refl _ _).alloc (Nat.le_refl _) _
 have hs : w.heap.size < W1.heap.size := by rw [hW1]; simp
 have c0 : W1.cell? ⟨w.heap.size, 0, none⟩ = some (.int .i64 op) := by rw [hW1, World.cell?_alloc_at _ _ _ _ rfl]; rfl
 have c1 : W1.cell? ⟨w.heap.size, 1, none⟩ = some (.int .i64 n) := by rw [hW1, World.cell?_alloc_at _ _ _ _ rfl]; rfl
 have c2 : W1.cell? ⟨w.heap.size, 2, none⟩ = some (.int .i64 ty) := by rw [hW1, World.cell?_alloc_at _ _ _ _ rfl]; rfl
 have c3 : W1.cell? ⟨w.heap.size, 3, none⟩ = some (.int .u64 b) := by rw [hW1, World.cell?_alloc_at _ _ _ _ rfl]; rfl
 rw [← hW1]
 clear hW1
 go_region_held3 (fun W => W.cell? ⟨w.heap.size, 0, none⟩ = some (.int .i64 op) ∧ W.cell? ⟨w.heap.size, 1, none⟩ = some (.int .i64 n) ∧ W.cell? ⟨w.heap.size, 2, none⟩ = some (.int .i64 ty) ∧ W.cell? ⟨w.heap.size, 3, none⟩ = some (.int .u64 b))
  (first | go_keep | exact ⟨(hbj.cell (p := ⟨w.heap.size, 0, none⟩) hs).trans c0, (hbj.cell (p := ⟨w.heap.size, 1, none⟩) hs).trans c1, (hbj.cell (p := ⟨w.heap.size, 2, none⟩) hs).trans c2, (hbj.cell (p := ⟨w.heap.size, 3, none⟩) hs).trans c3⟩)
  ((go_at_call 141; refine (qDn _).mono ?_; rintro e w1 ⟨rfl, hbj⟩))
 go_wp2
 all_goals have hB2 : Below w.heap.size w w1 := hB1.drew.trans (hbj.mono (by simp; omega))
 all_goals (go_ret; refine ⟨congrArg (fun x => Ending.returned (Value.bool x)) ?_, hB2⟩; simp_all <;> omega)
theorem right_lo (op n ty b : Int) (hlo : (decide (op < 1)) = true) (w : World) : Calls Tryz.prog 100 #[.agg #[.int .i64 op, .int .i64 n, .int .i64 ty, .int .u64 b]] w fun e w' => e = .returned (.bool false) ∧ Below w.heap.size w w' := by
 go_enter Tryz.func100, Tryz.ntmps100
 go_wp2
 go_ret
 exact ⟨rfl, (Below.refl _ _).alloc (Nat.le_refl _) _⟩
theorem right_hi (op n ty b : Int) (hlo : (decide (op < 1)) = false) (hhi : (decide (17 < op)) = true) (w : World) : Calls Tryz.prog 100 #[.agg #[.int .i64 op, .int .i64 n, .int .i64 ty, .int .u64 b]] w fun e w' => e = .returned (.bool false) ∧ Below w.heap.size w w' := by
 go_enter Tryz.func100, Tryz.ntmps100
 go_wp2
 go_ret
 exact ⟨rfl, (Below.refl _ _).alloc (Nat.le_refl _) _⟩
theorem size_lo (op n ty b : Int) (hlo : (decide (op < 1)) = true) (w : World) : Calls Tryz.prog 142 #[.agg #[.int .i64 op, .int .i64 n, .int .i64 ty, .int .u64 b]] w fun e w' => e = .returned (.int .i64 0) ∧ Below w.heap.size w w' := by
 go_enter Tryz.func142, Tryz.ntmps142
 go_wp2
 go_ret
 exact ⟨rfl, (Below.refl _ _).alloc (Nat.le_refl _) _⟩
theorem size_hi (op n ty b : Int) (hlo : (decide (op < 1)) = false) (hhi : (decide (17 < op)) = true) (w : World) : Calls Tryz.prog 142 #[.agg #[.int .i64 op, .int .i64 n, .int .i64 ty, .int .u64 b]] w fun e w' => e = .returned (.int .i64 0) ∧ Below w.heap.size w w' := by
 go_enter Tryz.func142, Tryz.ntmps142
 go_wp2
 go_ret
 exact ⟨rfl, (Below.refl _ _).alloc (Nat.le_refl _) _⟩
theorem right_push_no (n ty b : Int) (h : (n == 0) = false) (w : World) : Calls Tryz.prog 100 #[.agg #[.int .i64 1, .int .i64 n, .int .i64 ty, .int .u64 b]] w fun e w' => e = .returned (.bool false) ∧ Below w.heap.size w w' := by
 go_enter Tryz.func100, Tryz.ntmps100
 go_wp2
 go_ret
 exact ⟨rfl, (Below.refl _ _).alloc (Nat.le_refl _) _⟩
theorem right_push (ty b : Int) (hb : U64 b) (w : World) : Calls Tryz.prog 100 #[.agg #[.int .i64 1, .int .i64 0, .int .i64 ty, .int .u64 b]] w fun e w' => e = .returned (.bool (okV ty b)) ∧ Below w.heap.size w w' := by
 have HR := hid (right_any ty b hb)
 clear hb
 go_enter Tryz.func100, Tryz.ntmps100
 go_wp2_with fail
 go_at_call 32
 refine (HR.out _).mono ?_
 rintro e w1 ⟨rfl, hb1⟩
 go_wp2
 go_ret
 exact ⟨rfl, ((Below.refl _ _).alloc (Nat.le_refl _) _).trans (hb1.mono (by simp))⟩
theorem qCC (op n ty b wd : Int) (nm : ByteArray) (hlo : (decide (op < 1)) = false) (hhi : (decide (17 < op)) = false) (sz : Int) (hw : IntKind.i64.wrap (1 + wd) = sz)
  (hix : ∀ w, (Instr.index 202 (.agg qFg) (.int .i64 op)).run Tryz.prog w = .ok (.agg #[.string nm, .int .i64 wd]) w)
  (hif : ∀ w, (Instr.field 201 (.agg #[.string nm, .int .i64 wd]) 1).run Tryz.prog w = .ok (.int .i64 wd) w) (w : World) : Calls Tryz.prog 142 #[.agg #[.int .i64 op, .int .i64 n, .int .i64 ty, .int .u64 b]] w fun e w' => e = .returned (.int .i64 sz) ∧ Below w.heap.size w w' := by
 go_enter Tryz.func142, Tryz.ntmps142
 go_wp2_with fail
 obtain ⟨W1, hW1⟩ : ∃ W1, W1 = w.alloc (.cells #[.int .i64 op, .int .i64 n, .int .i64 ty, .int .u64 b] 144) := ⟨_, rfl⟩
 have hB1 : Below w.heap.size w W1 := by rw [hW1]; exact (Below.refl _ _).alloc (Nat.le_refl _) _
 have hs : w.heap.size < W1.heap.size := by rw [hW1]; simp
 have c0 : W1.cell? ⟨w.heap.size, 0, none⟩ = some (.int .i64 op) := by rw [hW1, World.cell?_alloc_at _ _ _ _ rfl]; rfl
 have c1 : W1.cell? ⟨w.heap.size, 1, none⟩ = some (.int .i64 n) := by rw [hW1, World.cell?_alloc_at _ _ _ _ rfl]; rfl
 have c2 : W1.cell? ⟨w.heap.size, 2, none⟩ = some (.int .i64 ty) := by rw [hW1, World.cell?_alloc_at _ _ _ _ rfl]; rfl
 have c3 : W1.cell? ⟨w.heap.size, 3, none⟩ = some (.int .u64 b) := by rw [hW1, World.cell?_alloc_at _ _ _ _ rfl]; rfl
 rw [← hW1]
 clear hW1
 go_region_held3 (fun W => W.cell? ⟨w.heap.size, 0, none⟩ = some (.int .i64 op) ∧ W.cell? ⟨w.heap.size, 1, none⟩ = some (.int .i64 n) ∧ W.cell? ⟨w.heap.size, 2, none⟩ = some (.int .i64 ty) ∧ W.cell? ⟨w.heap.size, 3, none⟩ = some (.int .u64 b))
  (first | go_keep | exact ⟨(hbj.cell (p := ⟨w.heap.size, 0, none⟩) hs).trans c0, (hbj.cell (p := ⟨w.heap.size, 1, none⟩) hs).trans c1, (hbj.cell (p := ⟨w.heap.size, 2, none⟩) hs).trans c2, (hbj.cell (p := ⟨w.heap.size, 3, none⟩) hs).trans c3⟩)
  ((go_at_call 141; refine (qDn _).mono ?_; rintro e w1 ⟨rfl, hbj⟩))
 go_wp2
 have hB2 : Below w.heap.size w w1 := hB1.drew.trans (hbj.mono (by simp; omega))
 go_ret
 exact ⟨by rw [← hw]; rfl, hB2⟩
theorem qBC (op n t b mo : Int) (hlo : (decide (op < 1)) = false) (hhi : (decide (17 < op)) = false) (h1 : (op == 1) = false) (h6 : (op == 6) = false) (h7 : (op == 7) = false) (hm : most op = mo) : okI op n t b = decide (t = 0 ∧ b = 0 ∧ 0 ≤ n ∧ n ≤ mo) := by
 unfold okI
 rw [hm, if_neg (by simp at hlo hhi; omega), if_neg (by simpa using h1)]
 by_cases h : t = 0 ∧ b = 0 ∧ 0 ≤ n ∧ n ≤ mo
 rotate_left
 ·rw [if_pos h]; simp [h]
 rw [if_neg (by simpa using h), if_neg (by simpa using h6), if_neg (by simpa using h7)]; simp [h]
theorem okI_lo (op n t b : Int) (h : op < 1) : okI op n t b = false := by unfold okI; rw [if_pos (Or.inl h)]
theorem okI_hi (op n t b : Int) (h : 17 < op) : okI op n t b = false := by unfold okI; rw [if_pos (Or.inr h)]
theorem okI_1 (n t b : Int) : okI 1 n t b = (n == 0 && okV t b) := rfl
theorem okI_6 (n t b : Int) : okI 6 n t b = decide (t = 0 ∧ b = 0 ∧ 0 ≤ n ∧ n ≤ 255 ∧ 1 ≤ n ∧ n ≤ 4) := by
 unfold okI
 rw [if_neg (by decide), if_neg (by decide), show most 6 = 255 from rfl]
 by_cases h : t = 0 ∧ b = 0 ∧ 0 ≤ n ∧ n ≤ 255
 ·obtain ⟨h1, h2, h3, h4⟩ := h
  simp [h1, h2, h3, h4]
 rw [if_pos h]; simp; intro a b c d; exact absurd ⟨a, b, c, d⟩ h
theorem okI_7 (n t b : Int) : okI 7 n t b = decide (t = 0 ∧ b = 0 ∧ 0 ≤ n ∧ n ≤ 255 ∧ 1 ≤ n ∧ n ≤ 11) := by
 unfold okI
 rw [if_neg (by decide), if_neg (by decide), show most 7 = 255 from rfl]
 by_cases h : t = 0 ∧ b = 0 ∧ 0 ≤ n ∧ n ≤ 255
 ·obtain ⟨h1, h2, h3, h4⟩ := h
  simp [h1, h2, h3, h4]
 rw [if_pos h]; simp; intro a b c d; exact absurd ⟨a, b, c, d⟩ h
def sizeI (op : Int) : Int := if op < 1 ∨ 17 < op then 0 else 1 + wid op
theorem qDz (op n ty b : Int) (hb : U64 b) (w : World) : Calls Tryz.prog 100 #[insV op n ty b] w fun e w' => e = .returned (.bool (okI op n ty b)) ∧ Below w.heap.size w w' := by
 unfold insV
 by_cases hl : op < 1
 ·rw [okI_lo op n ty b hl]; exact right_lo op n ty b (by simpa using hl) w
 by_cases hh : 17 < op
 ·rw [okI_hi op n ty b hh]; exact right_hi op n ty b (by simpa using hl) (by simpa using hh) w
 have ho : op = 1 ∨ op = 2 ∨ op = 3 ∨ op = 4 ∨ op = 5 ∨ op = 6 ∨ op = 7 ∨ op = 8 ∨ op = 9 ∨ op = 10 ∨ op = 11 ∨ op = 12 ∨ op = 13 ∨ op = 14 ∨ op = 15 ∨ op = 16 ∨ op = 17 := by omega
 rcases ho with rfl | rfl | rfl | rfl | rfl | rfl | rfl | rfl | rfl | rfl | rfl | rfl | rfl | rfl | rfl | rfl | rfl
 ·rw [okI_1]
  by_cases hn : n = 0
  ·rw [hn]; exact right_push ty b hb w
  rw [show (n == 0) = false from beq_eq_false_iff_ne.mpr hn]; exact right_push_no n ty b (beq_eq_false_iff_ne.mpr hn) w
 ·rw [qBC 2 n ty b 255 rfl rfl rfl rfl rfl rfl]; exact qCr 2 n ty b 1 255 ⟨#[103, 101, 116]⟩ rfl rfl rfl rfl rfl (fun _ => by kernel_rfl) (fun _ => by kernel_rfl) (fun _ => by kernel_rfl) w
 ·rw [qBC 3 n ty b 255 rfl rfl rfl rfl rfl rfl]; exact qCr 3 n ty b 1 255 ⟨#[112, 117, 116]⟩ rfl rfl rfl rfl rfl (fun _ => by kernel_rfl) (fun _ => by kernel_rfl) (fun _ => by kernel_rfl) w
 ·rw [qBC 4 n ty b 65535 rfl rfl rfl rfl rfl rfl]; exact qCr 4 n ty b 2 65535 ⟨#[108, 111, 97, 100]⟩ rfl rfl rfl rfl rfl (fun _ => by kernel_rfl) (fun _ => by kernel_rfl) (fun _ => by kernel_rfl) w
 ·rw [qBC 5 n ty b 65535 rfl rfl rfl rfl rfl rfl]; exact qCr 5 n ty b 2 65535 ⟨#[115, 116, 111, 114, 101]⟩ rfl rfl rfl rfl rfl (fun _ => by kernel_rfl) (fun _ => by kernel_rfl) (fun _ => by kernel_rfl) w
 ·rw [okI_6]; exact right_6 6 n ty b 1 255 ⟨#[117, 110]⟩ rfl rfl rfl rfl (fun _ => by kernel_rfl) (fun _ => by kernel_rfl) (fun _ => by kernel_rfl) w
 ·rw [okI_7]; exact right_7 7 n ty b 1 255 ⟨#[98, 105, 110]⟩ rfl rfl rfl rfl rfl (fun _ => by kernel_rfl) (fun _ => by kernel_rfl) (fun _ => by kernel_rfl) w
 ·rw [qBC 8 n ty b 65535 rfl rfl rfl rfl rfl rfl]; exact qCr 8 n ty b 2 65535 ⟨#[106, 117, 109, 112]⟩ rfl rfl rfl rfl rfl (fun _ => by kernel_rfl) (fun _ => by kernel_rfl) (fun _ => by kernel_rfl) w
 ·rw [qBC 9 n ty b 65535 rfl rfl rfl rfl rfl rfl]; exact qCr 9 n ty b 2 65535 ⟨#[117, 110, 108, 101, 115, 115]⟩ rfl rfl rfl rfl rfl (fun _ => by kernel_rfl) (fun _ => by kernel_rfl) (fun _ => by kernel_rfl) w
 ·rw [qBC 10 n ty b 65535 rfl rfl rfl rfl rfl rfl]; exact qCr 10 n ty b 2 65535 ⟨#[99, 97, 108, 108]⟩ rfl rfl rfl rfl rfl (fun _ => by kernel_rfl) (fun _ => by kernel_rfl) (fun _ => by kernel_rfl) w
 ·rw [qBC 11 n ty b 0 rfl rfl rfl rfl rfl rfl]; exact qCr 11 n ty b 0 0 ⟨#[114, 101, 116, 117, 114, 110]⟩ rfl rfl rfl rfl rfl (fun _ => by kernel_rfl) (fun _ => by kernel_rfl) (fun _ => by kernel_rfl) w
 ·rw [qBC 12 n ty b 0 rfl rfl rfl rfl rfl rfl]; exact qCr 12 n ty b 0 0 ⟨#[115, 104, 111, 119]⟩ rfl rfl rfl rfl rfl (fun _ => by kernel_rfl) (fun _ => by kernel_rfl) (fun _ => by kernel_rfl) w
 ·rw [qBC 13 n ty b 0 rfl rfl rfl rfl rfl rfl]; exact qCr 13 n ty b 0 0 ⟨#[102, 97, 105, 108]⟩ rfl rfl rfl rfl rfl (fun _ => by kernel_rfl) (fun _ => by kernel_rfl) (fun _ => by kernel_rfl) w
 ·rw [qBC 14 n ty b 0 rfl rfl rfl rfl rfl rfl]; exact qCr 14 n ty b 0 0 ⟨#[105, 110, 112, 117, 116]⟩ rfl rfl rfl rfl rfl (fun _ => by kernel_rfl) (fun _ => by kernel_rfl) (fun _ => by kernel_rfl) w
 ·rw [qBC 15 n ty b 65535 rfl rfl rfl rfl rfl rfl]; exact qCr 15 n ty b 2 65535 ⟨#[116, 114, 121]⟩ rfl rfl rfl rfl rfl (fun _ => by kernel_rfl) (fun _ => by kernel_rfl) (fun _ => by kernel_rfl) w
 ·rw [qBC 16 n ty b 0 rfl rfl rfl rfl rfl rfl]; exact qCr 16 n ty b 0 0 ⟨#[117, 110, 116, 114, 121]⟩ rfl rfl rfl rfl rfl (fun _ => by kernel_rfl) (fun _ => by kernel_rfl) (fun _ => by kernel_rfl) w
 rw [qBC 17 n ty b 0 rfl rfl rfl rfl rfl rfl]; exact qCr 17 n ty b 0 0 ⟨#[100, 114, 111, 112]⟩ rfl rfl rfl rfl rfl (fun _ => by kernel_rfl) (fun _ => by kernel_rfl) (fun _ => by kernel_rfl) w
theorem size_ins (op n ty b : Int) (w : World) : Calls Tryz.prog 142 #[insV op n ty b] w fun e w' => e = .returned (.int .i64 (sizeI op)) ∧ Below w.heap.size w w' := by
 unfold insV
 by_cases hl : op < 1
 ·rw [show sizeI op = 0 from if_pos (Or.inl hl)]; exact size_lo op n ty b (by simpa using hl) w
 by_cases hh : 17 < op
 ·rw [show sizeI op = 0 from if_pos (Or.inr hh)]; exact size_hi op n ty b (by simpa using hl) (by simpa using hh) w
 have ho : op = 1 ∨ op = 2 ∨ op = 3 ∨ op = 4 ∨ op = 5 ∨ op = 6 ∨ op = 7 ∨ op = 8 ∨ op = 9 ∨ op = 10 ∨ op = 11 ∨ op = 12 ∨ op = 13 ∨ op = 14 ∨ op = 15 ∨ op = 16 ∨ op = 17 := by omega
 rcases ho with rfl | rfl | rfl | rfl | rfl | rfl | rfl | rfl | rfl | rfl | rfl | rfl | rfl | rfl | rfl | rfl | rfl
 ·rw [show sizeI 1 = 10 from rfl]; exact qCC 1 n ty b 9 ⟨#[112, 117, 115, 104]⟩ rfl rfl 10 rfl (fun _ => by kernel_rfl) (fun _ => by kernel_rfl) w
 ·rw [show sizeI 2 = 2 from rfl]; exact qCC 2 n ty b 1 ⟨#[103, 101, 116]⟩ rfl rfl 2 rfl (fun _ => by kernel_rfl) (fun _ => by kernel_rfl) w
 ·rw [show sizeI 3 = 2 from rfl]; exact qCC 3 n ty b 1 ⟨#[112, 117, 116]⟩ rfl rfl 2 rfl (fun _ => by kernel_rfl) (fun _ => by kernel_rfl) w
 ·rw [show sizeI 4 = 3 from rfl]; exact qCC 4 n ty b 2 ⟨#[108, 111, 97, 100]⟩ rfl rfl 3 rfl (fun _ => by kernel_rfl) (fun _ => by kernel_rfl) w
 ·rw [show sizeI 5 = 3 from rfl]; exact qCC 5 n ty b 2 ⟨#[115, 116, 111, 114, 101]⟩ rfl rfl 3 rfl (fun _ => by kernel_rfl) (fun _ => by kernel_rfl) w
 ·rw [show sizeI 6 = 2 from rfl]; exact qCC 6 n ty b 1 ⟨#[117, 110]⟩ rfl rfl 2 rfl (fun _ => by kernel_rfl) (fun _ => by kernel_rfl) w
 ·rw [show sizeI 7 = 2 from rfl]; exact qCC 7 n ty b 1 ⟨#[98, 105, 110]⟩ rfl rfl 2 rfl (fun _ => by kernel_rfl) (fun _ => by kernel_rfl) w
 ·rw [show sizeI 8 = 3 from rfl]; exact qCC 8 n ty b 2 ⟨#[106, 117, 109, 112]⟩ rfl rfl 3 rfl (fun _ => by kernel_rfl) (fun _ => by kernel_rfl) w
 ·rw [show sizeI 9 = 3 from rfl]; exact qCC 9 n ty b 2 ⟨#[117, 110, 108, 101, 115, 115]⟩ rfl rfl 3 rfl (fun _ => by kernel_rfl) (fun _ => by kernel_rfl) w
 ·rw [show sizeI 10 = 3 from rfl]; exact qCC 10 n ty b 2 ⟨#[99, 97, 108, 108]⟩ rfl rfl 3 rfl (fun _ => by kernel_rfl) (fun _ => by kernel_rfl) w
 ·rw [show sizeI 11 = 1 from rfl]; exact qCC 11 n ty b 0 ⟨#[114, 101, 116, 117, 114, 110]⟩ rfl rfl 1 rfl (fun _ => by kernel_rfl) (fun _ => by kernel_rfl) w
 ·rw [show sizeI 12 = 1 from rfl]; exact qCC 12 n ty b 0 ⟨#[115, 104, 111, 119]⟩ rfl rfl 1 rfl (fun _ => by kernel_rfl) (fun _ => by kernel_rfl) w
 ·rw [show sizeI 13 = 1 from rfl]; exact qCC 13 n ty b 0 ⟨#[102, 97, 105, 108]⟩ rfl rfl 1 rfl (fun _ => by kernel_rfl) (fun _ => by kernel_rfl) w
 ·rw [show sizeI 14 = 1 from rfl]; exact qCC 14 n ty b 0 ⟨#[105, 110, 112, 117, 116]⟩ rfl rfl 1 rfl (fun _ => by kernel_rfl) (fun _ => by kernel_rfl) w
 ·rw [show sizeI 15 = 3 from rfl]; exact qCC 15 n ty b 2 ⟨#[116, 114, 121]⟩ rfl rfl 3 rfl (fun _ => by kernel_rfl) (fun _ => by kernel_rfl) w
 ·rw [show sizeI 16 = 1 from rfl]; exact qCC 16 n ty b 0 ⟨#[117, 110, 116, 114, 121]⟩ rfl rfl 1 rfl (fun _ => by kernel_rfl) (fun _ => by kernel_rfl) w
 rw [show sizeI 17 = 1 from rfl]; exact qCC 17 n ty b 0 ⟨#[100, 114, 111, 112]⟩ rfl rfl 1 rfl (fun _ => by kernel_rfl) (fun _ => by kernel_rfl) w
end Ins
end
section
namespace Q
open Go.RowKit PA PC PB
open Val Ins
def okT (t : Int) : Bool := decide (1 ≤ t ∧ t ≤ 3)
theorem okT_true {t : Int} (h1 : 1 ≤ t) (h2 : t ≤ 3) : okT t = true := by unfold okT; simp [h1, h2]
theorem qD4 {t : Int} (h : t < 1 ∨ 3 < t) : okT t = false := by unfold okT; simp; omega
theorem qF3 (t : Int) (w : World) : Calls Tryz.prog 169 #[.int .i64 t] w fun e w' => e = .returned (.bool (okT t)) ∧ w' = w := by
 by_cases h1 : 1 ≤ t
 rotate_left
 ·rw [qD4 (by omega)]
  go_enter Tryz.func169, Tryz.ntmps169
  go_wp2
  go_ret
  exact ⟨rfl, rfl⟩
 by_cases h2 : t ≤ 3
 ·rw [okT_true h1 h2]
  go_enter Tryz.func169, Tryz.ntmps169
  go_wp2
  go_ret
  exact ⟨rfl, rfl⟩
 rw [qD4 (by omega)]
 go_enter Tryz.func169, Tryz.ntmps169
 go_wp2
 go_ret
 exact ⟨rfl, rfl⟩
def nmT (t : Int) : ByteArray := if t = 1 then ⟨#[105, 110, 116]⟩ else if t = 2 then ⟨#[102, 108, 111, 97, 116]⟩ else if t = 3 then ⟨#[98, 111, 111, 108]⟩ else ⟨#[]⟩
theorem name_no (t : Int) (h : okT t = false) (w : World) : Calls Tryz.prog 148 #[.int .i64 t] w fun e w' => e = .returned (.string ⟨#[]⟩) ∧ w' = w := by
 have H := Base.hid h
 clear h
 go_enter Tryz.func148, Tryz.ntmps148
 go_wp2_with (go_at_call 169; refine (qF3 t _).mono ?_; rintro e w1 ⟨rfl, rfl⟩; have H1 := H.out; rw [H1])
 go_ret
 exact ⟨rfl, rfl⟩
theorem name_yes (t : Int) (s : ByteArray) (h : okT t = true) (hi : ∀ w, (Instr.index 235 (.agg #[.string ⟨#[]⟩, .string ⟨#[105, 110, 116]⟩, .string ⟨#[102, 108, 111, 97, 116]⟩, .string ⟨#[98, 111, 111, 108]⟩]) (.int .i64 t)).run Tryz.prog w = .ok (.string s) w) (w : World) : Calls Tryz.prog 148 #[.int .i64 t] w fun e w' => e = .returned (.string s) ∧ w' = w := by
 have H := Base.hid h
 clear h
 go_enter Tryz.func148, Tryz.ntmps148
 go_wp2_with (go_at_call 169; refine (qF3 t _).mono ?_; rintro e w1 ⟨rfl, rfl⟩; have H1 := H.out; rw [H1])
 go_ret
 exact ⟨rfl, rfl⟩
theorem name_any (t : Int) (w : World) : Calls Tryz.prog 148 #[.int .i64 t] w fun e w' => e = .returned (.string (nmT t)) ∧ w' = w := by
 by_cases h1 : t = 1
 ·subst h1; exact name_yes 1 _ rfl (fun w => by kernel_rfl) w
 by_cases h2 : t = 2
 ·subst h2; exact name_yes 2 _ rfl (fun w => by kernel_rfl) w
 by_cases h3 : t = 3
 ·subst h3; exact name_yes 3 _ rfl (fun w => by kernel_rfl) w
 rw [show nmT t = ⟨#[]⟩ from by unfold nmT; rw [if_neg h1, if_neg h2, if_neg h3]]
 exact name_no t (qD4 (by omega)) w
theorem qFr (t : Int) (w : World) : Calls Tryz.prog 97 #[.int .i64 t] w fun e w' => e = .returned (.bool (okT t)) ∧ w' = w := by
 have hn := name_any t
 have hq : (!(nmT t).toList.isEmpty) = okT t := by
  rw [Lib.toList_data]
  by_cases h1 : t = 1
  ·subst h1; rfl
  by_cases h2 : t = 2
  ·subst h2; rfl
  by_cases h3 : t = 3
  ·subst h3; rfl
  rw [qD4 (by omega), show nmT t = ⟨#[]⟩ from by unfold nmT; rw [if_neg h1, if_neg h2, if_neg h3]]; rfl
 obtain ⟨s, hs⟩ : ∃ s, s = nmT t := ⟨_, rfl⟩
 rw [← hs] at hq hn
 have HN := Base.hid hn
 have HQ := Base.hid hq
 clear hn hq hs
 go_enter Tryz.func97, Tryz.ntmps97
 go_wp2_with (go_at_call 148; refine (HN.out _).mono ?_; rintro e w1 ⟨rfl, rfl⟩)
 go_ret
 exact ⟨by rw [← HQ.out]; rfl, rfl⟩
theorem unvalued_any (t : Int) (w : World) : Calls Tryz.prog 96 #[.int .i64 t] w fun e w' => e = .returned (.bool (!okT t)) ∧ w' = w := by
 go_enter Tryz.func96, Tryz.ntmps96
 go_wp2_with (go_at_call 97; refine (qFr t _).mono ?_; rintro e w1 ⟨rfl, rfl⟩)
 go_ret
 exact ⟨rfl, rfl⟩
theorem qE3 {α : Type} (p : α → Bool) (l : List α) (k : Nat) (x : α) (hx : l[k]? = some x) (h : p x = true) : l.any p = true :=
 List.any_eq_true.2 ⟨x, List.mem_of_getElem? hx, h⟩
theorem qEU {α : Type} (p : α → Bool) (l : List α) (h : ∀ (j : Nat) (x : α), l[j]? = some x → p x = false) : l.any p = false := by
 rw [List.any_eq_false]
 intro x hx
 obtain ⟨j, hj⟩ := List.getElem?_of_mem hx
 rw [h j x hj]; decide
def IdxPost (b : Bool) (W0 : World) (e : Ending) (w' : World) : Prop := ∃ i : Int, e = .returned (.int .i64 i) ∧ (0 ≤ i ↔ b = true) ∧ Below W0.heap.size W0 w'
theorem qCz {α : Type} (l : List α) (d : α) (k : Nat) (h : k < l.length) : l[k]? = some (l.getD k d) := by rw [List.getD_eq_getElem?_getD, List.getElem?_eq_getElem h]; rfl
theorem idx_ints (A : Option Addr) (c : Nat) (l : List Int) (w : World) (hr : Kd.C (Kd.int .i64) w A l.length l) (hl : l.length ≤ 4611686018427387904) :
  Calls Tryz.prog 147 #[.slice A l.length c, .func (.func 96) #[] #[]] w (IdxPost (l.any fun t => !okT t) w) := by
 obtain ⟨n, hn⟩ : ∃ n, n = l.length := ⟨_, rfl⟩
 rw [← hn]
 have HR := am hr
 have HN := am hn
 rw [← hn] at hl
 clear hr hn
 go_enter Tryz.func147, Tryz.ntmps147
 go_wp2
 go_loopg [5, 8] n (fun gg _ s8 wr => ∃ kk : Nat, kk ≤ n ∧ n - kk ≤ gg ∧ s8 = .int .i64 kk ∧ qAe (∀ j x, j < kk → l[j]? = some x → (!okT x) = false) ∧ wr = w)
 case atStart => exact ⟨0, Nat.zero_le _, by omega, rfl, ⟨fun j x hj => absurd hj (Nat.not_lt_zero _)⟩, rfl⟩
 case round =>
  obtain ⟨kk, hkk, hg, rfl, HA, rfl⟩ := hrel
  by_cases hlt : kk < n
  rotate_left
  ·have hltz : ¬ (kk : Int) < (n : Int) := by omega
   have : kk = n := by omega
   subst this
   go_wp2
   go_ret
   refine ⟨-1, rfl, ?_, Below.refl _ _⟩
   rw [qEU _ l fun j x hj => HA.out j x (by rw [HN.out]; exact (List.getElem?_eq_some_iff.1 hj).1) hj]
   simp
  have hltz : (kk : Int) < (n : Int) := by omega
  have h0 : (0 : Int) ≤ (kk : Int) := by omega
  obtain ⟨ad, ea, hx⟩ := Kd.at_int HR.out (kk : Int) h0 (by have := HN.out; omega)
  subst ea
  rw [Int.toNat_natCast] at hx
  have hc := unvalued_any (rd l (kk : Int))
  obtain ⟨x, hx0⟩ : ∃ x, x = rd l (kk : Int) := ⟨_, rfl⟩
  rw [← hx0] at hx hc
  have HX : qAe (l[kk]? = some x) := ⟨by rw [hx0]; exact qCz l 0 kk (by have := HN.out; omega)⟩
  have HC := am hc
  clear hx0 hc
  cases hq : okT x with
  | false =>
   have HQ := am hq
   clear hq
   go_wp2_with (go_at_call 96; refine (HC.out _).mono ?_; rintro e w1 ⟨rfl, rfl⟩; rw [HQ.out])
   go_ret
   exact ⟨kk, rfl, ⟨fun _ => qE3 _ l kk x HX.out (by rw [HQ.out]; rfl), fun _ => h0⟩, Below.refl _ _⟩
  | true =>
   have HQ := am hq
   clear hq
   go_wp2_with (go_at_call 96; refine (HC.out _).mono ?_; rintro e w1 ⟨rfl, rfl⟩; rw [HQ.out])
   go_roundg (n - (kk + 1))
   case measure => omega
   case rel =>
    refine ⟨kk + 1, by omega, by omega, by go_num, ⟨fun j y hj hy => ?_⟩, rfl⟩
    by_cases e : j = kk
    rotate_left
    ·exact HA.out j y (by omega) hy
    subst e
    rw [HX.out] at hy; injection hy with hy; subst hy; rw [HQ.out]; rfl
theorem has_ints (A : Option Addr) (c : Nat) (l : List Int) (w : World) (hr : Kd.C (Kd.int .i64) w A l.length l) (hl : l.length ≤ 4611686018427387904) :
  Calls Tryz.prog 95 #[.slice A l.length c, .func (.func 96) #[] #[]] w fun e w' => e = .returned (.bool (l.any fun t => !okT t)) ∧ Below w.heap.size w w' := by
 have HI := am (idx_ints A c l w hr hl)
 obtain ⟨b, hb⟩ : ∃ b, b = l.any fun t => !okT t := ⟨_, rfl⟩
 rw [← hb] at HI ⊢
 clear hb hr hl
 go_enter Tryz.func95, Tryz.ntmps95
 go_wp2_with (go_at_call 147; refine (HI.out).mono ?_; rintro e w1 ⟨i, rfl, hi, hw⟩; have HB := am hw; have HQ := am hi; clear hi hw)
 go_ret
 refine ⟨?_, HB.out⟩
 have := HQ.out
 congr 2
 cases b <;> simp_all
theorem all_ints (A : Option Addr) (c : Nat) (l : List Int) (w : World) (hr : Kd.C (Kd.int .i64) w A l.length l) (hl : l.length ≤ 4611686018427387904) :
  Calls Tryz.prog 94 #[.slice A l.length c] w fun e w' => e = .returned (.bool (l.all okT)) ∧ Below w.heap.size w w' := by
 have HI := am (has_ints A c l w hr hl)
 have hq : (!l.any fun t => !okT t) = l.all okT := by rw [List.not_any_eq_all_not]; simp
 obtain ⟨b, hb⟩ : ∃ b, b = l.any fun t => !okT t := ⟨_, rfl⟩
 rw [← hb] at HI hq
 rw [← hq]
 clear hb hr hl hq
 go_enter Tryz.func94, Tryz.ntmps94
 go_wp2_with (go_at_call 95; refine (HI.out).mono ?_; rintro e w1 ⟨rfl, hw⟩; have HB := am hw; clear hw)
 go_ret
 exact ⟨rfl, HB.out⟩
theorem unright_any (op n ty b : Int) (hb : U64 b) (w : World) : Calls Tryz.prog 99 #[.agg #[.int .i64 op, .int .i64 n, .int .i64 ty, .int .u64 b]] w fun e w' => e = .returned (.bool (!okI op n ty b)) ∧ Below w.heap.size w w' := by
 have HR := am (fun W => qDz op n ty b hb W)
 unfold insV at HR
 clear hb
 go_enter Tryz.func99, Tryz.ntmps99
 go_wp2_with (go_at_call 100; refine (HR.out _).mono ?_; rintro e w1 ⟨rfl, hw⟩; have HB := am hw; clear hw)
 go_ret
 exact ⟨rfl, ((Below.refl _ _).alloc (Nat.le_refl _) _).trans (HB.out.mono (by simp))⟩
def okS (x : S144) : Bool := okI x.f0 x.f1 x.f2.f0 x.f2.f1
def u64S (x : S144) : Bool := decide (0 ≤ x.f2.f1 ∧ x.f2.f1 < 18446744073709551616)
theorem u64S_U {x : S144} (h : u64S x = true) : U64 x.f2.f1 := by
 have h := of_decide_eq_true (p := 0 ≤ x.f2.f1 ∧ x.f2.f1 < 18446744073709551616) h
 exact ⟨h.1, by omega⟩
theorem idx_ins (A : Option Addr) (c : Nat) (l : List S144) (w : World) (hr : Kd.C k144 w A l.length l) (hl : l.length ≤ 4611686018427387904) (hu : ∀ x ∈ l, u64S x = true) :
  Calls Tryz.prog 149 #[.slice A l.length c, .func (.func 99) #[] #[]] w (IdxPost (l.any fun x => !okS x) w) := by
 obtain ⟨n, hn⟩ : ∃ n, n = l.length := ⟨_, rfl⟩
 rw [← hn]
 have HR := am hr
 have HN := am hn
 have HU := am hu
 rw [← hn] at hl
 clear hr hn hu
 go_enter Tryz.func149, Tryz.ntmps149
 go_wp2
 go_loopg [5, 8] n (fun gg _ s8 wr => ∃ kk : Nat, kk ≤ n ∧ n - kk ≤ gg ∧ s8 = .int .i64 kk ∧ qAe (∀ (j : Nat) x, j < kk → l[j]? = some x → (!okS x) = false) ∧ qAe (Below w.heap.size w wr))
 case atStart => exact ⟨0, Nat.zero_le _, by omega, rfl, ⟨fun j x hj => absurd hj (Nat.not_lt_zero _)⟩, ⟨Below.refl _ _⟩⟩
 case round =>
  obtain ⟨kk, hkk, hg, rfl, HA, HB⟩ := hrel
  by_cases hlt : kk < n
  rotate_left
  ·have hltz : ¬ (kk : Int) < (n : Int) := by omega
   have : kk = n := by omega
   subst this
   go_wp2
   go_ret
   refine ⟨-1, rfl, ?_, HB.out⟩
   rw [qEU _ l fun j x hj => HA.out j x (by rw [HN.out]; exact (List.getElem?_eq_some_iff.1 hj).1) hj]
   simp
  have hltz : (kk : Int) < (n : Int) := by omega
  have h0 : (0 : Int) ≤ (kk : Int) := by omega
  obtain ⟨ad, ea, hx0, hx1, hx2, hx3⟩ := qCF HR.out (kk : Int) h0 (by have := HN.out; omega)
  subst ea
  rw [Int.toNat_natCast] at hx0 hx1 hx2 hx3
  replace hx0 := cb HB hx0
  replace hx1 := cb HB hx1
  replace hx2 := cb HB hx2
  replace hx3 := cb HB hx3
  obtain ⟨x, hx⟩ : ∃ x, x = qAH l (kk : Int) := ⟨_, rfl⟩
  rw [← hx] at hx0 hx1 hx2 hx3
  have HX : qAe (l[kk]? = some x) := ⟨by rw [hx]; exact qCz l z144 kk (by have := HN.out; omega)⟩
  clear hx
  obtain ⟨op, nn, ⟨ty, bb⟩⟩ := x
  dsimp only at hx0 hx1 hx2 hx3
  have HC := am (fun W => unright_any op nn ty bb (u64S_U (HU.out _ (List.mem_of_getElem? HX.out))) W)
  cases hq : okI op nn ty bb with
  | false =>
   have HQ := am hq
   clear hq
   go_wp2_with (go_at_call 99; refine (HC.out _).mono ?_; rintro e w1 ⟨rfl, hw⟩; rw [HQ.out]; have HB1 := am (qA0 HB.out HB.out.size hw); clear hw)
   go_ret
   exact ⟨kk, rfl, ⟨fun _ => qE3 _ l kk _ HX.out (by unfold okS; dsimp only; rw [HQ.out]; rfl), fun _ => h0⟩, HB1.out⟩
  | true =>
   have HQ := am hq
   clear hq
   go_wp2_with (go_at_call 99; refine (HC.out _).mono ?_; rintro e w1 ⟨rfl, hw⟩; rw [HQ.out]; have HB1 := am (qA0 HB.out HB.out.size hw); clear hw)
   go_roundg (n - (kk + 1))
   case measure => omega
   case rel =>
    refine ⟨kk + 1, by omega, by omega, by go_num, ⟨fun j y hj hy => ?_⟩, HB1⟩
    by_cases e : j = kk
    rotate_left
    ·exact HA.out j y (by omega) hy
    subst e
    rw [HX.out] at hy; injection hy with hy; subst hy; unfold okS; dsimp only; rw [HQ.out]; rfl
theorem has_ins (A : Option Addr) (c : Nat) (l : List S144) (w : World) (hr : Kd.C k144 w A l.length l) (hl : l.length ≤ 4611686018427387904) (hu : ∀ x ∈ l, u64S x = true) :
  Calls Tryz.prog 98 #[.slice A l.length c, .func (.func 99) #[] #[]] w fun e w' => e = .returned (.bool (l.any fun x => !okS x)) ∧ Below w.heap.size w w' := by
 have HI := am (idx_ins A c l w hr hl hu)
 obtain ⟨b, hb⟩ : ∃ b, b = l.any fun x => !okS x := ⟨_, rfl⟩
 rw [← hb] at HI ⊢
 clear hb hr hl hu
 go_enter Tryz.func98, Tryz.ntmps98
 go_wp2_with (go_at_call 149; refine (HI.out).mono ?_; rintro e w1 ⟨i, rfl, hi, hw⟩; have HB := am hw; have HQ := am hi; clear hi hw)
 go_ret
 refine ⟨?_, HB.out⟩
 have := HQ.out
 congr 2
 cases b <;> simp_all
def okFn (l0 : List Int) (a1 : Int) (l2 : List Int) (l3 : List S144) : Bool :=
 decide (l0.length ≤ 8) && l0.all okT && (a1 == 0 || okT a1) && decide (l2.length ≤ 64) && l2.all okT && decide (l3.length ≤ 4096) && l3.all okS
def qBI.f (l0_0 : List Int) (a0_1 : Int) (l0_2 : List Int) (l0_3 : List (S144)) : Option (Bool) :=
 if l0_0.length ≤ 4611686018427387904 ∧ l0_2.length ≤ 4611686018427387904 ∧ l0_3.length ≤ 4611686018427387904 ∧ l0_3.all u64S = true then some (okFn l0_0 a0_1 l0_2 l0_3) else none
theorem qBI.calls (A0_0 : Option Addr) (c0_0 : Nat) (l0_0 : List Int) (a0_1 : Int) (A0_2 : Option Addr) (c0_2 : Nat) (l0_2 : List Int) (A0_3 : Option Addr) (c0_3 : Nat) (l0_3 : List (S144)) (r : Bool) (w : World) (hr0_0 : Kd.C (Kd.int .i64) w A0_0 l0_0.length l0_0) (hc0_0 : l0_0.length ≤ c0_0) (hr0_2 : Kd.C (Kd.int .i64) w A0_2 l0_2.length l0_2) (hc0_2 : l0_2.length ≤ c0_2) (hr0_3 : Kd.C k144 w A0_3 l0_3.length l0_3) (hc0_3 : l0_3.length ≤ c0_3) (h : qBI.f l0_0 a0_1 l0_2 l0_3 = some r) :
  Calls Tryz.prog 33 #[.agg #[.slice A0_0 l0_0.length c0_0, .int .i64 a0_1, .slice A0_2 l0_2.length c0_2, .slice A0_3 l0_3.length c0_3]] w fun e w' => e = .returned (.bool r) ∧ Below w.heap.size w w' := by
 unfold qBI.f at h
 split at h
 case isFalse => cases h
 rename_i hs
 obtain ⟨hl0, hl2, hl3, hu⟩ := hs
 injection h with h
 have hu' : ∀ x ∈ l0_3, u64S x = true := fun x hx => List.all_eq_true.1 hu x hx
 have H0 : qAe (∀ W, Below w.heap.size w W → Calls Tryz.prog 94 #[.slice A0_0 l0_0.length c0_0] W fun e w' => e = .returned (.bool (l0_0.all okT)) ∧ Below W.heap.size W w') := ⟨fun W hW => all_ints A0_0 c0_0 l0_0 W (Kd.C_below hr0_0 hW) hl0⟩
 have H2 : qAe (∀ W, Below w.heap.size w W → Calls Tryz.prog 94 #[.slice A0_2 l0_2.length c0_2] W fun e w' => e = .returned (.bool (l0_2.all okT)) ∧ Below W.heap.size W w') := ⟨fun W hW => all_ints A0_2 c0_2 l0_2 W (Kd.C_below hr0_2 hW) hl2⟩
 have H3 : qAe (∀ W, Below w.heap.size w W → Calls Tryz.prog 98 #[.slice A0_3 l0_3.length c0_3, .func (.func 99) #[] #[]] W fun e w' => e = .returned (.bool (l0_3.any fun x => !okS x)) ∧ Below W.heap.size W w') := ⟨fun W hW => has_ins A0_3 c0_3 l0_3 W (Kd.C_below hr0_3 hW) hl3 hu'⟩
 have hq3 : (!l0_3.any fun x => !okS x) = l0_3.all okS := by rw [List.not_any_eq_all_not]; simp
 unfold okFn at h
 obtain ⟨n0, hn0⟩ : ∃ n, n = l0_0.length := ⟨_, rfl⟩
 obtain ⟨n2, hn2⟩ : ∃ n, n = l0_2.length := ⟨_, rfl⟩
 obtain ⟨n3, hn3⟩ : ∃ n, n = l0_3.length := ⟨_, rfl⟩
 obtain ⟨b0, hb0⟩ : ∃ b, b = l0_0.all okT := ⟨_, rfl⟩
 obtain ⟨b2, hb2⟩ : ∃ b, b = l0_2.all okT := ⟨_, rfl⟩
 obtain ⟨b3, hb3⟩ : ∃ b, b = l0_3.any fun x => !okS x := ⟨_, rfl⟩
 rw [← hn0, ← hn2, ← hn3]
 rw [← hn0, ← hb0] at H0
 rw [← hn2, ← hb2] at H2
 rw [← hn3, ← hb3] at H3
 rw [← hb3] at hq3
 rw [← hn0, ← hn2, ← hn3, ← hb0, ← hb2, ← hq3] at h
 have hv0 : 0 ≤ n0 := Nat.zero_le _
 clear hn0 hn2 hn3 hb0 hb2 hb3 hr0_0 hr0_2 hr0_3 hc0_0 hc0_2 hc0_3 hl0 hl2 hl3 hu hu' hq3 hv0
 have HB0 := am ((Below.refl w.heap.size w).alloc (Nat.le_refl _) (.cells #[.slice A0_0 n0 c0_0, .int .i64 a0_1, .slice A0_2 n2 c0_2, .slice A0_3 n3 c0_3] 90))
 have HV := am (fun W => qFr a0_1 W)
 by_cases c1 : n0 ≤ 8
 case neg =>
  obtain rfl : r = false := by rw [← h]; simp [c1]
  clear h H0 H2 H3 HV HB0
  go_enter Tryz.func33, Tryz.ntmps33
  go_wp2
  go_ret
  exact ⟨rfl, (Below.refl _ _).alloc (Nat.le_refl _) _⟩
 obtain ⟨WA, hWA⟩ : ∃ WA, WA = w.alloc (.cells #[.slice A0_0 n0 c0_0, .int .i64 a0_1, .slice A0_2 n2 c0_2, .slice A0_3 n3 c0_3] 90) := ⟨_, rfl⟩
 have hBA : Below w.heap.size w WA := hWA ▸ HB0.out
 have k0 : WA.cell? ⟨w.heap.size, 0, none⟩ = some (.slice A0_0 n0 c0_0) := by rw [hWA, World.cell?_alloc_at _ _ _ _ rfl]; rfl
 have k1 : WA.cell? ⟨w.heap.size, 1, none⟩ = some (.int .i64 a0_1) := by rw [hWA, World.cell?_alloc_at _ _ _ _ rfl]; rfl
 have k2 : WA.cell? ⟨w.heap.size, 2, none⟩ = some (.slice A0_2 n2 c0_2) := by rw [hWA, World.cell?_alloc_at _ _ _ _ rfl]; rfl
 have k3 : WA.cell? ⟨w.heap.size, 3, none⟩ = some (.slice A0_3 n3 c0_3) := by rw [hWA, World.cell?_alloc_at _ _ _ _ rfl]; rfl
 have hsA : w.heap.size < WA.heap.size := by rw [hWA]; simp
 have HWA := am hWA
 clear hWA HB0
 go_enter Tryz.func33, Tryz.ntmps33
 go_wp2_with fail
 rw [← HWA.out]
 go_wp2_with fail
 refine (H0.out _ hBA).mono ?_
 rintro e w1 ⟨rfl, hb⟩
 have m0 : w1.cell? ⟨w.heap.size, 0, none⟩ = some (.slice A0_0 n0 c0_0) := (hb.cell (p := ⟨w.heap.size, 0, none⟩) hsA).trans k0
 have m1 : w1.cell? ⟨w.heap.size, 1, none⟩ = some (.int .i64 a0_1) := (hb.cell (p := ⟨w.heap.size, 1, none⟩) hsA).trans k1
 have m2 : w1.cell? ⟨w.heap.size, 2, none⟩ = some (.slice A0_2 n2 c0_2) := (hb.cell (p := ⟨w.heap.size, 2, none⟩) hsA).trans k2
 have m3 : w1.cell? ⟨w.heap.size, 3, none⟩ = some (.slice A0_3 n3 c0_3) := (hb.cell (p := ⟨w.heap.size, 3, none⟩) hsA).trans k3
 have hs1 : w.heap.size < w1.heap.size := Nat.lt_of_lt_of_le hsA hb.size
 have HB1 := am (qA0 hBA hBA.size hb)
 clear hb k0 k1 k2 k3
 cases b0 with
 | false =>
  obtain rfl : r = false := by rw [← h]; simp
  clear h
  go_wp2
  go_ret
  exact ⟨rfl, HB1.out⟩
 | true =>
  by_cases c3 : a0_1 = 0
  ·have c3' : (a0_1 == 0) = true := beq_iff_eq.mpr c3
   simp only [c3', Bool.true_or, Bool.and_true] at h
   clear c3
   by_cases c5 : n2 ≤ 64
   case neg =>
    obtain rfl : r = false := by rw [← h]; simp [c5]
    clear h
    go_wp2
    go_ret
    exact ⟨rfl, HB1.out⟩
   go_wp2_with fail
   refine (H2.out _ HB1.out).mono ?_
   rintro e w2 ⟨rfl, hb⟩
   have p3 : w2.cell? ⟨w.heap.size, 3, none⟩ = some (.slice A0_3 n3 c0_3) := (hb.cell (p := ⟨w.heap.size, 3, none⟩) hs1).trans m3
   have HB2 := am (qA0 HB1.out HB1.out.size hb)
   clear hb m0 m1 m2 m3
   cases b2 with
   | false =>
    obtain rfl : r = false := by rw [← h]; simp
    clear h
    go_wp2
    go_ret
    exact ⟨rfl, HB2.out⟩
   | true =>
    by_cases c6 : n3 ≤ 4096
    case neg =>
     obtain rfl : r = false := by rw [← h]; simp [c6]
     clear h
     go_wp2
     go_ret
     exact ⟨rfl, HB2.out⟩
    obtain rfl : r = !b3 := by rw [← h]; simp [c1, c5, c6]
    clear h
    go_wp2_with fail
    refine (H3.out _ HB2.out).mono ?_
    rintro e w3 ⟨rfl, hb⟩
    have HB3 := am (qA0 HB2.out HB2.out.size hb)
    clear hb
    go_wp2
    go_ret
    exact ⟨rfl, HB3.out⟩
  have c3' : (a0_1 == 0) = false := beq_eq_false_iff_ne.mpr c3
  obtain ⟨b1, hb1⟩ : ∃ b, b = okT a0_1 := ⟨_, rfl⟩
  rw [← hb1] at HV h
  clear hb1
  go_wp2_with fail
  refine (HV.out _).mono ?_
  rintro e w1x ⟨rfl, rfl⟩
  cases b1 with
  | false =>
   obtain rfl : r = false := by rw [← h]; simp [c3']
   clear h
   go_wp2
   go_ret
   exact ⟨rfl, HB1.out⟩
  | true =>
   simp only [c3', Bool.false_or, Bool.and_true] at h
   by_cases c5 : n2 ≤ 64
   case neg =>
    obtain rfl : r = false := by rw [← h]; simp [c5]
    clear h
    go_wp2
    go_ret
    exact ⟨rfl, HB1.out⟩
   go_wp2_with fail
   refine (H2.out _ HB1.out).mono ?_
   rintro e w2 ⟨rfl, hb⟩
   have p3 : w2.cell? ⟨w.heap.size, 3, none⟩ = some (.slice A0_3 n3 c0_3) := (hb.cell (p := ⟨w.heap.size, 3, none⟩) hs1).trans m3
   have HB2 := am (qA0 HB1.out HB1.out.size hb)
   clear hb m0 m1 m2 m3
   cases b2 with
   | false =>
    obtain rfl : r = false := by rw [← h]; simp
    clear h
    go_wp2
    go_ret
    exact ⟨rfl, HB2.out⟩
   | true =>
    by_cases c6 : n3 ≤ 4096
    case neg =>
     obtain rfl : r = false := by rw [← h]; simp [c6]
     clear h
     go_wp2
     go_ret
     exact ⟨rfl, HB2.out⟩
    obtain rfl : r = !b3 := by rw [← h]; simp [c1, c5, c6]
    clear h
    go_wp2_with fail
    refine (H3.out _ HB2.out).mono ?_
    rintro e w3 ⟨rfl, hb⟩
    have HB3 := am (qA0 HB2.out HB2.out.size hb)
    clear hb
    go_wp2
    go_ret
    exact ⟨rfl, HB3.out⟩
end Q
end
end Go.Proofs.YtfjpnjbinbhcfaaGreat
