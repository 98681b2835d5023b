/- CodeEncodes, where what it reads is of bulk at most 1048576: any instructions: the program's bytes and texts are the document's, or the same error. -/
import Derived.Test.YtfddibbignedkaaGreatDoorF2
import Derived.Lib.Builder
import Derived.Lib.AppendStr
import Derived.Lib.UnsafeStr
import Derived.Laws.Externs
import Derived.WalkKit
import Derived.Test.YtfddibbignedkaaGreatDoorRows
import Derived.Lib.LaidTab
import Derived.Test.YtfddibbignedkaaGreatDoorCards
import Derived.Test.YtfddibbignedkaaGreatDoorTie
import Derived.ProofKit
import Derived.OpenShut
import Derived.ShutString
import Derived.Below
import Derived.LaidMore
import Derived.Lay
import Derived.SevenTiedAt
import Derived.Stop.Joined
import Derived.MakeChecks
import Derived.JoinedCond
import Derived.Deep.DeepHandedRow
set_option maxHeartbeats 8000000
set_option maxRecDepth 100000
set_option linter.unusedVariables false
set_option linter.unusedSimpArgs false
namespace Go.Proofs.YtfddibbignedkaaGreatDoor
section
namespace Q
open Go.RowKit YA YC YB
namespace Bld
theorem sz : (Tryz.prog.info? 124).map (·.size) = some 2 := by kernel_rfl
theorem lies : liesAt Tryz.prog Tryz.prog.depth 124 (2 / Tryz.prog.cellsOf 124) 0 124 1 = true := by kernel_rfl
theorem cc_used (b : Nat) (w : World) (h0 : w.cell? ⟨b, 0, none⟩ = some (.pointer (some ⟨b, 0, none⟩))) : Calls Tryz.prog 81 #[.pointer (some ⟨b, 0, none⟩)] w fun e w' => e = .returned (.tuple #[]) ∧ w' = w := by
 obtain ⟨j, hj, _⟩ := Option.map_eq_some_iff.1 sz
 go_enter Tryz.func81, Tryz.ntmps81
 go_wp2
 rw [Lib.run_neq_ptr_same w _ Tryz.underlying122 hj]
 go_wp2
 go_end0
 exact ⟨rfl, rfl⟩
theorem cc_fresh (b : Nat) (w : World) (h0 : w.cell? ⟨b, 0, none⟩ = some (.pointer none)) (hsh : w.shape? b = some (124, 2)) (hfz : w.frozen? ⟨b, 0, none⟩ = false) :
  Calls Tryz.prog 81 #[.pointer (some ⟨b, 0, none⟩)] w fun e w' => e = .returned (.tuple #[]) ∧ w' = w.setCell ⟨b, 0, none⟩ (.pointer (some ⟨b, 0, none⟩)) := by
 obtain ⟨j, hj, hjs⟩ := Option.map_eq_some_iff.1 sz
 go_enter Tryz.func81, Tryz.ntmps81
 go_wp2
 rw [Lib.run_to_unsafe w ⟨b, 0, none⟩ Tryz.underlying122 Tryz.underlying187 hj (by rw [hjs]; decide) hsh (Nat.zero_lt_succ 1)]
 simp only [Result.andThen]
 rw [Oper.upon_value]
 go_wp2
 rw [run_callFunc_extern Tryz.func112 (by kernel_rfl) (by kernel_rfl) (by kernel_rfl) (e := Extern.AbiNoEscape.same) (by kernel_rfl)]
 rw [Lib.run_noEscape]
 simp only [Result.andThen]
 rw [Oper.upon_value]
 go_wp2
 rw [Lib.run_from_unsafe w ⟨b, 0, none⟩ Tryz.underlying187 Tryz.underlying122 hj hsh lies]
 simp only [Result.andThen]
 rw [Oper.upon_value]
 go_wp2
 go_end0
 exact ⟨rfl, rfl⟩
abbrev At (B b : Nat) (p : Value) (bs : List Value) (w : World) : Prop := Lib.BuilderAt 124 5 B b p bs w
abbrev Is (B b : Nat) (bs : List Value) (w : World) : Prop := Lib.IsBuilder 124 5 B b bs w
theorem cc_any (B b : Nat) (bs : List Value) (w : World) (h : Is B b bs w) : Calls Tryz.prog 81 #[.pointer (some ⟨b, 0, none⟩)] w fun e w' => e = .returned (.tuple #[]) ∧ (At B b (.pointer (some ⟨b, 0, none⟩)) bs w' ∧ Below B w w' ∧ ∀ (g : Nat) (cs : Array Value) (T : TypeId) (fr : Nat × Nat), g ≠ b → T ≠ 5 → w.heap[g]? = some (.cells cs T fr) → w'.heap[g]? = some (.cells cs T fr)) := by
 rcases h with h | h
 ·refine (cc_fresh b w h.cell0 h.shape h.frozen0).mono ?_
  rintro e w' ⟨rfl, rfl⟩
  exact ⟨rfl, h.used _, (Below.refl B w).setCell (p := ⟨b, 0, none⟩) h.1 _, fun g cs T fr hg _ hh => by rw [Below.heap_setCell _ _ _ _ (fun e => hg e)]; exact hh⟩
 refine (cc_used b w h.cell0).mono ?_
 rintro e w' ⟨rfl, rfl⟩
 exact ⟨rfl, h, Below.refl B _, fun _ _ _ _ _ _ hh => hh⟩
theorem write_any (B b : Nat) (bs : List Value) (s : ByteArray) (w : World) (h : Is B b bs w) (hlen : bs.length + s.size ≤ 140737488355328) (hBw : B ≤ w.heap.size) :
  Calls Tryz.prog 60 #[.pointer (some ⟨b, 0, none⟩), .string s] w fun e w' => e = .returned (.tuple #[.int .i64 s.size, .nilIface]) ∧ (At B b (.pointer (some ⟨b, 0, none⟩)) (bs ++ Lib.strCells s) w' ∧ Below B w w' ∧ ∀ (g : Nat) (cs : Array Value) (T : TypeId) (fr : Nat × Nat), g ≠ b → T ≠ 5 → w.heap[g]? = some (.cells cs T fr) → w'.heap[g]? = some (.cells cs T fr)) := by
 obtain ⟨i0, hi, hzz⟩ := Option.map_eq_some_iff.1 qDg
 simp only [Prod.mk.injEq] at hzz
 obtain ⟨hz0, hz1, hz2⟩ := hzz
 go_enter Tryz.func60, Tryz.ntmps60
 go_wp2_with (go_at_call 81; refine (cc_any B b bs _ h).mono ?_)
 rintro e w1 ⟨rfl, h1, hb1, hk1⟩
 obtain ⟨hB, v, hbk, hown, hne⟩ := h1
 have c0 : w1.cell? ⟨b, 0, none⟩ = some (.pointer (some ⟨b, 0, none⟩)) := by rw [Lib.cell_of_heap hbk]; rfl
 have c1 : w1.cell? ⟨b, 1, none⟩ = some v := by rw [Lib.cell_of_heap hbk]; rfl
 go_wp2_with (at_builtin; refine Lib.wpList_append_own_string _ rfl _ _ 53 9 rfl B 5 i0 Tryz.underlying53 Tryz.underlying9 hi hz0 hz1 hz2 _ _ _ rfl hown s rfl ?c3 ?c4 ?c5 ?_)
 case c3 => unfold maxLen; omega
 case c4 => omega
 case c5 => have := hb1.size; omega
 intro v' w2 hown' hgrow _
 have hlt : b < w1.heap.size := by
  rcases Nat.lt_or_ge b w1.heap.size with h' | h'
  ·exact h'
  simp [Array.getElem?_eq_none h'] at hbk
 have hb2 : w2.heap[b]? = some (.cells #[.pointer (some ⟨b, 0, none⟩), v] 124 (0, 0)) := by
  rw [hgrow.block b hlt (fun e => hne e.symm)]
  exact hbk
 have d0 : w2.cell? ⟨b, 0, none⟩ = some (.pointer (some ⟨b, 0, none⟩)) := by rw [Lib.cell_of_heap hb2]; rfl
 have d1 : w2.cell? ⟨b, 1, none⟩ = some v := by rw [Lib.cell_of_heap hb2]; rfl
 have f1 : w2.frozen? ⟨b, 1, none⟩ = false := Lib.frozen_of_heap hb2 1
 obtain ⟨ao, n', cap, rfl⟩ : ∃ ao n' cap, v' = .slice ao n' cap := by
  rcases hown'.2 with ⟨hv, _⟩ | ⟨g, cap, cur, hv, _⟩
  ·exact ⟨_, _, _, hv⟩
  exact ⟨_, _, _, hv⟩
 go_wp2
 go_ret2
 refine ⟨rfl, ?_, ?_, fun g cs T fr hg hT hh => ?_⟩
 ·exact Lib.BuilderAt.put hB hb2 (bs' := bs ++ Lib.strCells s) (by simpa [Lib.strCells_length] using hown') (by decide)
 ·exact (hb1.grown hgrow (by have := hb1.size; omega) (fun k hk => (hown.lt k hk).1)).setCell (p := ⟨b, 1, none⟩) hB _
 ·rw [Below.heap_setCell _ _ _ _ (fun e => hg e)]
  have hh1 := hk1 g cs T fr hg hT hh
  have hgl : g < w1.heap.size := (Array.getElem?_eq_some_iff.1 hh1).1
  rw [hgrow.block g hgl (fun e => ?_)]
  ·exact hh1
  ·obtain ⟨_, h2⟩ := hown
   rcases h2 with ⟨hv, _⟩ | ⟨g', cap', cur, hv, _, hc, _⟩
   ·rw [hv] at e; cases e
   ·rw [hv] at e
    injection e with e
    have e : g = g' := e
    subst e
    rw [hh1] at hc
    injection hc with hc
    injection hc with _ hc
    exact hT hc
theorem Is.below {B b : Nat} {bs : List Value} {w w' : World} (h : Is B b bs w) (hb : Below w.heap.size w w') : Is B b bs w' := by
 have one : ∀ {p}, At B b p bs w → At B b p bs w' := fun {p} h => by
  obtain ⟨hB, v, hbk, hown, hne⟩ := h
  have hlt : b < w.heap.size := (Array.getElem?_eq_some_iff.1 hbk).1
  refine ⟨hB, v, by rw [hb.block b hlt]; exact hbk, ?_, hne⟩
  obtain ⟨h1, h2⟩ := hown
  refine ⟨h1, h2.imp id fun ⟨g, cap, cur, e1, e2, e3, e4⟩ => ⟨g, cap, cur, e1, e2, ?_, e4⟩⟩
  have hg : g < w.heap.size := (Array.getElem?_eq_some_iff.1 e3).1
  rw [hb.block g hg]; exact e3
 exact h.imp one one
end Bld
end Q
end
section
namespace Q
open Go.RowKit YA YC YB
open Val Ins Q.Flt
namespace Txs
def rowB (k : Nat) (op n t b : Int) : ByteArray := itoB (k : Int) ++ ⟨#[32]⟩ ++ qBR op n t b ++ ⟨#[10]⟩
def txs (l : List S51) : List UInt8 := (l.zipIdx.map fun p => (rowB p.2 p.1.f0 p.1.f1 p.1.f2.f0 p.1.f2.f1).data.toList).flatten
theorem txs_take (l : List S51) (k : Nat) (x : S51) (h : l[k]? = some x) : txs (l.take (k + 1)) = txs (l.take k) ++ (rowB k x.f0 x.f1 x.f2.f0 x.f2.f1).data.toList := by
 unfold txs
 have hk : k < l.length := (List.getElem?_eq_some_iff.1 h).1
 have e : l.take (k + 1) = l.take k ++ [x] := by
  rw [List.take_add_one, h]; rfl
 rw [e, List.zipIdx_append, List.map_append, List.flatten_append]
 congr 1
 simp [List.length_take, Nat.min_eq_left (Nat.le_of_lt hk)]
theorem qDv (op n t b : Int) : (qBR op n t b).size ≤ 130 := by
 cases h : okI op n t b with
 | false => rw [textI_no h]; decide
 | true =>
  obtain ⟨h1, h2, h6, h7, h8, h9⟩ := qDk h
  have n1 := qCD op
  have n2 := qCG t b
  unfold qBR
  rw [if_pos h]
  have two : ∀ a c : ByteArray, a.size ≤ 10 → c.size ≤ 100 → (a ++ ⟨#[32]⟩ ++ c).size ≤ 130 := fun a c h k => by
   rw [ByteArray.size_append, ByteArray.size_append]
   show _ + 1 + _ ≤ _
   omega
  split
  ·exact two _ _ (qCD 1) n2
  split
  ·rename_i o6
   have := h6 o6
   obtain ⟨m, rfl⟩ := Int.eq_ofNat_of_zero_le h8
   have := unB_size m (by omega) (by omega)
   exact two _ _ (qCD 6) (by omega)
  split
  ·rename_i o7
   have := h7 o7
   obtain ⟨m, rfl⟩ := Int.eq_ofNat_of_zero_le h8
   have := biB_size m (by omega) (by omega)
   exact two _ _ (qCD 7) (by omega)
  split
  ·have := qB6 n (by omega) (by omega)
   exact two _ _ n1 (by omega)
  omega
theorem row_size (k : Nat) (hk : k ≤ 2000000) (op n t b : Int) : (rowB k op n t b).size ≤ 160 := by
 unfold rowB
 have h1 := qB6 (k : Int) (by omega) (by omega)
 have h2 := qDv op n t b
 rw [ByteArray.size_append, ByteArray.size_append, ByteArray.size_append]
 show _ + 1 + _ + 1 ≤ _
 omega
theorem txs_len (l : List S51) (hl : l.length ≤ 2000000) : ∀ k, k ≤ l.length → (txs (l.take k)).length ≤ k * 160
 | 0, _ => by rw [List.take_zero]; exact Nat.le_refl _
 | k + 1, h => by
  have ih := txs_len l hl k (by omega)
  have hx : l[k]? = some l[k] := List.getElem?_eq_getElem (by omega)
  rw [txs_take l k _ hx, List.length_append]
  have := row_size k (by omega) l[k].f0 l[k].f1 l[k].f2.f0 l[k].f2.f1
  have e : ∀ s : ByteArray, s.data.toList.length = s.size := fun s => Array.length_toList
  rw [e]
  omega
theorem texts_any (A : Option Addr) (c : Nat) (l : List S51) (w : World) (hr : Kd.C k51 w A l.length l) (hu : ∀ x ∈ l, U64 x.f2.f1) (hl : l.length ≤ 2000000) (hT : Tb w) :
  Calls Tryz.prog 37 #[.slice A l.length c] w fun e w' => e = .returned (.string ⟨(txs l).toArray⟩) ∧ Below w.heap.size w w' := by
 have HR := am hr
 have HU := am hu
 have HL := am hl
 have HT := am (fun W (hb : Below w.heap.size w W) => hT.below hb)
 have HF := am (Lib.fresh_isBuilder 124 5 w)
 obtain ⟨N0, hN0⟩ : ∃ N0, N0 = w.heap.size := ⟨_, rfl⟩
 obtain ⟨L, hL⟩ : ∃ L, L = l.length := ⟨_, rfl⟩
 rw [← hL] at HR HL ⊢
 have HLL := am hL
 have hst := am ((Below.refl w.heap.size w).alloc (Nat.le_refl _) (.cells #[.pointer none, .slice none 0 0] 124))
 have HN0 := am hN0
 clear hr hu hl hT hL
 go_enter Tryz.func37, Tryz.ntmps37
 go_wp2
 go_loopw [8] (fun i wr => ∃ k : Nat, k ≤ L ∧ i = .int .i64 (k : Int) ∧ qAi (Bld.Is w.heap.size w.heap.size (Lib.byteCells (txs (l.take k))) wr) ∧ qAi (Below w.heap.size w wr)) (fun i _ => (L - intOf i).toNat)
 case atStart => exact ⟨0, Nat.zero_le _, rfl, ⟨by simpa [txs, Lib.byteCells] using HF.out⟩, hst⟩
 case round =>
  clear hst HF
  obtain ⟨k, hk, rfl, HI, HB⟩ := hrel
  by_cases hlt : k < L
  rotate_left
  ·have hkL : k = L := by omega
   have hke : l.take k = l := by rw [hkL, HLL.out]; exact List.take_length
   rw [hke] at HI
   have hst := am (fun W (h : Bld.Is w.heap.size w.heap.size (Lib.byteCells (txs l)) W) (hb : w.heap.size ≤ W.heap.size) => Tryz.Builder_String_any w.heap.size w.heap.size (txs l) W h hb)
   go_wp2_with (go_at_call 61; refine (hst.out _ HI.out HB.out.size).mono ?_; rintro e w1 ⟨rfl, hb1⟩)
   go_ret
   exact ⟨rfl, HB.out.trans hb1⟩
  have hx : l[k]? = some (qAl l (k : Int)) := by
   unfold qAl
   rw [List.getD_eq_getElem?_getD, Int.toNat_natCast, List.getElem?_eq_getElem (by have := HLL.out; omega)]; rfl
  obtain ⟨ad, rfl, g0, g1, g2, g3⟩ := qBn (Kd.C_below HR.out HB.out) (k : Int) (by omega) (by omega)
  obtain ⟨x, hxx⟩ : ∃ x, x = qAl l (k : Int) := ⟨_, rfl⟩
  rw [← hxx] at hx g0 g1 g2 g3
  rw [Int.toNat_natCast] at g0 g1 g2 g3
  have hux := HU.out x (List.mem_of_getElem? hx)
  have htk := txs_take l k x hx
  have hrs := row_size k (by have := HL.out; omega) x.f0 x.f1 x.f2.f0 x.f2.f1
  have hts := qDv x.f0 x.f1 x.f2.f0 x.f2.f1
  have htl := txs_len l (by have := HL.out; have := HLL.out; omega) k (by have := HLL.out; omega)
  have hks := qB6 (k : Int) (by omega) (by have := HL.out; omega)
  have htx := fun W (hT : Tb W) => qCf.calls x.f0 x.f1 x.f2.f0 x.f2.f1 (qBR x.f0 x.f1 x.f2.f0 x.f2.f1) W (if_pos hux) hT
  have hit := fun W (hT : Tb W) => ((Tryz.strconv_Itoa (k : Int) (by omega) (by have := HL.out; omega) W hT.ten).mono fun e w' ⟨h1, k_, os_, h2⟩ => (⟨h1, by rw [h2]; exact Lib.below_grow _ _ (Nat.le_refl _) _ _⟩ : e = Ending.returned (.string (itoB (k : Int))) ∧ Below W.heap.size W w'))
  obtain ⟨op, hop⟩ : ∃ y, y = x.f0 := ⟨_, rfl⟩
  obtain ⟨n, hn⟩ : ∃ y, y = x.f1 := ⟨_, rfl⟩
  obtain ⟨ty, hty⟩ : ∃ y, y = x.f2.f0 := ⟨_, rfl⟩
  obtain ⟨bb, hbb⟩ : ∃ y, y = x.f2.f1 := ⟨_, rfl⟩
  rw [← hop, ← hn, ← hty, ← hbb] at htk hrs hts htx
  rw [← hop] at g0
  rw [← hn] at g1
  rw [← hty] at g2
  rw [← hbb] at g3
  clear hop hn hty hbb hxx hux hx
  unfold rowB at htk hrs
  obtain ⟨sk, hsk⟩ : ∃ s, s = itoB (k : Int) := ⟨_, rfl⟩
  obtain ⟨tx, htxx⟩ : ∃ s, s = qBR op n ty bb := ⟨_, rfl⟩
  rw [← hsk] at htk hrs hit hks
  rw [← htxx] at htk hrs hts htx
  have HTK := am htk
  have HIT := am hit
  have HTX := am htx
  have HWL := am (show (Lib.byteCells (txs (l.take k))).length + (sk ++ ⟨#[32]⟩ ++ tx ++ ⟨#[10]⟩).size ≤ 140737488355328 from by rw [Lib.byteCells_length]; have := HL.out; omega)
  have hz1 : sk.size + 1 ≤ 9223372036854775807 := by omega
  have hz2 : (9223372036854775807 < sk.size + 1) = False := eq_false (by omega)
  have hz3 : sk.size + 1 + tx.size ≤ 9223372036854775807 := by omega
  have hz4 : (9223372036854775807 < sk.size + 1 + tx.size) = False := eq_false (by omega)
  have hz5 : sk.size + 1 + tx.size + 1 ≤ 9223372036854775807 := by omega
  have hz6 : (9223372036854775807 < sk.size + 1 + tx.size + 1) = False := eq_false (by omega)
  have hk1 : IntKind.i64.wrap ((k : Int) + 1) = ((k + 1 : Nat) : Int) := (qAo _).trans ((qB1 (by omega) (by have := HL.out; omega)).trans (by omega))
  clear htk hrs hts htl hks htx hit hsk htxx
  go_upto_region 5 with (fail)
  obtain ⟨N, hN⟩ : ∃ N, N = wr.heap.size := ⟨_, rfl⟩
  obtain ⟨W2, hW2⟩ : ∃ W2, W2 = wr.alloc (.cells #[.int .i64 op, .int .i64 n, .int .i64 ty, .int .u64 bb] 51) := ⟨_, rfl⟩
  have bk2 : W2.heap[N]? = some (.cells #[.int .i64 op, .int .i64 n, .int .i64 ty, .int .u64 bb] 51 (0, 0)) := by rw [hW2, hN]; exact qAF wr _
  have HI2 := am (show Bld.Is w.heap.size w.heap.size (Lib.byteCells (txs (l.take k))) W2 from by rw [hW2]; exact HI.out.below ((Below.refl _ _).alloc (Nat.le_refl _) _))
  have HB2 := am (show Below w.heap.size w W2 from by rw [hW2]; exact HB.out.alloc HB.out.size _)
  have HNE := am (show N ≠ w.heap.size from by rw [hN]; intro e; have hI := HI.out; have : w.heap.size < wr.heap.size := hI.elim (fun h => h.lt) (fun h => h.lt); omega)
  rw [← hW2, ← hN]
  clear hW2 hN g0 g1 g2 g3 HI HB
  refine wp_region_noPanic ?_
  refine wp_region_held_drew (S := fun W' => W'.cell? ⟨N, 0, none⟩ = some (.int .i64 op) ∧ W'.cell? ⟨N, 1, none⟩ = some (.int .i64 n) ∧ W'.cell? ⟨N, 2, none⟩ = some (.int .i64 ty) ∧ W'.cell? ⟨N, 3, none⟩ = some (.int .u64 bb)) (by kernel_rfl) ⟨(qAc bk2 0).trans rfl, (qAc bk2 1).trans rfl, (qAc bk2 2).trans rfl, (qAc bk2 3).trans rfl⟩ (fun hHeld => ?_)
  refine wpAnyH_take (i := 0) (oi := _) (v := ?_) rfl (by kernel_rfl) (by kernel_rfl) (by kernel_rfl) (fun _ _ _ h => h) (Or.inl ⟨by rfl, ?_⟩) (by assumption) ?_
  rotate_left
  ·intro w hSw; (try dsimp only at hSw); go_simp <;> with_reducible rfl
  simp only [Act.put, List.getElem_toArray, List.getElem_cons_zero, List.getElem_cons_succ, List.setIfInBounds_toArray, List.set_cons_zero, List.set_cons_succ]
  refine wpAnyH_take (i := 3) (oi := _) (v := ?_) rfl (by kernel_rfl) (by kernel_rfl) (by kernel_rfl) (fun _ _ _ h => h) (Or.inl ⟨by rfl, ?_⟩) (by assumption) ?_
  rotate_left
  ·intro w hSw; (try dsimp only at hSw); go_simp <;> with_reducible rfl
  simp only [Act.put, List.getElem_toArray, List.getElem_cons_zero, List.getElem_cons_succ, List.setIfInBounds_toArray, List.set_cons_zero, List.set_cons_succ]
  refine wpAnyH_ready (rs := [1]) (by kernel_rfl) (by simp) ?_
  refine AllReadyH.cons (o := _) rfl (fun K hK => ?_) AllReadyH.nil
  go_simp
  go_at_call 49
  refine (HIT.out W2.drew (HT.out _ HB2.out.drew)).mono ?_
  rintro e w4 ⟨rfl, hb4⟩
  have bk4 := qAs (qB4 bk2) hb4
  refine hK.out _ _ ⟨(qAc bk4 0).trans rfl, (qAc bk4 1).trans rfl, (qAc bk4 2).trans rfl, (qAc bk4 3).trans rfl⟩ (fun hHeld => ?_)
  clear hK K
  try simp only [Act.put, List.getElem_toArray, List.getElem_cons_zero, List.getElem_cons_succ, List.setIfInBounds_toArray, List.set_cons_zero, List.set_cons_succ]
  refine wpAnyH_take (i := 2) (oi := _) (v := ?_) rfl (by kernel_rfl) (by kernel_rfl) (by kernel_rfl) (fun _ _ _ h => h) (Or.inl ⟨by rfl, ?_⟩) (by assumption) ?_
  rotate_left
  ·intro w hSw; (try dsimp only at hSw); go_simp <;> with_reducible rfl
  simp only [Act.put, List.getElem_toArray, List.getElem_cons_zero, List.getElem_cons_succ, List.setIfInBounds_toArray, List.set_cons_zero, List.set_cons_succ]
  refine wpAnyH_ready (rs := [4]) (by kernel_rfl) (by simp) ?_
  refine AllReadyH.cons (o := _) rfl (fun K hK => ?_) AllReadyH.nil
  go_simp
  go_at_call 20
  refine (HTX.out w4 (HT.out _ (HB2.out.drew.trans (hb4.mono HB2.out.size)))).mono ?_
  rintro e w5 ⟨rfl, hb5⟩
  have bk5 := qAs bk4 hb5
  refine hK.out _ _ ⟨(qAc bk5 0).trans rfl, (qAc bk5 1).trans rfl, (qAc bk5 2).trans rfl, (qAc bk5 3).trans rfl⟩ (fun hHeld => ?_)
  clear hK K
  try simp only [Act.put, List.getElem_toArray, List.getElem_cons_zero, List.getElem_cons_succ, List.setIfInBounds_toArray, List.set_cons_zero, List.set_cons_succ]
  refine wpAnyH_take (i := 5) (oi := _) (v := ?_) rfl (by kernel_rfl) (by kernel_rfl) (by kernel_rfl) (fun _ _ _ h => h) (Or.inl ⟨by rfl, ?_⟩) (by assumption) ?_
  rotate_left
  ·intro w hSw; (try dsimp only at hSw); go_simp <;> with_reducible rfl
  simp only [Act.put, List.getElem_toArray, List.getElem_cons_zero, List.getElem_cons_succ, List.setIfInBounds_toArray, List.set_cons_zero, List.set_cons_succ]
  refine wpAnyH_take (i := 6) (oi := _) (v := ?_) rfl (by kernel_rfl) (by kernel_rfl) (by kernel_rfl) (fun _ _ _ h => h) (Or.inl ⟨by rfl, ?_⟩) (by assumption) ?_
  rotate_left
  ·intro w hSw; (try dsimp only at hSw); go_simp <;> with_reducible rfl
  simp only [Act.put, List.getElem_toArray, List.getElem_cons_zero, List.getElem_cons_succ, List.setIfInBounds_toArray, List.set_cons_zero, List.set_cons_succ]
  refine wpAnyH_ready (rs := [7]) (by kernel_rfl) (by simp) ?_
  refine AllReadyH.cons (o := _) rfl (fun K hK => ?_) AllReadyH.nil
  go_simp
  go_at_call 60
  have HI5 := Bld.Is.below (w := W2.drew) HI2.out (hb4.trans (hb5.mono hb4.size))
  have hsz5 : w5.heap.size ≥ w.heap.size := Nat.le_trans HB2.out.size (Nat.le_trans hb4.size hb5.size)
  refine (Bld.write_any _ _ _ _ _ HI5 HWL.out hsz5).mono ?_
  rintro e w6 ⟨rfl, h6, hb6, hk6⟩
  have bk6 := hk6 N _ _ _ HNE.out (by decide) bk5
  refine hK.out _ _ ⟨(qAc bk6 0).trans rfl, (qAc bk6 1).trans rfl, (qAc bk6 2).trans rfl, (qAc bk6 3).trans rfl⟩ (fun hHeld => ?_)
  clear hK K
  try simp only [Act.put, List.getElem_toArray, List.getElem_cons_zero, List.getElem_cons_succ, List.setIfInBounds_toArray, List.set_cons_zero, List.set_cons_succ]
  refine wpAnyH_done (by kernel_rfl) ?_ _
  refine NoPanic.normal ?_
  have HI6 := am (show Bld.Is w.heap.size w.heap.size (Lib.byteCells (txs (l.take (k + 1)))) w6 from by rw [HTK.out, Lib.byteCells_append]; exact .inr h6)
  have HB6 := am ((HB2.out.drew.trans ((hb4.trans (hb5.mono hb4.size)).mono HB2.out.size)).trans hb6)
  go_wp2
  go_roundw
  case rel => exact ⟨k + 1, by omega, by first | rfl | simp, HI6, HB6⟩
  case measure => simp only [intOf]; omega
end Txs
end Q
end
section
namespace Q
open Go.RowKit YA YC YB
open Val Ins Enc Q.Flt
namespace Txs
def ofJ (x : S50) : S51 := ⟨x.f0, x.f1, x.f2⟩
theorem qDs {P : Program} {w : World} {ops : Array Oper} {o : Oper} {a : Act} {K : Act → World → Prop} {Q : Exit → Act → World → Prop} {E : Prop} (hgd : o.guard = none) (sl x : Operand) (t u : TypeId)
  (ho : o.op = .call { callee := .builtin .append, args := #[sl, x], argTypes := #[t, u] })
  (base : Nat) (e : TypeId) (i : TypeInfo) (ht : P.underlying t = some (.slice e)) (hu : P.underlying u = some .string) (hi : P.info? e = some i) (hz : i.zero = some (.int .u8 0)) (hsize : i.size = 1) (hby : i.bytes = 1)
  (v : Value) (n : Nat) (xs : List Value) (hs : a.eval sl = v) (hown : w.ownsRow base e 1 v n xs) (s : ByteArray) (hx : a.eval x = .string s) (h63 : n + s.size ≤ maxLen) (hbytes : n + s.size ≤ 140737488355328) (hbase : base ≤ w.heap.size)
  (h : ∀ v' w', w'.ownsRow base e 1 v' (n + s.size) (xs ++ Lib.strCells s) → w.grownBy w' v.ownBlock → K (a.put o.dst v') w') :
  if Region.wanted o (yielded ops a.tmps) = true then Oper.wp P o a w K Q else E := by
 have hw : Region.wanted o (yielded ops a.tmps) = true := by simp [Region.wanted, hgd]
 rw [if_pos hw]
 obtain ⟨v', w', hr, h2, h3, _⟩ := Lib.run_append_own_string (P := P) w base t u o.type e i ht hu hi hz hsize hby v n xs hown s h63 hbytes hbase
 unfold Oper.wp execOp
 simp only [ho, resolve, invoke, builtin, Sem.run_bind, Sem.run_pure, Result.andThen_ok, List.map_toArray, List.map_cons, List.map_nil, hs, hx, hr]
 exact h v' w' h2 h3
theorem rtexts_any (A : Option Addr) (c : Nat) (l : List S50) (w : World) (hr : Kd.C k50 w A l.length l) (hu : ∀ x ∈ l, U64 x.f2.f1) (hl : l.length ≤ 2000000) :
  Calls Tryz.prog 38 #[.slice A l.length c] w fun e w' => e = .returned (.string ⟨(txs (l.map ofJ)).toArray⟩) ∧ Below w.heap.size w w' := by
 have HR := am hr
 have HU := am hu
 have HL := am hl
 obtain ⟨L, hL⟩ : ∃ L, L = l.length := ⟨_, rfl⟩
 rw [← hL] at HR HL ⊢
 have HLL := am hL
 obtain ⟨i0, hi, hzz⟩ := Option.map_eq_some_iff.1 qDg
 simp only [Prod.mk.injEq] at hzz
 obtain ⟨hz0, hz1, hz2⟩ := hzz
 clear hr hu hl hL
 go_enter Tryz.func38, Tryz.ntmps38
 go_wp2
 go_loopw [3, 4] (fun v i wr => ∃ k : Nat, k ≤ L ∧ i = .int .i64 (k : Int) ∧ qAi (wr.ownsRow w.heap.size 5 1 v (txs ((l.take k).map ofJ)).length (Lib.byteCells (txs ((l.take k).map ofJ)))) ∧ qAi (Below w.heap.size w wr)) (fun _ i _ => (L - intOf i).toNat)
 case atStart => exact ⟨0, Nat.zero_le _, rfl, ⟨by simpa [txs, Lib.byteCells] using World.ownsRow_nil _ _ _ _⟩, ⟨Below.refl _ _⟩⟩
 case round =>
  obtain ⟨k, hk, rfl, HO, HB⟩ := hrel
  by_cases hlt : k < L
  rotate_left
  ·have hkL : k = L := by omega
   have hke : (l.take k).map ofJ = l.map ofJ := by rw [hkL, HLL.out, List.take_length]
   rw [hke] at HO
   have hss := qBl (xs := (txs (l.map ofJ)).map fun b => ((b.toNat : Nat) : Int)) Tryz.underlying53 Tryz.underlying5 Tryz.underlying9 (by have := HO.out; unfold nums; rw [List.map_map]; exact this)
   have hst : strOfNums ((txs (l.map ofJ)).map fun b => ((b.toNat : Nat) : Int)) = ⟨(txs (l.map ofJ)).toArray⟩ := by
    unfold strOfNums
    congr 2
    rw [List.map_map]
    conv => rhs; rw [← List.map_id (txs (l.map ofJ))]
    apply List.map_congr_left
    intro b _
    simp
   rw [hst] at hss
   clear hke hst
   go_wp2_with fail
   go_ret
   exact ⟨rfl, HB.out⟩
  have hx : l[k]? = some (qAu l (k : Int)) := by
   unfold qAu
   rw [List.getD_eq_getElem?_getD, Int.toNat_natCast, List.getElem?_eq_getElem (by have := HLL.out; omega)]; rfl
  obtain ⟨ad, rfl, g0, g1, g2, g3⟩ := qBE HR.out (k : Int) (by omega) (by omega)
  obtain ⟨x, hxx⟩ : ∃ x, x = qAu l (k : Int) := ⟨_, rfl⟩
  rw [← hxx] at hx g0 g1 g2 g3
  rw [Int.toNat_natCast] at g0 g1 g2 g3
  have hux := HU.out x (List.mem_of_getElem? hx)
  have hmx : (l.map ofJ)[k]? = some (ofJ x) := by rw [List.getElem?_map, hx]; rfl
  have htk := txs_take (l.map ofJ) k (ofJ x) hmx
  rw [← List.map_take, ← List.map_take] at htk
  have hrs := row_size k (by have := HL.out; omega) x.f0 x.f1 x.f2.f0 x.f2.f1
  have hts := qDv x.f0 x.f1 x.f2.f0 x.f2.f1
  have htl := txs_len (l.map ofJ) (by rw [List.length_map]; have := HL.out; have := HLL.out; omega) k (by rw [List.length_map]; have := HLL.out; omega)
  rw [← List.map_take] at htl
  have hks := qB6 (k : Int) (by omega) (by have := HL.out; omega)
  have htx := fun W => qBk.calls x.f0 x.f1 x.f2.f0 x.f2.f1 (qBR x.f0 x.f1 x.f2.f0 x.f2.f1) W (if_pos hux)
  obtain ⟨kd, hkd⟩ := (rdec_ev (k : Int) (by omega) (by have := HL.out; omega)).rounds
  have hit := fun W => qAh.calls kd (k : Int) (itoB (k : Int)) W hkd
  have htk : txs ((l.take (k + 1)).map ofJ) = txs ((l.take k).map ofJ) ++ (rowB k x.f0 x.f1 x.f2.f0 x.f2.f1).data.toList := htk
  clear hmx hkd
  obtain ⟨op, hop⟩ : ∃ y, y = x.f0 := ⟨_, rfl⟩
  obtain ⟨n, hn⟩ : ∃ y, y = x.f1 := ⟨_, rfl⟩
  obtain ⟨ty, hty⟩ : ∃ y, y = x.f2.f0 := ⟨_, rfl⟩
  obtain ⟨bb, hbb⟩ : ∃ y, y = x.f2.f1 := ⟨_, rfl⟩
  rw [← hop, ← hn, ← hty, ← hbb] at htk hrs hts htx
  rw [← hop] at g0
  rw [← hn] at g1
  rw [← hty] at g2
  rw [← hbb] at g3
  clear hop hn hty hbb hxx hux hx
  unfold rowB at htk hrs
  obtain ⟨sk, hsk⟩ : ∃ s, s = itoB (k : Int) := ⟨_, rfl⟩
  obtain ⟨tx, htxx⟩ : ∃ s, s = qBR op n ty bb := ⟨_, rfl⟩
  rw [← hsk] at htk hrs hit hks
  rw [← htxx] at htk hrs hts htx
  have hsl : (sk ++ ⟨#[32]⟩ ++ tx ++ ⟨#[10]⟩).data.toList.length = (sk ++ ⟨#[32]⟩ ++ tx ++ ⟨#[10]⟩).size := Array.length_toList
  have HTK := am htk
  have HIT := am hit
  have HTX := am htx
  have HWL := am (show (txs ((l.take k).map ofJ)).length + (sk ++ ⟨#[32]⟩ ++ tx ++ ⟨#[10]⟩).size ≤ 140737488355328 from by have := HL.out; omega)
  have hz1' : sk.size + 1 ≤ 9223372036854775807 := by omega
  have hz2' : (9223372036854775807 < sk.size + 1) = False := eq_false (by omega)
  have hz3' : sk.size + 1 + tx.size ≤ 9223372036854775807 := by omega
  have hz4' : (9223372036854775807 < sk.size + 1 + tx.size) = False := eq_false (by omega)
  have hz5' : sk.size + 1 + tx.size + 1 ≤ 9223372036854775807 := by omega
  have hz6' : (9223372036854775807 < sk.size + 1 + tx.size + 1) = False := eq_false (by omega)
  have hk1 : IntKind.i64.wrap ((k : Int) + 1) = ((k + 1 : Nat) : Int) := (qAo _).trans ((qB1 (by omega) (by have := HL.out; omega)).trans (by omega))
  have hki : (k : Int) < (L : Int) := by omega
  have hk0 : 0 ≤ (k : Int) := by omega
  clear htk hrs hts htl hks htx hit hsk htxx
  have hBd : Below w.heap.size w wr.drew := HB.out.drew
  go_upto_region 5 with (fail)
  obtain ⟨v, hv⟩ : ∃ v, v = u3 := ⟨_, rfl⟩
  rw [← hv] at HO ⊢
  clear hv
  refine wp_region_noPanic ?_
  refine wp_region_held_drew (S := fun W' => W'.cell? (ad.add (k * 4)) = some (.int .i64 op) ∧ W'.cell? ⟨(ad.add (k * 4)).block, (ad.add (k * 4)).off + 1, none⟩ = some (.int .i64 n) ∧ W'.cell? ⟨(ad.add (k * 4)).block, (ad.add (k * 4)).off + 2, none⟩ = some (.int .i64 ty) ∧ W'.cell? ⟨(ad.add (k * 4)).block, (ad.add (k * 4)).off + 3, none⟩ = some (.int .u64 bb)) (by kernel_rfl) ⟨(hBd.cell (World.block_lt_of_cell? _ _ g0)).trans g0, (hBd.cell (World.block_lt_of_cell? _ _ g1)).trans g1, (hBd.cell (World.block_lt_of_cell? _ _ g2)).trans g2, (hBd.cell (World.block_lt_of_cell? _ _ g3)).trans g3⟩ (fun hHeld => ?_)
  refine wpAnyH_take (i := 0) (oi := _) (v := ?_) rfl (by kernel_rfl) (by kernel_rfl) (by kernel_rfl) (fun _ _ _ h => h) (Or.inl ⟨by rfl, ?_⟩) (by assumption) ?_
  rotate_left
  ·intro w hSw; (try dsimp only at hSw); go_simp <;> with_reducible rfl
  simp only [Act.put, List.getElem_toArray, List.getElem_cons_zero, List.getElem_cons_succ, List.setIfInBounds_toArray, List.set_cons_zero, List.set_cons_succ]
  refine wpAnyH_take (i := 1) (oi := _) (v := ?_) rfl (by kernel_rfl) (by kernel_rfl) (by kernel_rfl) (fun _ _ _ h => h) (Or.inl ⟨by rfl, ?_⟩) (by assumption) ?_
  rotate_left
  ·intro w hSw; (try dsimp only at hSw); go_simp <;> with_reducible rfl
  simp only [Act.put, List.getElem_toArray, List.getElem_cons_zero, List.getElem_cons_succ, List.setIfInBounds_toArray, List.set_cons_zero, List.set_cons_succ]
  refine wpAnyH_take (i := 4) (oi := _) (v := ?_) rfl (by kernel_rfl) (by kernel_rfl) (by kernel_rfl) (fun _ _ _ h => h) (Or.inl ⟨by rfl, ?_⟩) (by assumption) ?_
  rotate_left
  ·intro w hSw; (try dsimp only at hSw); go_simp <;> with_reducible rfl
  simp only [Act.put, List.getElem_toArray, List.getElem_cons_zero, List.getElem_cons_succ, List.setIfInBounds_toArray, List.set_cons_zero, List.set_cons_succ]
  refine wpAnyH_take (i := 5) (oi := _) (v := ?_) rfl (by kernel_rfl) (by kernel_rfl) (by kernel_rfl) (fun _ _ _ h => h) (Or.inl ⟨by rfl, ?_⟩) (by assumption) ?_
  rotate_left
  ·intro w hSw; (try dsimp only at hSw); go_simp <;> with_reducible rfl
  simp only [Act.put, List.getElem_toArray, List.getElem_cons_zero, List.getElem_cons_succ, List.setIfInBounds_toArray, List.set_cons_zero, List.set_cons_succ]
  refine wpAnyH_take (i := 6) (oi := _) (v := ?_) rfl (by kernel_rfl) (by kernel_rfl) (by kernel_rfl) (fun _ _ _ h => h) (Or.inl ⟨by rfl, ?_⟩) (by assumption) ?_
  rotate_left
  ·intro w hSw; (try dsimp only at hSw); go_simp <;> with_reducible rfl
  simp only [Act.put, List.getElem_toArray, List.getElem_cons_zero, List.getElem_cons_succ, List.setIfInBounds_toArray, List.set_cons_zero, List.set_cons_succ]
  refine wpAnyH_take (i := 7) (oi := _) (v := ?_) rfl (by kernel_rfl) (by kernel_rfl) (by kernel_rfl) (fun _ _ _ h => h) (Or.inl ⟨by rfl, ?_⟩) (by assumption) ?_
  rotate_left
  ·intro w hSw; (try dsimp only at hSw); go_simp <;> with_reducible rfl
  simp only [Act.put, List.getElem_toArray, List.getElem_cons_zero, List.getElem_cons_succ, List.setIfInBounds_toArray, List.set_cons_zero, List.set_cons_succ]
  refine wpAnyH_ready (rs := [2]) (by kernel_rfl) (by simp) ?_
  refine AllReadyH.cons (o := _) rfl (fun K hK => ?_) AllReadyH.nil
  go_simp
  go_at_call 53
  refine (HIT.out wr.drew).mono ?_
  rintro e w4 ⟨rfl, hb4⟩
  have hB4 := hBd.trans (hb4.mono hBd.size)
  refine hK.out _ _ ⟨(hB4.cell (World.block_lt_of_cell? _ _ g0)).trans g0, (hB4.cell (World.block_lt_of_cell? _ _ g1)).trans g1, (hB4.cell (World.block_lt_of_cell? _ _ g2)).trans g2, (hB4.cell (World.block_lt_of_cell? _ _ g3)).trans g3⟩ (fun hHeld => ?_)
  clear hK K
  try simp only [Act.put, List.getElem_toArray, List.getElem_cons_zero, List.getElem_cons_succ, List.setIfInBounds_toArray, List.set_cons_zero, List.set_cons_succ]
  refine wpAnyH_take (i := 3) (oi := _) (v := ?_) rfl (by kernel_rfl) (by kernel_rfl) (by kernel_rfl) (fun _ _ _ h => h) (Or.inl ⟨by rfl, ?_⟩) (by assumption) ?_
  rotate_left
  ·intro w hSw; (try dsimp only at hSw); go_simp <;> with_reducible rfl
  simp only [Act.put, List.getElem_toArray, List.getElem_cons_zero, List.getElem_cons_succ, List.setIfInBounds_toArray, List.set_cons_zero, List.set_cons_succ]
  refine wpAnyH_ready (rs := [8]) (by kernel_rfl) (by simp) ?_
  refine AllReadyH.cons (o := _) rfl (fun K hK => ?_) AllReadyH.nil
  go_simp
  go_at_call 26
  refine (HTX.out w4).mono ?_
  rintro e w5 ⟨rfl, hb5⟩
  have hB5 := hB4.trans (hb5.mono hB4.size)
  refine hK.out _ _ ⟨(hB5.cell (World.block_lt_of_cell? _ _ g0)).trans g0, (hB5.cell (World.block_lt_of_cell? _ _ g1)).trans g1, (hB5.cell (World.block_lt_of_cell? _ _ g2)).trans g2, (hB5.cell (World.block_lt_of_cell? _ _ g3)).trans g3⟩ (fun hHeld => ?_)
  clear hK K
  try simp only [Act.put, List.getElem_toArray, List.getElem_cons_zero, List.getElem_cons_succ, List.setIfInBounds_toArray, List.set_cons_zero, List.set_cons_succ]
  refine wpAnyH_take (i := 9) (oi := _) (v := ?_) rfl (by kernel_rfl) (by kernel_rfl) (by kernel_rfl) (fun _ _ _ h => h) (Or.inl ⟨by rfl, ?_⟩) (by assumption) ?_
  rotate_left
  ·intro w hSw; (try dsimp only at hSw); go_simp <;> with_reducible rfl
  simp only [Act.put, List.getElem_toArray, List.getElem_cons_zero, List.getElem_cons_succ, List.setIfInBounds_toArray, List.set_cons_zero, List.set_cons_succ]
  refine wpAnyH_take (i := 10) (oi := _) (v := ?_) rfl (by kernel_rfl) (by kernel_rfl) (by kernel_rfl) (fun _ _ _ h => h) (Or.inl ⟨by rfl, ?_⟩) (by assumption) ?_
  rotate_left
  ·intro w hSw; (try dsimp only at hSw); go_simp <;> with_reducible rfl
  simp only [Act.put, List.getElem_toArray, List.getElem_cons_zero, List.getElem_cons_succ, List.setIfInBounds_toArray, List.set_cons_zero, List.set_cons_succ]
  refine wpAnyH_ready (rs := [11]) (by kernel_rfl) (by simp) ?_
  refine AllReadyH.cons (o := _) rfl (fun K hK => ?_) AllReadyH.nil
  have hown5 := qBq (qBq (HO.out : wr.ownsRow w.heap.size 5 1 v (txs ((l.take k).map ofJ)).length (Lib.byteCells (txs ((l.take k).map ofJ)))) (Below.refl _ _).drew) (hb4.trans (hb5.mono hb4.size))
  refine qDs rfl _ _ 53 9 rfl w.heap.size 5 i0 Tryz.underlying53 Tryz.underlying9 hi hz0 hz1 hz2 _ _ _ rfl hown5 (sk ++ ⟨#[32]⟩ ++ tx ++ ⟨#[10]⟩) rfl (by unfold maxLen; have := HWL.out; omega) (by have := HWL.out; omega) hB5.size ?_
  intro v' w6 hown6 hg6
  have hB6 : Below w.heap.size w w6 := hB5.grown hg6 hB5.size (fun j hj => (hown5.lt j hj).1)
  refine hK.out _ _ ⟨(hB6.cell (World.block_lt_of_cell? _ _ g0)).trans g0, (hB6.cell (World.block_lt_of_cell? _ _ g1)).trans g1, (hB6.cell (World.block_lt_of_cell? _ _ g2)).trans g2, (hB6.cell (World.block_lt_of_cell? _ _ g3)).trans g3⟩ (fun hHeld => ?_)
  clear hK K
  try simp only [Act.put, List.getElem_toArray, List.getElem_cons_zero, List.getElem_cons_succ, List.setIfInBounds_toArray, List.set_cons_zero, List.set_cons_succ]
  refine wpAnyH_take (i := 12) (oi := _) (v := ?_) rfl (by kernel_rfl) (by kernel_rfl) (by kernel_rfl) (fun _ _ _ h => h) (Or.inl ⟨by rfl, ?_⟩) (by assumption) ?_
  rotate_left
  ·intro w hSw; (try dsimp only at hSw); go_simp <;> with_reducible rfl
  simp only [Act.put, List.getElem_toArray, List.getElem_cons_zero, List.getElem_cons_succ, List.setIfInBounds_toArray, List.set_cons_zero, List.set_cons_succ]
  refine wpAnyH_done (by kernel_rfl) ?_ _
  refine NoPanic.normal ?_
  have HO6 := am (show w6.ownsRow w.heap.size 5 1 v' (txs ((l.take (k + 1)).map ofJ)).length (Lib.byteCells (txs ((l.take (k + 1)).map ofJ))) from by rw [HTK.out, Lib.byteCells_append, List.length_append, hsl]; exact hown6)
  have HB6 := am hB6
  go_wp2
  go_roundw
  case rel => exact ⟨k + 1, by omega, by first | rfl | simp, HO6, HB6⟩
  case measure => simp only [intOf]; omega
end Txs
end Q
end
section
namespace Q
open Go.RowKit YA YC YB
open Val Q.Flt Q.Txs
def txB (l : List S51) : Bool := decide (l.length ≤ 2000000) && l.all u64S
theorem txB_of {l : List S51} (h : txB l = true) : l.length ≤ 2000000 ∧ ∀ x ∈ l, U64 x.f2.f1 := by
 unfold txB at h
 rw [Bool.and_eq_true] at h
 exact ⟨of_decide_eq_true h.1, fun x hx => u64S_U (List.all_eq_true.1 h.2 x hx)⟩
def qAT.f (l0 : List (S51)) : Option (ByteArray) := if txB l0 = true then some ⟨(txs l0).toArray⟩ else none
theorem qAT.calls (A0 : Option Addr) (c0 : Nat) (l0 : List (S51)) (r : ByteArray) (w : World) (hr0 : Kd.C k51 w A0 l0.length l0) (hc0 : l0.length ≤ c0) (h : qAT.f l0 = some r) (hT : Tb w) :
  Calls Tryz.prog 37 #[.slice A0 l0.length c0] w fun e w' => e = .returned (.string r) ∧ Below w.heap.size w w' := by
 unfold qAT.f at h
 split at h
 ·rename_i hs
  injection h with h
  subst h
  obtain ⟨h1, h2⟩ := txB_of hs
  exact texts_any A0 c0 l0 w hr0 h2 h1 hT
 ·cases h
def qA6.f (l0 : List (S50)) : Option (ByteArray) := if txB (l0.map ofJ) = true then some ⟨(txs (l0.map ofJ)).toArray⟩ else none
theorem qA6.calls (A0 : Option Addr) (c0 : Nat) (l0 : List (S50)) (r : ByteArray) (w : World) (hr0 : Kd.C k50 w A0 l0.length l0) (hc0 : l0.length ≤ c0) (h : qA6.f l0 = some r) :
  Calls Tryz.prog 38 #[.slice A0 l0.length c0] w fun e w' => e = .returned (.string r) ∧ Below w.heap.size w w' := by
 unfold qA6.f at h
 split at h
 ·rename_i hs
  injection h with h
  subst h
  obtain ⟨h1, h2⟩ := txB_of hs
  rw [List.length_map] at h1
  exact rtexts_any A0 c0 l0 w hr0 (fun x hx => h2 (ofJ x) (List.mem_map_of_mem hx)) h1
 ·cases h
end Q
end
section
namespace Q
open Go.RowKit
namespace Flt
theorem qBZ {P : Program} {w : World} {x : String × DataW Unit} {rest : List (String × DataW Unit)} {ps : List MemPlace} (h : DataW.LaidVars P w (x :: rest) ps) : ∃ q, DataW.LaidVars P w rest q := by
 obtain ⟨g', t', cs, fuel, p, q, _, _, _, _, h, _⟩ := h
 exact ⟨q, h⟩
theorem tab_vars {P : Program} {W : World} {name : String} {k : IntKind} {zs : List Int} {rest : List (String × DataW Unit)} {g : Nat} {t e : TypeId} {n : Nat} {ps : List MemPlace}
  (hg : P.globalNamed name = some g) (hty : (P.globals[g]?).map (·.type) = some t) (ht : P.underlying t = some (.array n e)) (he : P.underlying e = some (.int k)) (hce : P.cellsOf e = 1) (hct : P.cellsOf t = n)
  (h : DataW.LaidVars P W ((name, Lib.tabData k zs) :: rest) ps) : Lib.TabIs P W name k zs := by
 obtain ⟨g', t', cs, fuel, p, q, hg', ht', hvar, hd, _, _⟩ := h
 obtain rfl := Option.some.inj (hg.symm.trans hg')
 obtain rfl := Option.some.inj (hty.symm.trans ht')
 unfold Lib.TabIs
 rw [hvar, ← Lib.cells_of_tab ht he hce hct hd]
theorem tb_of {W : World} {x0 x1 x2 x4 : String × DataW Unit} {rest : List (String × DataW Unit)} (h : laidMet Tryz.prog (x0 :: x1 :: x2 :: ("internal/strconv.uint64pow10", Lib.tabData .u64 Lib.pow10Tab) :: x4 :: ("strings.asciiSpace", Lib.tabData .u8 Lib.asciiSpaceTab) :: rest) W) : Tb W := by
 obtain ⟨ps, h, _⟩ := h
 obtain ⟨_, h⟩ := qBZ h
 obtain ⟨_, h⟩ := qBZ h
 obtain ⟨_, h⟩ := qBZ h
 have h3 := h
 obtain ⟨_, h⟩ := qBZ h
 obtain ⟨_, h⟩ := qBZ h
 exact ⟨tab_vars (g := 3) (t := 223) (e := 46) (n := 20) (by kernel_rfl) (by kernel_rfl) (by kernel_rfl) (by kernel_rfl) (by kernel_rfl) (by kernel_rfl) h3, tab_vars (g := 0) (t := 148) (e := 5) (n := 256) (by kernel_rfl) (by kernel_rfl) (by kernel_rfl) (by kernel_rfl) (by kernel_rfl) (by kernel_rfl) h⟩
end Flt
end Q
end
section
namespace RIns2
open Go.RowKit Base Val Tbl Ins Wr Num Enc RIns
def qBS (bs : List Int) (w : World) (e : Ending) (w' : World) : Prop := ∃ v, e = .returned v ∧ Out w.heap.size w' v bs ∧ Below w.heap.size w w'
theorem out_one (w : World) (o : Obj) (x : Int) : Out w.heap.size ((w.alloc o).alloc (.cells #[.int .u8 x] 5)) (.slice (some ⟨w.heap.size + 1, 0, none⟩) 1 1) [x] := by
 have := World.ownsRow_lit (base := w.heap.size) (e := 5) (size := 1) (w.alloc o) #[.int .u8 x] 1 (by simp) (by unfold maxLen; omega) rfl
 rw [World.size_alloc] at this
 exact this
theorem news3 (w : World) (o p : Obj) (x : Int) : ∀ j u, [Value.int .u8 x][j]? = some u → (((w.alloc o).alloc p).alloc (.cells #[.int .u8 x] 5)).cell? ((⟨w.heap.size + 1 + 1, 0, none⟩ : Addr).add j) = some u := by
 have := cell_one_new ((w.alloc o).alloc p) (.int .u8 x) 5
 simp only [World.size_alloc] at this
 exact this
theorem qCt (w : World) (o p : Obj) : Below w.heap.size w ((w.alloc o).alloc p) := ((Below.refl _ _).alloc (Nat.le_refl _) _).alloc (by simp) _
theorem rbytes_0 (op n ty b : Int) (h1 : (op == 1) = false) (hw : widR op = 0) (w : World) : Calls Tryz.prog 59 #[insV op n ty b] w (qBS ((op % 256) :: be n 0 0) w) := by
 have HW := hid (qB2 op)
 rw [hw] at HW
 unfold insV
 clear hw
 have hO := out_one w (.cells #[.int .i64 op, .int .i64 n, .int .i64 ty, .int .u64 b] 50) (op % 256)
 have hB := qCt w (.cells #[.int .i64 op, .int .i64 n, .int .i64 ty, .int .u64 b] 50) (.cells #[.int .u8 (op % 256)] 5)
 obtain ⟨i0, hi, hz0, hz1, hz2⟩ := info_parts infoU8
 have HO := hid hO
 have HB := hid hB
 clear hO hB
 go_enter Tryz.func59, Tryz.ntmps59
 go_wp2_with (go_at_call 51; refine (HW.out _).mono ?_; rintro e w1 ⟨rfl, rfl⟩)
 go_ret
 exact ⟨_, rfl, HO.out, HB.out⟩
theorem rbytes_1 (op n ty b : Int) (h1 : (op == 1) = false) (hw : widR op = 1) (w : World) : Calls Tryz.prog 59 #[insV op n ty b] w (qBS ((op % 256) :: be n 1 1) w) := by
 have HW := hid (qB2 op)
 rw [hw] at HW
 unfold insV
 clear hw
 have hO := out_one w (.cells #[.int .i64 op, .int .i64 n, .int .i64 ty, .int .u64 b] 50) (op % 256)
 have hB := qCt w (.cells #[.int .i64 op, .int .i64 n, .int .i64 ty, .int .u64 b] 50) (.cells #[.int .u8 (op % 256)] 5)
 obtain ⟨i0, hi, hz0, hz1, hz2⟩ := info_parts infoU8
 have HO := hid hO
 have HB := hid hB
 clear hO hB
 go_enter Tryz.func59, Tryz.ntmps59
 go_wp2_with fail
 refine (HW.out _).mono ?_
 rintro e w1 ⟨rfl, rfl⟩
 go_wp2_with fail
 refine (HW.out _).mono ?_
 rintro e w1 ⟨rfl, rfl⟩
 go_wp2_with (at_builtin; refine wpList_append_lies _ rfl _ _ 53 rfl w.heap.size 5 i0 (.int .u8 0) 1 1 Tryz.underlying53 hi hz0 hz1 hz2 rfl (by decide) _ _ _ rfl (HO.out.alloc _) ⟨w.heap.size + 1 + 1, 0, none⟩ 1 1 [.int .u8 (n % 256)] rfl rfl ?c1 ?c2 ?c0 ?c3 ?c4 ?c5 _ rfl ?_)
 case c2 => simp [Value.oneCell']
 case c3 => simp [maxLen]
 case c4 => simp
 ·first | exact cell_one_new _ _ _ | exact news3 _ _ _ _
 ·omega
 ·first | (simp; omega) | (have := HB.out.size; simp; omega)
 intro g cap w2 hown2 hgrow hgg hlt2
 have H2 : Hid (Out w.heap.size w2 (.slice (some ⟨g, 0, none⟩) 2 cap) ((op % 256) :: be n 1 1)) := hid (by
   have e : be n 1 1 = [n % 256] := by simp [be]
   unfold Out; rw [e]; exact hown2)
 have HB2 : Hid (Below w.heap.size w w2) := hid ((HB.out.alloc HB.out.size _).grown hgrow (by simp; omega) (fun j hj => (HO.out.lt j hj).1))
 clear hown2 hgrow hgg hlt2
 go_wp2
 go_ret
 exact ⟨_, rfl, H2.out, HB2.out⟩
theorem rbytes_2 (op n ty b : Int) (h1 : (op == 1) = false) (hw : widR op = 2) (w : World) : Calls Tryz.prog 59 #[insV op n ty b] w (qBS ((op % 256) :: be n 2 2) w) := by
 have HW := hid (qB2 op)
 rw [hw] at HW
 unfold insV
 clear hw
 have hO := out_one w (.cells #[.int .i64 op, .int .i64 n, .int .i64 ty, .int .u64 b] 50) (op % 256)
 have hB := qCt w (.cells #[.int .i64 op, .int .i64 n, .int .i64 ty, .int .u64 b] 50) (.cells #[.int .u8 (op % 256)] 5)
 obtain ⟨i0, hi, hz0, hz1, hz2⟩ := info_parts infoU8
 have HO := hid hO
 have HB := hid hB
 clear hO hB
 go_enter Tryz.func59, Tryz.ntmps59
 go_wp2_with fail
 refine (HW.out _).mono ?_
 rintro e w1 ⟨rfl, rfl⟩
 go_wp2_with (at_builtin; refine wpList_append_lies _ rfl _ _ 53 rfl w.heap.size 5 i0 (.int .u8 0) 1 1 Tryz.underlying53 hi hz0 hz1 hz2 rfl (by decide) _ _ _ rfl (HO.out.alloc _) ⟨w.heap.size + 1 + 1, 0, none⟩ 1 1 [.int .u8 (n / 256 % 256)] rfl rfl ?c1 ?c2 ?c0 ?c3 ?c4 ?c5 _ rfl ?_)
 case c2 => simp [Value.oneCell']
 case c3 => simp [maxLen]
 case c4 => simp
 ·first | exact cell_one_new _ _ _ | exact news3 _ _ _ _
 ·omega
 ·first | (simp; omega) | (have := HB.out.size; simp; omega)
 intro g cap w2 hown2 hgrow hgg hlt2
 have hcell : ∀ i, i < 4 → w2.cell? ⟨w.heap.size, i, none⟩ = (#[Value.int .i64 op, .int .i64 n, .int .i64 ty, .int .u64 b])[i]? := fun i _ => by
  rw [hgrow.cell_far ⟨w.heap.size, i, none⟩ (by simp; omega) (by simp [Value.ownBlock])]
  rw [World.cell?_alloc_past _ _ _ (by simp; omega), World.cell?_alloc_past _ _ _ (by simp), World.cell?_alloc_at _ _ _ _ rfl]
 have k0 : w2.cell? ⟨w.heap.size, 0, none⟩ = some (.int .i64 op) := hcell 0 (by omega)
 have k1 : w2.cell? ⟨w.heap.size, 1, none⟩ = some (.int .i64 n) := hcell 1 (by omega)
 have H2 : Hid (w2.ownsRow w.heap.size 5 1 (.slice (some ⟨g, 0, none⟩) 2 cap) 2 (bv [op % 256, n / 256 % 256])) := hid hown2
 have HB2 : Hid (Below w.heap.size w w2) := hid ((HB.out.alloc HB.out.size _).grown hgrow (by simp; omega) (fun j hj => (HO.out.lt j hj).1))
 have hgl : w.heap.size < w2.heap.size := by have := hgrow.size; simp at this; omega
 clear hown2 hgrow hgg hcell
 go_wp2_with fail
 refine (HW.out _).mono ?_
 rintro e w1 ⟨rfl, hw1⟩
 rw [hw1]
 clear hw1
 go_wp2_with (at_builtin; refine wpList_append_lies _ rfl _ _ 53 rfl w.heap.size 5 i0 (.int .u8 0) 1 1 Tryz.underlying53 hi hz0 hz1 hz2 rfl (by decide) _ _ _ rfl (H2.out.alloc _) ⟨w2.heap.size, 0, none⟩ 1 1 [.int .u8 (n % 256)] rfl rfl ?d1 ?d2 ?d0 ?d3 ?d4 ?d5 _ rfl ?_)
 case d2 => simp [Value.oneCell']
 case d3 => simp [maxLen]
 case d4 => simp
 ·first | exact cell_one_new _ _ _ | exact news3 _ _ _ _
 ·omega
 ·first | (simp; omega) | (have := HB2.out.size; simp; omega)
 intro g3 cap3 w3 hown3 hgrow3 hgg3 hlt3
 have H3 : Hid (Out w.heap.size w3 (.slice (some ⟨g3, 0, none⟩) 3 cap3) ((op % 256) :: be n 2 2)) := hid (by
   have e : be n 2 2 = [n / 256 % 256, n % 256] := by simp [be, List.range_succ]
   unfold Out; rw [e]; exact hown3)
 have HB3 : Hid (Below w.heap.size w w3) := hid ((HB2.out.alloc HB2.out.size _).grown hgrow3 (by simp; omega) (fun j hj => (H2.out.lt j hj).1))
 clear hown3 hgrow3 hgg3 hlt3
 go_wp2
 go_ret
 exact ⟨_, rfl, H3.out, HB3.out⟩
theorem rbytes_push (n ty b : Int) (hb : U64 b) (w : World) : Calls Tryz.prog 59 #[insV 1 n ty b] w (qBS (1 :: (ty % 256) :: be b 8 8) w) := by
 unfold insV
 have hO := out_one w (.cells #[.int .i64 1, .int .i64 n, .int .i64 ty, .int .u64 b] 50) 1
 have hB := qCt w (.cells #[.int .i64 1, .int .i64 n, .int .i64 ty, .int .u64 b] 50) (.cells #[.int .u8 1] 5)
 obtain ⟨i0, hi, hz0, hz1, hz2⟩ := info_parts infoU8
 have HO := hid hO
 have HB := hid hB
 clear hO hB
 have hb0 := hb.1
 have hb1 := hb.2
 clear hb
 go_enter Tryz.func59, Tryz.ntmps59
 go_wp2_with (at_builtin; refine wpList_append_lies _ rfl _ _ 53 rfl w.heap.size 5 i0 (.int .u8 0) 1 1 Tryz.underlying53 hi hz0 hz1 hz2 rfl (by decide) _ _ _ rfl (HO.out.alloc _) ⟨w.heap.size + 1 + 1, 0, none⟩ 1 1 [.int .u8 (ty % 256)] rfl rfl ?c1 ?c2 ?c0 ?c3 ?c4 ?c5 _ rfl ?_)
 case c2 => simp [Value.oneCell']
 case c3 => simp [maxLen]
 case c4 => simp
 ·first | exact cell_one_new _ _ _ | exact news3 _ _ _ _
 ·omega
 ·first | (simp; omega) | simp
 intro g cap w2 hown2 hgrow hgg hlt2
 have hcell : w2.cell? ⟨w.heap.size, 3, none⟩ = some (.int .u64 b) := by
  rw [hgrow.cell_far ⟨w.heap.size, 3, none⟩ (by simp; omega) (by simp [Value.ownBlock])]
  rw [World.cell?_alloc_past _ _ _ (by simp; omega), World.cell?_alloc_past _ _ _ (by simp), World.cell?_alloc_at _ _ _ _ rfl]; rfl
 have hX : Hid (Out w.heap.size w2 (.slice (some ⟨g, 0, none⟩) 2 cap) ([1, ty % 256] ++ be b 8 0) ∧ (g ≠ w.heap.size) ∧ w2.cell? ⟨w.heap.size, 3, none⟩ = some (.int .u64 b) ∧ Below w.heap.size w w2) := hid ⟨hown2, by
     rcases hgg with e | e
     · simp [Value.ownBlock] at e; omega
     · first | omega | (simp at e; omega), hcell, (HB.out.alloc HB.out.size _).grown hgrow (by simp; omega) (fun j hj => (HO.out.lt j hj).1)⟩
 clear hown2 hgrow hgg hlt2 hcell
 go_wp2
 go_loopw [3, 4] (fun v i wr => ∃ (j g cap : Nat), ((∃ s : Nat, s + 8 * j = 56 ∧ i = .int .i64 (s : Int)) ∨ (j = 8 ∧ i = .int .i64 (-8))) ∧ v = .slice (some ⟨g, 0, none⟩) (2 + j) cap ∧ Hid (Out w.heap.size wr v ([1, ty % 256] ++ be b 8 j) ∧ g ≠ w.heap.size ∧ wr.cell? ⟨w.heap.size, 3, none⟩ = some (.int .u64 b) ∧ Below w.heap.size w wr)) (fun _ i _ => (intOf i + 8).toNat)
 case atStart => exact ⟨0, g, cap, .inl ⟨56, rfl, rfl⟩, rfl, hX⟩
 case round =>
  obtain ⟨j, g1, cap1, hs, rfl, hst⟩ := hrel
  rcases hs with ⟨s, hs, rfl⟩ | ⟨rfl, rfl⟩
  ·have hc3 := hst.out.2.2.1
   have hlen : ([1, ty % 256] ++ be b 8 j).length = 2 + j := by simp [qBj]; omega
   have hown := hst.out.1
   unfold Out at hown
   rw [hlen] at hown
   have HE : Hid ([1, ty % 256] ++ be b 8 (j + 1) = ([1, ty % 256] ++ be b 8 j) ++ [b / 2 ^ s % 256]) := hid (by
     rw [be_succ, show 8 * (8 - 1 - j) = s by omega, List.append_assoc])
   clear hlen
   go_wp2_with (at_builtin; refine wpList_append_lies _ rfl _ _ 53 rfl w.heap.size 5 i0 (.int .u8 0) 1 1 Tryz.underlying53 hi hz0 hz1 hz2 rfl (by decide) _ _ _ rfl (hown.alloc _) ⟨wr.heap.size, 0, none⟩ 1 1 [.int .u8 (b / 2 ^ s % 256)] rfl rfl ?d1 ?d2 ?d0 ?d3 ?d4 ?d5 _ rfl ?_)
   case d2 => simp [Value.oneCell']
   case d3 => unfold maxLen; omega
   case d4 => omega
   ·exact cell_one_new _ _ _
   ·omega
   ·have := hst.out.2.2.2.size; simp; omega
   intro g3 cap3 w3 hown3 hgrow3 hgg3 hlt3
   have hwl : w.heap.size < wr.heap.size := World.block_lt_of_cell? wr _ hc3
   have H3 : Hid (Out w.heap.size w3 (.slice (some ⟨g3, 0, none⟩) (2 + (j + 1)) cap3) ([1, ty % 256] ++ be b 8 (j + 1)) ∧ g3 ≠ w.heap.size ∧ w3.cell? ⟨w.heap.size, 3, none⟩ = some (.int .u64 b) ∧ Below w.heap.size w w3) := hid ⟨by
       unfold Out
       rw [HE.out, show ([1, ty % 256] ++ be b 8 j ++ [b / 2 ^ s % 256]).length = 2 + j + 1 by simp [qBj]; omega, qB5]
       exact hown3, by
       rcases hgg3 with e | e
       · have := hst.out.2.1; simp [Value.ownBlock] at e; omega
       · first | omega | (simp at e; omega), by
       rw [hgrow3.cell_far ⟨w.heap.size, 3, none⟩ (by simp; omega) (by have := hst.out.2.1; simp [Value.ownBlock]; omega), World.cell?_alloc_past _ _ _ hwl]; exact hc3,
       (hst.out.2.2.2.alloc (by omega) _).grown hgrow3 (by simp; omega) (fun i hi => (hown.lt i hi).1)⟩
   clear hown3 hgrow3 hgg3 hlt3 hown hc3
   go_wp2
   go_roundw
   case rel =>
    refine ⟨j + 1, g3, cap3, ?_, rfl, H3⟩
    by_cases h : s = 0
    ·right; subst h; exact ⟨by omega, by simp⟩
    left; exact ⟨s - 8, by omega, by go_num⟩
   case measure => simp [intOf]; omega
  go_wp2
  go_ret
  exact ⟨_, rfl, hst.out.1, hst.out.2.2.2⟩
theorem widR_eq (op : Int) (h1 : op ≠ 1) : widR op = wid op := by unfold widR wid; rw [if_neg h1]
theorem rbytes_any (x : InsD) (h : x.ok = true) (hb : U64 x.b) (w : World) : Calls Tryz.prog 59 #[insV x.op x.n x.ty x.b] w (qBS (insB x) w) := by
 obtain ⟨op, n, ty, b⟩ := x
 dsimp only at *
 by_cases h1 : op = 1
 ·subst h1; exact rbytes_push n ty b hb w
 obtain ⟨_, _, _, _, _, _, hw⟩ := okI_mid_of op n ty b h h1
 have e : insB ⟨op, n, ty, b⟩ = (op % 256) :: be n (widN op) (widN op) := by unfold insB; rw [if_neg h1]
 have h1' : (op == 1) = false := beq_eq_false_iff_ne.mpr h1
 rw [e]
 unfold widN
 rcases hw with hw | hw | hw
 ·rw [hw]; exact rbytes_0 op n ty b h1' (by rw [widR_eq op h1, hw]) w
 ·rw [hw]; exact rbytes_1 op n ty b h1' (by rw [widR_eq op h1, hw]) w
 rw [hw]; exact rbytes_2 op n ty b h1' (by rw [widR_eq op h1, hw]) w
end RIns2
end
section
namespace REnc
open Go.RowKit Base Val Tbl Ins Wr Num Enc RIns RIns2
theorem insB_pos (x : InsD) : 0 < (insB x).length := by unfold insB; simp
theorem rencode_some (b o c : Nat) (l : List InsD) (w : World) (h : qCc w b o l) (hb : b < w.heap.size) (hl : l.length ≤ 4096) (hu : ∀ x ∈ l, U64 x.b) :
  Calls Tryz.prog 36 #[.slice (some ⟨b, o, none⟩) l.length c] w fun e w' => Below w.heap.size w w' ∧
   (((∀ x ∈ l, x.ok = true) ∧ ∃ v, e = .returned (.tuple #[v, .int .i64 0]) ∧ Out w.heap.size w' v (encB l)) ∨ (∃ x ∈ l, x.ok = false) ∧ e = .returned (.tuple #[.slice none 0 0, .int .i64 51])) := by
 have H := hid h
 have HU := hid hu
 clear h hu
 go_enter Tryz.func36, Tryz.ntmps36
 go_wp2
 go_loopw [4, 5] (fun v i wr => ∃ k : Nat, k ≤ l.length ∧ i = .int .i64 (k : Int) ∧ Hid ((∀ x ∈ l.take k, x.ok = true) ∧ Out w.heap.size wr v (encB (l.take k)) ∧ Below w.heap.size w wr)) (fun _ i _ => (l.length - intOf i).toNat)
 case atStart => exact ⟨0, Nat.zero_le _, rfl, hid ⟨by simp, by simpa [encB, Out, bv] using World.ownsRow_nil _ _ _ _, Below.refl _ _⟩⟩
 case round =>
  obtain ⟨k, hk, rfl, hst⟩ := hrel
  by_cases hlt : k < l.length
  rotate_left
  ·obtain rfl : k = l.length := by omega
   go_wp2
   go_ret2
   refine ⟨hst.out.2.2, .inl ⟨?_, _, rfl, ?_⟩⟩
   ·have := hst.out.1; rwa [List.take_length] at this
   have := hst.out.2.1; rwa [List.take_length] at this
  obtain ⟨x, hx⟩ : ∃ x, l[k]? = some x := ⟨l[k], List.getElem?_eq_getElem hlt⟩
  obtain ⟨c0, c1, c2, c3⟩ := (H.out.below hb hst.out.2.2) k x hx
  have hU := HU.out x (List.mem_of_getElem? hx)
  have hin := List.mem_of_getElem? hx
  have HR := hid (fun W => qCE x.op x.n x.ty x.b hU W)
  have hgd : l.getD k InsD.z = x := by rw [List.getD_eq_getElem?_getD, hx]; rfl
  have HX := hid hgd
  clear hgd hx
  unfold insV at HR
  have hbo : b < wr.heap.size := Nat.lt_of_lt_of_le hb hst.out.2.2.size
  cases hok : x.ok with
  | false =>
   rw [show okI x.op x.n x.ty x.b = false from hok] at HR
   go_wp2_with fail
   refine (HR.out _).mono ?_
   rintro e w1 ⟨rfl, hb1⟩
   go_wp2
   go_ret2
   exact ⟨hst.out.2.2.trans (hb1.mono hst.out.2.2.size), .inr ⟨⟨_, hin, hok⟩, rfl⟩⟩
  | true =>
   rw [show okI x.op x.n x.ty x.b = true from hok] at HR
   have HY := hid (fun W => rbytes_any x hok hU W)
   unfold insV at HY
   go_wp2_with fail
   refine (HR.out _).mono ?_
   rintro e w1 ⟨rfl, hb1⟩
   have d0 := (hb1.cell (p := ⟨b, o + k * 4, none⟩) hbo).trans c0
   have d1 := (hb1.cell (p := ⟨b, o + k * 4 + 1, none⟩) hbo).trans c1
   have d2 := (hb1.cell (p := ⟨b, o + k * 4 + 2, none⟩) hbo).trans c2
   have d3 := (hb1.cell (p := ⟨b, o + k * 4 + 3, none⟩) hbo).trans c3
   clear c0 c1 c2 c3
   go_wp2_with fail
   refine (HY.out _).mono ?_
   rintro e w2 ⟨v2, rfl, hO2, hb2⟩
   have hB2 : Below wr.heap.size wr w2 := hb1.trans (hb2.mono hb1.size)
   have hown := qBq hst.out.2.1 hB2
   have hpos := insB_pos x
   have hlen := qDb (l.take k)
   have hlen2 := qDh x
   simp only [List.length_take] at hlen
   rcases hO2.2 with ⟨_, h0⟩ | ⟨g, cap, cur, rfl, hbg, hg, hr⟩
   ·omega
   have hnews : ∀ j u, (bv (insB x))[j]? = some u → w2.cell? ((⟨g, 0, none⟩ : Addr).add j) = some u := fun j u hu => hO2.cells rfl j u hu
   obtain ⟨i0, hi, hz0, hz1, hz2⟩ := info_parts infoU8
   have HN := hid hnews
   have hN2 : w.heap.size ≤ w2.heap.size := Nat.le_trans hst.out.2.2.size hB2.size
   clear hnews hg hr hO2 d0 d1 d2 d3
   go_wp2_with (at_builtin; refine wpList_append_lies _ rfl _ _ 53 rfl w.heap.size 5 i0 (.int .u8 0) 1 1 Tryz.underlying53 hi hz0 hz1 hz2 rfl (by decide) _ _ _ rfl hown ⟨g, 0, none⟩ (insB x).length cap (bv (insB x)) rfl ?c1 HN.out ?c2 ?c0 ?c3 ?c4 ?c5 _ rfl ?_)
   case c1 => rw [qCu]; omega
   case c2 => exact bv_ones _
   case c0 => exact hpos
   case c3 => unfold maxLen; omega
   case c4 => omega
   case c5 => exact hN2
   intro g5 cap5 w5 hown5 hgrow5 hgg5 hlt5
   have H5 : Hid (Out w.heap.size w5 (.slice (some ⟨g5, 0, none⟩) ((encB (l.take k)).length + (insB x).length) cap5) (encB (l.take (k + 1))) ∧ Below w.heap.size w w5) := hid ⟨by
       unfold Out
       rw [qBU l k hlt, HX.out, qB5, List.length_append]
       exact hown5, (hst.out.2.2.trans (hB2.mono hst.out.2.2.size)).grown hgrow5 hN2 (fun j hj => (hown.lt j hj).1)⟩
   clear hown5 hgrow5 hgg5 hlt5 hown
   go_wp2
   go_roundw
   case rel =>
    refine ⟨k + 1, by omega, by simp, hid ⟨fun y hy => ?_, H5.out.1, H5.out.2⟩⟩
    rw [qBd l k InsD.z hlt, HX.out] at hy
    rcases List.mem_append.1 hy with hy | hy
    ·exact hst.out.1 y hy
    obtain rfl := List.mem_singleton.1 hy; exact hok
   case measure => simp [intOf]; omega
theorem rencode_nil (w : World) : Calls Tryz.prog 36 #[.slice none 0 0] w fun e w' => e = .returned (.tuple #[.slice none 0 0, .int .i64 0]) ∧ w' = w := by
 go_enter Tryz.func36, Tryz.ntmps36
 go_wp2
 go_loopw [4, 5] (fun v i wr => v = .slice none 0 0 ∧ i = .int .i64 0 ∧ wr = w) (fun _ _ _ => 0)
 case atStart => exact ⟨rfl, rfl, rfl⟩
 case round =>
  obtain ⟨rfl, rfl, rfl⟩ := hrel
  go_wp2
  go_ret2
  exact ⟨rfl, rfl⟩
theorem rencode_big (A : Option Addr) (n c : Nat) (h : 4096 < n) (w : World) : Calls Tryz.prog 36 #[.slice A n c] w fun e w' => e = .returned (.tuple #[.slice none 0 0, .int .i64 3]) ∧ w' = w := by
 have h' : decide (4096 < (n : Int)) = true := by simp; omega
 go_enter Tryz.func36, Tryz.ntmps36
 go_wp2
 go_ret2
 exact ⟨rfl, rfl⟩
theorem rencode_any (v : Value) (l : List InsD) (w : World) (h : InsRow w v l) (hu : ∀ x ∈ l, U64 x.b) :
  Calls Tryz.prog 36 #[v] w fun e w' => Below w.heap.size w w' ∧
   (4096 < l.length ∧ e = .returned (.tuple #[.slice none 0 0, .int .i64 3]) ∨ l.length ≤ 4096 ∧ (((∀ x ∈ l, x.ok = true) ∧ ∃ r, e = .returned (.tuple #[r, .int .i64 0]) ∧ Out w.heap.size w' r (encB l)) ∨ (∃ x ∈ l, x.ok = false) ∧ e = .returned (.tuple #[.slice none 0 0, .int .i64 51]))) := by
 rcases h with ⟨rfl, rfl⟩ | ⟨b, o, c, rfl, hb, hc⟩
 ·exact (rencode_nil w).mono fun e w' ⟨he, hw⟩ => ⟨hw ▸ Below.refl _ _, .inr ⟨by simp, .inl ⟨by simp, _, he, by simpa [encB, Out, bv] using World.ownsRow_nil _ _ _ _⟩⟩⟩
 ·by_cases hl : 4096 < l.length
  ·exact (rencode_big _ _ c hl w).mono fun e w' ⟨he, hw⟩ => ⟨hw ▸ Below.refl _ _, .inl ⟨hl, he⟩⟩
  ·exact (rencode_some b o c l w hc hb (by omega) hu).mono fun e w' ⟨hB, hr⟩ => ⟨hB, .inr ⟨by omega, hr⟩⟩
end REnc
end
section
namespace Q
open Go.RowKit YA YC YB
open Val Ins Enc REnc
namespace C14
theorem insRow_of (A : Option Addr) (c : Nat) (l : List S50) (w : World) (hr : Kd.C k50 w A l.length l) (hp : 0 < l.length) : InsRow w (.slice A l.length c) ((l.map ofI).map toD) := by
 rw [List.map_map]
 obtain ⟨ad, had, hcell⟩ := hr.2.2 hp
 subst had
 obtain ⟨b, o, s⟩ := ad
 have aA : ∀ j x, l[j]? = some x → ∀ i u, [Value.int .i64 x.f0, .int .i64 x.f1, .int .i64 x.f2.f0, .int .u64 x.f2.f1][i]? = some u → w.cell? (Addr.add ⟨b, o, s⟩ (j * 4 + i)) = some u := fun j x hj i u hu => by
  obtain ⟨cs, _, hK, hcc⟩ := hcell j x hj
  obtain rfl := k50_open hK
  exact hcc i u hu
 obtain ⟨x0, aB⟩ : ∃ x, l[0]? = some x := ⟨l[0], List.getElem?_eq_getElem hp⟩
 have hz := aA 0 x0 aB 0 _ rfl
 have hlt := World.block_lt_of_cell? w _ hz
 obtain rfl : s = none := by
  cases s with
  | none => rfl
  | some k =>
   simp only [Addr.add, World.cell?] at hz
   split at hz <;> simp at hz
 have hadd : ∀ j, Addr.add ⟨b, o, none⟩ j = ⟨b, o + j, none⟩ := fun j => by by_cases hj : j = 0 <;> simp [Addr.add, hj]
 exact .inr ⟨b, o, c, by rw [List.length_map], by rw [hadd] at hlt; exact hlt, fun k x hx => by
   rw [List.getElem?_map] at hx
   obtain ⟨y, hy, rfl⟩ := Option.map_eq_some_iff.1 hx
   have g := aA k y hy
   refine ⟨?_, ?_, ?_, ?_⟩
   · have := g 0 _ rfl; rwa [hadd] at this
   · have := g 1 _ rfl; rwa [hadd, ← Nat.add_assoc] at this
   · have := g 2 _ rfl; rwa [hadd, ← Nat.add_assoc] at this
   · have := g 3 _ rfl; rwa [hadd, ← Nat.add_assoc] at this⟩
theorem renc_zero (A : Option Addr) (c : Nat) (w : World) : Calls Tryz.prog 36 #[.slice A 0 c] w fun e w' => e = .returned (.tuple #[.slice none 0 0, .int .i64 0]) ∧ w' = w := by
 go_enter Tryz.func36, Tryz.ntmps36
 go_wp2
 go_loopw [4, 5] (fun v i wr => v = .slice none 0 0 ∧ i = .int .i64 0 ∧ wr = w) (fun _ _ _ => 0)
 case atStart => exact ⟨rfl, rfl, rfl⟩
 case round =>
  obtain ⟨rfl, rfl, rfl⟩ := hrel
  go_wp2
  go_ret2
  exact ⟨rfl, rfl⟩
theorem renc_pf (A : Option Addr) (c : Nat) (l : List S50) (w : World) (hr : Kd.C k50 w A l.length l) (hu : (l.map ofI).all u64S = true) :
  Calls Tryz.prog 36 #[.slice A l.length c] w fun e w' => ∃ v0_ : Value, e = .returned (.tuple #[v0_, .int .i64 (encS (l.map ofI)).2]) ∧ Kd.R (Kd.int .u8) 5 w' w.heap.size (fun _ => True) v0_ (encS (l.map ofI)).1 ∧ Below w.heap.size w w' := by
 rcases Nat.eq_zero_or_pos l.length with h0 | hp
 ·obtain rfl := List.length_eq_zero_iff.1 h0
  exact (renc_zero A c w).mono fun e w' ⟨he, hw⟩ => ⟨_, he, Kd.R_nil _ _ _ _ _, hw ▸ Below.refl _ _⟩
 ·have hrow := insRow_of A c l w hr hp
  refine (rencode_any _ ((l.map ofI).map toD) w hrow (fun x hx => by
    obtain ⟨y, hy, rfl⟩ := List.mem_map.1 hx
    exact u64S_U (List.all_eq_true.1 hu y hy))).mono ?_
  rintro e w' ⟨hb, h⟩
  rw [List.length_map] at h
  unfold encS
  rcases h with ⟨h, he⟩ | ⟨h, ⟨ho, r, he, hout⟩ | ⟨⟨x, hx, hf⟩, he⟩⟩
  ·rw [if_pos h]
   exact ⟨_, he, Kd.R_nil _ _ _ _ _, hb⟩
  ·have ha : (l.map ofI).all okS = true := List.all_eq_true.2 fun y hy => ho (toD y) (List.mem_map_of_mem hy)
   rw [if_neg (by omega), if_pos ha]
   exact ⟨r, he, out_R _ _ _ _ hout, hb⟩
  ·obtain ⟨y, hy, rfl⟩ := List.mem_map.1 hx
   have ha : ¬ (l.map ofI).all okS = true := fun e => by
    have h1 := List.all_eq_true.1 e y hy
    have h2 : okS y = false := hf
    rw [h1] at h2; cases h2
   rw [if_neg (by omega), if_neg ha]
   exact ⟨_, he, Kd.R_nil _ _ _ _ _, hb⟩
end C14
open C14
def qAA.f (_k : Nat) (l0 : List (S50)) : Option (List Int × Int) := if (l0.map ofI).all u64S = true then some (encS (l0.map ofI)) else none
theorem qAA.calls (k : Nat) (A0 : Option Addr) (c0 : Nat) (l0 : List (S50)) (r1 : List Int) (r2 : Int) (w : World) (hr0 : Kd.C k50 w A0 l0.length l0) (hc0 : l0.length ≤ c0) (h : qAA.f k l0 = some (r1, r2)) :
  Calls Tryz.prog 36 #[.slice A0 l0.length c0] w fun e w' => ∃ v0_ : Value, e = .returned (.tuple #[v0_, .int .i64 r2]) ∧ Kd.R (Kd.int .u8) 5 w' w.heap.size (fun _ => True) v0_ r1 ∧ Below w.heap.size w w' := by
 unfold qAA.f at h
 split at h
 ·rename_i hu
  injection h with h
  have hv := renc_pf A0 c0 l0 w hr0 hu
  rw [h] at hv
  exact hv
 ·cases h
end Q
end
section
namespace Q
open Go.RowKit YA YC YB
attribute [local go_sem] max2_int min2_int max_two min_two max_three min_three max_four min_four
def foundrylaw14_CodeEncodes.f (k : Nat) (l0 : List (S50)) : Option (Bool) := (qAp.f k l0).bind fun aD => ((qAL.f aD).bind fun aJ => ((qAA.f k l0).bind fun aI => ((qAn.f aJ.1 aI.1).bind fun aK => (if aK = true then (if aJ.2 = aI.2 then ((qAT.f aD).bind fun aG => ((qA6.f l0).bind fun aF => (if aG.toList = aF.toList then ((qAe.f k aD l0).bind fun aH => (if aH = true then ((qAv.f).bind fun aE => (some aE)) else (none))) else (none)))) else (none)) else (none)))))
theorem foundrylaw14_CodeEncodes.calls (k : Nat) (A0 : Option Addr) (c0 : Nat) (l0 : List (S50)) (r : Bool) (w : World) (hr0 : Kd.C k50 w A0 l0.length l0) (hc0 : l0.length ≤ c0) (h : foundrylaw14_CodeEncodes.f k l0 = some r) (hTb : Flt.Tb w) :
  Calls Tryz.prog 10 #[.slice A0 l0.length c0] w fun e w' => e = .returned (.bool r) ∧ Below w.heap.size w w' := by
 have HTB_ := am hTb
 clear hTb
 have aT := am hr0
 have aS := am hc0
 clear hr0 hc0
 have HB := am (Below.refl w.heap.size w)
 have H : ((qAp.f k l0).bind fun aD => ((qAL.f aD).bind fun aJ => ((qAA.f k l0).bind fun aI => ((qAn.f aJ.1 aI.1).bind fun aK => (if aK = true then (if aJ.2 = aI.2 then ((qAT.f aD).bind fun aG => ((qA6.f l0).bind fun aF => (if aG.toList = aF.toList then ((qAe.f k aD l0).bind fun aH => (if aH = true then ((qAv.f).bind fun aE => (some aE)) else (none))) else (none)))) else (none)) else (none)))))) = some r := h
 clear h
 replace H := bm H
 obtain ⟨aD, a7, H⟩ := H
 replace H : ((qAL.f aD).bind fun aJ => ((qAA.f k l0).bind fun aI => ((qAn.f aJ.1 aI.1).bind fun aK => (if aK = true then (if aJ.2 = aI.2 then ((qAT.f aD).bind fun aG => ((qA6.f l0).bind fun aF => (if aG.toList = aF.toList then ((qAe.f k aD l0).bind fun aH => (if aH = true then ((qAv.f).bind fun aE => (some aE)) else (none))) else (none)))) else (none)) else (none))))) = some r := H
 have A2 := am a7
 clear a7
 replace H := bm H
 obtain ⟨⟨aN, aL⟩, a8, H⟩ := H
 replace H : ((qAA.f k l0).bind fun aI => ((qAn.f aN aI.1).bind fun aK => (if aK = true then (if aL = aI.2 then ((qAT.f aD).bind fun aG => ((qA6.f l0).bind fun aF => (if aG.toList = aF.toList then ((qAe.f k aD l0).bind fun aH => (if aH = true then ((qAv.f).bind fun aE => (some aE)) else (none))) else (none)))) else (none)) else (none)))) = some r := H
 have A3 := am a8
 clear a8
 replace H := bm H
 obtain ⟨⟨aP, aM⟩, a9, H⟩ := H
 replace H : ((qAn.f aN aP).bind fun aK => (if aK = true then (if aL = aM then ((qAT.f aD).bind fun aG => ((qA6.f l0).bind fun aF => (if aG.toList = aF.toList then ((qAe.f k aD l0).bind fun aH => (if aH = true then ((qAv.f).bind fun aE => (some aE)) else (none))) else (none)))) else (none)) else (none))) = some r := H
 have A4 := am a9
 clear a9
 replace H := bm H
 obtain ⟨aK, aa, H⟩ := H
 replace H : (if aK = true then (if aL = aM then ((qAT.f aD).bind fun aG => ((qA6.f l0).bind fun aF => (if aG.toList = aF.toList then ((qAe.f k aD l0).bind fun aH => (if aH = true then ((qAv.f).bind fun aE => (some aE)) else (none))) else (none)))) else (none)) else (none)) = some r := H
 have A5 := am aa
 clear aa
 by_cases c6 : aK = true
 ·subst c6
  replace H : (if aL = aM then ((qAT.f aD).bind fun aG => ((qA6.f l0).bind fun aF => (if aG.toList = aF.toList then ((qAe.f k aD l0).bind fun aH => (if aH = true then ((qAv.f).bind fun aE => (some aE)) else (none))) else (none)))) else (none)) = some r := by rw [if_pos rfl] at H; exact H
  by_cases c7 : aL = aM
  ·rw [if_pos c7] at H
   have ah : (aL == aM) = true := beq_iff_eq.mpr c7
   have ai : (aL != aM) = false := bn c7
   clear c7
   replace H := bm H
   obtain ⟨aG, ab, H⟩ := H
   replace H : ((qA6.f l0).bind fun aF => (if aG.toList = aF.toList then ((qAe.f k aD l0).bind fun aH => (if aH = true then ((qAv.f).bind fun aE => (some aE)) else (none))) else (none))) = some r := H
   have A8 := am ab
   clear ab
   replace H := bm H
   obtain ⟨aF, ac, H⟩ := H
   replace H : (if aG.toList = aF.toList then ((qAe.f k aD l0).bind fun aH => (if aH = true then ((qAv.f).bind fun aE => (some aE)) else (none))) else (none)) = some r := H
   have A9 := am ac
   clear ac
   by_cases c10 : aG.toList = aF.toList
   ·rw [if_pos c10] at H
    have ad : (aG.toList == aF.toList) = true := beq_iff_eq.mpr c10
    have ae : (aG.toList != aF.toList) = false := bn c10
    clear c10
    replace H := bm H
    obtain ⟨aH, aQ, H⟩ := H
    replace H : (if aH = true then ((qAv.f).bind fun aE => (some aE)) else (none)) = some r := H
    have ag := am aQ
    clear aQ
    by_cases aU : aH = true
    ·subst aU
     replace H : ((qAv.f).bind fun aE => (some aE)) = some r := by rw [if_pos rfl] at H; exact H
     replace H := bm H
     obtain ⟨aE, aR, H⟩ := H
     replace H : (some aE) = some r := H
     have aV := am aR
     clear aR
     obtain rfl := Option.some.inj H
     go_enter Tryz.func10, Tryz.ntmps10
     go_wp2_with (first | ((with_reducible refine qA7 (f := 32) rfl ?_); refine qBs (some 9) rfl rfl Tryz.func32 (by kernel_rfl) rfl #[.slice A0 l0.length c0] rfl (by (try simp only [List.map_toArray, List.map_cons, List.map_nil]); first | done | rfl | (simp only [List.length_drop, List.length_take]; rfl)) ?_; (with_reducible refine (qAp.calls k _ _ l0 aD _ ?side1 ?side2 A2.o).mono ?_); (case side1 => repeat (first | exact aT.o | (with_reducible refine Kd.C_alloc ?_ _) | (with_reducible refine Kd.C_drewN ?_ _) | (with_reducible refine Kd.C_drew ?_))); (case side2 => exact aS.o); rintro e ap ⟨aj, rfl, aO, hb⟩; refine ⟨_, rfl, ?_⟩; have n0_ := am (Kd.R_lower aO (qA2 (by repeat (first | (with_reducible first | exact HB.o | apply qAb | apply qAa | apply qAd) | exact HB.o)))); have n1_ := am (qAt (by repeat (first | (with_reducible first | exact HB.o | apply qAb | apply qAa | apply qAd) | exact HB.o)) hb); clear HB; have aA := n0_; have HB := n1_; clear n0_ n1_; obtain ⟨aW, aZ, a4⟩ := Kd.R_slice aA.o; subst a4) | ((with_reducible refine qA7 (f := 19) rfl ?_); refine qBs (some 12) rfl rfl Tryz.func19 (by kernel_rfl) rfl #[.slice aW aD.length aZ] rfl (by (try simp only [List.map_toArray, List.map_cons, List.map_nil]); first | done | rfl | (simp only [List.length_drop, List.length_take]; rfl)) ?_; (with_reducible refine (qAL.calls _ _ aD aN aL _ ?side1 ?side2 A3.o).mono ?_); (case side1 => repeat (first | exact (Kd.R_reads' aA.o).2.2 | (with_reducible refine Kd.C_alloc ?_ _) | (with_reducible refine Kd.C_drewN ?_ _) | (with_reducible refine Kd.C_drew ?_))); (case side2 => exact (Kd.R_reads' aA.o).2.1); rintro e aq ⟨ak, rfl, aO, hb⟩; refine ⟨_, rfl, ?_⟩; have n0_ := am (Kd.R_below (by (with_reducible repeat (first | apply Kd.R_alloc | apply Kd.R_drewN | apply Kd.R_drew)); exact aA.o) hb); have n1_ := am (Kd.R_lower aO (qA2 (by repeat (first | (with_reducible first | exact HB.o | apply qAb | apply qAa | apply qAd) | exact HB.o)))); have n2_ := am (qAt (by repeat (first | (with_reducible first | exact HB.o | apply qAb | apply qAa | apply qAd) | exact HB.o)) hb); clear aA; clear HB; have aA := n0_; have aB := n1_; have HB := n2_; clear n0_ n1_ n2_) | ((with_reducible refine qA7 (f := 36) rfl ?_); refine qBs (some 17) rfl rfl Tryz.func36 (by kernel_rfl) rfl #[.slice A0 l0.length c0] rfl (by (try simp only [List.map_toArray, List.map_cons, List.map_nil]); first | done | rfl | (simp only [List.length_drop, List.length_take]; rfl)) ?_; (with_reducible refine (qAA.calls k _ _ l0 aP aM _ ?side1 ?side2 A4.o).mono ?_); (case side1 => repeat (first | exact (Kd.C_below aT.o HB.o) | (with_reducible refine Kd.C_alloc ?_ _) | (with_reducible refine Kd.C_drewN ?_ _) | (with_reducible refine Kd.C_drew ?_))); (case side2 => exact aS.o); rintro e ar ⟨al, rfl, aO, hb⟩; refine ⟨_, rfl, ?_⟩; have n0_ := am (Kd.R_below (by (with_reducible repeat (first | apply Kd.R_alloc | apply Kd.R_drewN | apply Kd.R_drew)); exact aA.o) hb); have n1_ := am (Kd.R_elder' (by (with_reducible repeat (first | apply Kd.R_alloc | apply Kd.R_drewN | apply Kd.R_drew)); exact aB.o) (Kd.R_base aO) hb); have n2_ := am (Kd.R_lower (Kd.R_new' aO (Kd.R_lt (by (with_reducible repeat (first | apply Kd.R_alloc | apply Kd.R_drewN | apply Kd.R_drew)); exact aB.o))) (qA2 (by repeat (first | (with_reducible first | exact HB.o | apply qAb | apply qAa | apply qAd) | exact HB.o)))); have n3_ := am (qAt (by repeat (first | (with_reducible first | exact HB.o | apply qAb | apply qAa | apply qAd) | exact HB.o)) hb); clear aA; clear aB; clear HB; have aA := n0_; have aB := n1_; have aC := n2_; have HB := n3_; clear n0_ n1_ n2_ n3_; obtain ⟨aX, a1, a5⟩ := Kd.R_slice aB.o; subst a5; obtain ⟨aY, a3, a6⟩ := Kd.R_slice aC.o; subst a6) | ((with_reducible refine qA7 (f := 22) rfl ?_); refine qBs (some 22) rfl rfl Tryz.func22 (by kernel_rfl) rfl #[.slice aX aN.length a1, .slice aY aP.length a3] rfl (by (try simp only [List.map_toArray, List.map_cons, List.map_nil]); first | done | rfl | (simp only [List.length_drop, List.length_take]; rfl)) ?_; (with_reducible refine (qAn.calls _ _ aN _ _ aP true _ ?side1 ?side2 ?side3 ?side4 A5.o).mono ?_); (case side1 => repeat (first | exact (Kd.R_reads' aB.o).2.2 | (with_reducible refine Kd.C_alloc ?_ _) | (with_reducible refine Kd.C_drewN ?_ _) | (with_reducible refine Kd.C_drew ?_))); (case side2 => exact (Kd.R_reads' aB.o).2.1); (case side3 => repeat (first | exact (Kd.R_reads' aC.o).2.2 | (with_reducible refine Kd.C_alloc ?_ _) | (with_reducible refine Kd.C_drewN ?_ _) | (with_reducible refine Kd.C_drew ?_))); (case side4 => exact (Kd.R_reads' aC.o).2.1); rintro e w' ⟨rfl, ⟨nd, rfl⟩⟩; refine ⟨_, rfl, ?_⟩) | (go_at_call 37; (with_reducible refine (qAT.calls _ _ aD aG _ ?side1 ?side2 A8.o (HTB_.o.below (by repeat (first | (with_reducible first | exact HB.o | apply qAb | apply qAa | apply qAd) | exact HB.o)))).mono ?_); (case side1 => repeat (first | exact (Kd.R_reads' aA.o).2.2 | (with_reducible refine Kd.C_alloc ?_ _) | (with_reducible refine Kd.C_drewN ?_ _) | (with_reducible refine Kd.C_drew ?_))); (case side2 => exact (Kd.R_reads' aA.o).2.1); rintro e an ⟨rfl, hb⟩; have n0_ := am (Kd.R_below (by (with_reducible repeat (first | apply Kd.R_alloc | apply Kd.R_drewN | apply Kd.R_drew)); exact aA.o) hb); have n1_ := am (Kd.R_below (by (with_reducible repeat (first | apply Kd.R_alloc | apply Kd.R_drewN | apply Kd.R_drew)); exact aB.o) hb); have n2_ := am (Kd.R_below (by (with_reducible repeat (first | apply Kd.R_alloc | apply Kd.R_drewN | apply Kd.R_drew)); exact aC.o) hb); have n3_ := am (qAt (by repeat (first | (with_reducible first | exact HB.o | apply qAb | apply qAa | apply qAd) | exact HB.o)) hb); clear aA; clear aB; clear aC; clear HB; have aA := n0_; have aB := n1_; have aC := n2_; have HB := n3_; clear n0_ n1_ n2_ n3_) | (go_at_call 17; (with_reducible refine (qAv.calls  aE _ aV.o).mono ?_); rintro e af ⟨rfl, hb⟩; have n0_ := am (Kd.R_below (by (with_reducible repeat (first | apply Kd.R_alloc | apply Kd.R_drewN | apply Kd.R_drew)); exact aA.o) hb); have n1_ := am (Kd.R_below (by (with_reducible repeat (first | apply Kd.R_alloc | apply Kd.R_drewN | apply Kd.R_drew)); exact aB.o) hb); have n2_ := am (Kd.R_below (by (with_reducible repeat (first | apply Kd.R_alloc | apply Kd.R_drewN | apply Kd.R_drew)); exact aC.o) hb); have n3_ := am (qAt (by repeat (first | (with_reducible first | exact HB.o | apply qAb | apply qAa | apply qAd) | exact HB.o)) hb); clear aA; clear aB; clear aC; clear HB; have aA := n0_; have aB := n1_; have aC := n2_; have HB := n3_; clear n0_ n1_ n2_ n3_) | (go_at_call 38; (with_reducible refine (qA6.calls _ _ l0 aF _ ?side1 ?side2 A9.o).mono ?_); (case side1 => repeat (first | exact (Kd.C_below aT.o (by repeat (first | (with_reducible first | exact HB.o | apply qAb | apply qAa | apply qAd) | exact HB.o))) | (with_reducible refine Kd.C_alloc ?_ _) | (with_reducible refine Kd.C_drewN ?_ _) | (with_reducible refine Kd.C_drew ?_))); (case side2 => exact aS.o); rintro e ao ⟨rfl, hb⟩; have n0_ := am (Kd.R_below (by (with_reducible repeat (first | apply Kd.R_alloc | apply Kd.R_drewN | apply Kd.R_drew)); exact aA.o) hb); have n1_ := am (Kd.R_below (by (with_reducible repeat (first | apply Kd.R_alloc | apply Kd.R_drewN | apply Kd.R_drew)); exact aB.o) hb); have n2_ := am (Kd.R_below (by (with_reducible repeat (first | apply Kd.R_alloc | apply Kd.R_drewN | apply Kd.R_drew)); exact aC.o) hb); have n3_ := am (qAt (by repeat (first | (with_reducible first | exact HB.o | apply qAb | apply qAa | apply qAd) | exact HB.o)) hb); clear aA; clear aB; clear aC; clear HB; have aA := n0_; have aB := n1_; have aC := n2_; have HB := n3_; clear n0_ n1_ n2_ n3_) | (go_at_call 17; (with_reducible refine (qAv.calls  aE _ aV.o).mono ?_); rintro e af ⟨rfl, hb⟩; have n0_ := am (Kd.R_below (by (with_reducible repeat (first | apply Kd.R_alloc | apply Kd.R_drewN | apply Kd.R_drew)); exact aA.o) hb); have n1_ := am (Kd.R_below (by (with_reducible repeat (first | apply Kd.R_alloc | apply Kd.R_drewN | apply Kd.R_drew)); exact aB.o) hb); have n2_ := am (Kd.R_below (by (with_reducible repeat (first | apply Kd.R_alloc | apply Kd.R_drewN | apply Kd.R_drew)); exact aC.o) hb); have n3_ := am (qAt (by repeat (first | (with_reducible first | exact HB.o | apply qAb | apply qAa | apply qAd) | exact HB.o)) hb); clear aA; clear aB; clear aC; clear HB; have aA := n0_; have aB := n1_; have aC := n2_; have HB := n3_; clear n0_ n1_ n2_ n3_) | (go_at_call 35; (with_reducible refine (qAe.calls k _ _ aD _ _ l0 true _ ?side1 ?side2 ?side3 ?side4 ag.o).mono ?_); (case side1 => repeat (first | exact (Kd.R_reads' aA.o).2.2 | (with_reducible refine Kd.C_alloc ?_ _) | (with_reducible refine Kd.C_drewN ?_ _) | (with_reducible refine Kd.C_drew ?_))); (case side2 => exact (Kd.R_reads' aA.o).2.1); (case side3 => repeat (first | exact (Kd.C_below aT.o (by repeat (first | (with_reducible first | exact HB.o | apply qAb | apply qAa | apply qAd) | exact HB.o))) | (with_reducible refine Kd.C_alloc ?_ _) | (with_reducible refine Kd.C_drewN ?_ _) | (with_reducible refine Kd.C_drew ?_))); (case side4 => exact aS.o); rintro e au ⟨rfl, hb⟩; have n0_ := am (Kd.R_below (by (with_reducible repeat (first | apply Kd.R_alloc | apply Kd.R_drewN | apply Kd.R_drew)); exact aA.o) hb); have n1_ := am (Kd.R_below (by (with_reducible repeat (first | apply Kd.R_alloc | apply Kd.R_drewN | apply Kd.R_drew)); exact aB.o) hb); have n2_ := am (Kd.R_below (by (with_reducible repeat (first | apply Kd.R_alloc | apply Kd.R_drewN | apply Kd.R_drew)); exact aC.o) hb); have n3_ := am (qAt (by repeat (first | (with_reducible first | exact HB.o | apply qAb | apply qAa | apply qAd) | exact HB.o)) hb); clear aA; clear aB; clear aC; clear HB; have aA := n0_; have aB := n1_; have aC := n2_; have HB := n3_; clear n0_ n1_ n2_ n3_) | (go_at_call 17; (with_reducible refine (qAv.calls  aE _ aV.o).mono ?_); rintro e af ⟨rfl, hb⟩; have n0_ := am (Kd.R_below (by (with_reducible repeat (first | apply Kd.R_alloc | apply Kd.R_drewN | apply Kd.R_drew)); exact aA.o) hb); have n1_ := am (Kd.R_below (by (with_reducible repeat (first | apply Kd.R_alloc | apply Kd.R_drewN | apply Kd.R_drew)); exact aB.o) hb); have n2_ := am (Kd.R_below (by (with_reducible repeat (first | apply Kd.R_alloc | apply Kd.R_drewN | apply Kd.R_drew)); exact aC.o) hb); have n3_ := am (qAt (by repeat (first | (with_reducible first | exact HB.o | apply qAb | apply qAa | apply qAd) | exact HB.o)) hb); clear aA; clear aB; clear aC; clear HB; have aA := n0_; have aB := n1_; have aC := n2_; have HB := n3_; clear n0_ n1_ n2_ n3_))
     go_ret
     exact ⟨by first | rfl | (simp [errW_none, errW_some] <;> rfl) | (simp [*, errW_none, errW_some] <;> rfl), by repeat (first | (with_reducible first | exact HB.o | apply qAb | apply qAa | apply qAd) | exact HB.o)⟩
    ·replace aU := Bool.eq_false_iff.mpr aU
     subst aU
     replace H : (none) = some r := by rw [if_neg (show ¬ (false = true) by decide)] at H; exact H
     exact absurd H (by simp)
   ·rw [if_neg c10] at H
    exact absurd H (by simp)
  ·rw [if_neg c7] at H
   exact absurd H (by simp)
 ·replace c6 := Bool.eq_false_iff.mpr c6
  subst c6
  replace H : (none) = some r := by rw [if_neg (show ¬ (false = true) by decide)] at H; exact H
  exact absurd H (by simp)
end Q
end
section
namespace Q
open Go.RowKit YA YC YB
open Val Ins
namespace C14
theorem encodes_ev (l : List S50) (hg : l.length ≤ 1048576 ∧ ∀ x ∈ l, qB9 1048576 x) : Ev (fun k => foundrylaw14_CodeEncodes.f k l) true := by
 have hl := hg.1
 have hu : ∀ x ∈ l, 0 ≤ x.f2.f1 ∧ x.f2.f1 < 18446744073709551616 := fun x hx => u64_bounds (hg.2 x hx).2.2.2
 have hall : (l.map ofI).all u64S = true := List.all_eq_true.2 fun y hy => by
  obtain ⟨x, hx, rfl⟩ := List.mem_map.1 hy
  exact decide_eq_true (hu x hx)
 have he : qAL.f (l.map ofI) = some (encS (l.map ofI)) := if_pos hall
 have hr : ∀ k, qAA.f k l = some (encS (l.map ofI)) := fun k => if_pos hall
 have hs : qAn.f (encS (l.map ofI)).1 (encS (l.map ofI)).1 = some true := by
  unfold qAn.f; rw [beq_self_eq_true]
 have htx : txB (l.map ofI) = true := by
  unfold txB
  rw [hall, Bool.and_true, List.length_map]
  exact decide_eq_true (by omega)
 have ht : qAT.f (l.map ofI) = some ⟨(Txs.txs (l.map ofI)).toArray⟩ := if_pos htx
 have hq : qA6.f l = some ⟨(Txs.txs (l.map ofI)).toArray⟩ := if_pos htx
 unfold foundrylaw14_CodeEncodes.f
 refine Ev.bind (mine_ev l hl) ?_
 refine Ev.congr (f := fun k => (qAe.f k (l.map ofI) l).bind fun t952 => (if t952 = true then ((qAv.f).bind fun t953 => (some t953)) else (none))) (fun k => ?_) (Ev.bind (same_ev l (by omega)) ?_)
 ·rw [he, Option.bind_some, hr, Option.bind_some, hs, Option.bind_some, if_pos rfl, if_pos rfl, ht, hq, Option.bind_some, Option.bind_some, if_pos rfl]
 rw [if_pos rfl, live_eq]
 exact Ev.now _
end C14
end Q
end
section
namespace codeEncodes
open Go.ChangeShapes Go.WideShapes Go.ChangeAt Go.RowKit
theorem own : ownKnob Tryz.prog.godebug = none := by kernel_rfl
theorem laidOut : laidOutB Tryz.prog = true := by kernel_rfl
theorem contract (H : Type) (enc : TypeId × Value → H) (W : World) (base : Nat) (args : Array Value) (ds gs : List (DataW H)) (before : List MemPlace)
  (hval0 : ∀ (j : Nat) t v, Tryz.f10.params[j]? = some t → args[j]? = some v → Value.okWide Tryz.prog W .any base t v)
  (hW : DataW.Whole enc Tryz.prog Tryz.f10.params.toList Rows.codeEncodesSpec.vars false W args.toList ds gs before) (hk0 : decide (Rows.uptoBulkAll (ds ++ gs) ≤ 1048576) = true) (hL : laidMet Tryz.prog Rows.codeEncodesUptoRow.laid W) :
  Calls Tryz.prog 10 args W fun e W' => ∃ v, e = .returned v ∧ Rows.codeEncodesSpec.post enc Tryz.prog Tryz.f10 false true false false W args v W' := by
 have hval : ∀ (j : Nat) t v, Tryz.f10.params[j]? = some t → args[j]? = some v → Value.okWide Tryz.prog W .any base t v := hval0
 have hW' := hW
 obtain ⟨p, q, hA0, hV, rfl, hfz, hnd⟩ := hW
 have hA : DataW.TrodAll enc Tryz.prog W 0 (fun _ => true) true Tryz.f10.params.toList args.toList ds p := hA0
 rw [Tryz.params10] at hA hval
 obtain ⟨v0, vs0, d0, ds0, p0, q0, hargs, rfl, rfl, h0, r0⟩ := trodAll_cons hA
 obtain ⟨rfl, rfl, rfl⟩ := trodAll_nil r0
 obtain rfl : args = #[v0] := by cases args; simp_all
 obtain ⟨rfl, rfl⟩ := trodVars_none hV
 have hk := of_decide_eq_true hk0
 simp only [List.append_nil, Rows.uptoBulkAll] at hk
 have k0 := h0
 have lt0 : ∀ x ∈ p0, x.block < W.heap.size := by obtain ⟨m, hm⟩ := k0; exact DataW.trod_lt m _ _ _ hm
 obtain ⟨sa0, sl0, sc0, rfl⟩ := okWide_slice Tryz.underlying25 (hval 0 25 v0 rfl rfl)
 obtain ⟨fuel0, hf0⟩ := h0
 obtain ⟨x0, hK0, hG0⟩ := (Q.opens_slice Tryz.underlying25 (by kernel_rfl) (Q.opens_foundryref14_Ins W 1048576)) H enc 0 (fun _ => true) true fuel0 _ _ hf0 (by show Rows.uptoBulk d0 ≤ _; omega)
 obtain ⟨A0, c0, he0, l0, g0⟩ := hK0
 have he0 : [Value.slice sa0 sl0 sc0] = [Value.slice A0 x0.length c0] := he0
 injection he0 with he0 _
 simp only [Value.slice.injEq] at he0
 obtain ⟨rfl, rfl, rfl⟩ := he0
 clear hf0
 obtain ⟨k, hkk⟩ := (Q.C14.encodes_ev x0 hG0).rounds
 clear hA0 hval0
 refine (Q.foundrylaw14_CodeEncodes.calls k sa0 sc0 x0 true W g0 l0 hkk (Q.Flt.tb_of hL)).mono fun e W' ⟨he', bel⟩ => ?_
 subst he'
 exact ⟨_, rfl, _, _, _, [], _, [], hW', trodAll_mk1 (shut_bool Tryz.underlying4 _), (trodAll_cons_mk (Below.trod laidOut (by kernel_rfl) (of_decide_eq_true (by kernel_rfl)) k0 bel lt0) trodAll_mk0), rfl, bel.frame _, fun h => by cases h⟩
theorem row_shaped {H : Type} {enc : TypeId × Value → H} {C : Checked} {os : Os} {f : FuncId} {fn : Func} {s : OpenSpec} {conds : List PathCond} {apart : Bool} {laid : List (String × DataW Unit)} (modest : Bool) (w0 : World) (args : Array Value) (hos : w0.os = os)
  (hsh : (w0.forCall (fun _ _ => 0) ⟨#[], args, []⟩).Shaped C.prog)
  (hok : Input.okWideB C.prog (w0.forCall (fun _ _ => 0) ⟨#[], args, []⟩) f ⟨#[], args, []⟩ = true)
  (hrow : s.preRow enc C.prog fn conds apart laid (w0.forCall (fun _ _ => 0) ⟨#[], args, []⟩).memory args) :
  ∃ (w : World) (tape : Tape) (i : Input), w.os = os ∧ (w.forCall tape i).Shaped C.prog ∧ i.vars = [] ∧ Input.okWide C.prog (w.forCall tape i) .any w.heap.size f i ∧
   s.preRow enc C.prog fn conds apart laid (w.forCall tape i).memory i.args ∧ ({ modest := modest } : Assume).holds C.prog (lone (Frame.enter C.prog f i.args .normal) [] (w.forCall tape i)) :=
 ⟨w0, fun _ _ => 0, ⟨#[], args, []⟩, hos, hsh, (Input.okWide_of_okWideB (base := 0) hok).1, (Input.okWide_of_okWideB hok).2, hrow, by
   simp only [Assume.holds]
   exact ⟨by simp, by simp, fun _ => Modest.zero, by simp, by simp⟩⟩
theorem laid_met (os : Os) : laidMet Tryz.prog Rows.codeEncodesUptoRow.laid (((World.laidAll Tryz.prog os Rows.codeEncodesUptoRow.laid)).forCall (fun _ _ => 0) ⟨#[], #[.slice none 0 0], []⟩).memory := laidMet_laidAll _ (by kernel_rfl) (by kernel_rfl)
theorem reads (os : Os) {H : Type} (enc : TypeId × Value → H) : ∃ places, DataW.whole enc Tryz.prog ((World.laidAll Tryz.prog os Rows.codeEncodesUptoRow.laid).forCall (fun _ _ => 0) ⟨#[], #[.slice none 0 0], []⟩).memory Tryz.f10.params.toList Rows.codeEncodesSpec.vars false (#[.slice none 0 0] : Array Value).toList 8 = some ([.nil], [], places) :=
 ⟨[], by kernel_rfl⟩
theorem lifted (os : Os) (started : os.Started) (H : Type) (enc : TypeId × Value → H) (F : Stop.Interp) :
  ReturnsInHanded {} Tryz.checked os 10 .any ((Rows.OpenSpec.upto Rows.codeEncodesSpec).preRow enc Tryz.prog Tryz.f10 Rows.codeEncodesUptoRow.domain false Rows.codeEncodesUptoRow.laid) (((Rows.OpenSpec.upto Rows.codeEncodesSpec).at F).post enc Tryz.prog Tryz.f10 false true false false) := by
 obtain ⟨places, hx⟩ := reads os enc
 refine returnsInHanded_of_row (C := Tryz.checked) (s := Rows.OpenSpec.upto Rows.codeEncodesSpec) own started (by kernel_rfl) Tryz.func10
  (row_shaped (enc := enc) (C := Tryz.checked) false (World.laidAll Tryz.prog os Rows.codeEncodesUptoRow.laid) #[.slice none 0 0] (World.laidAll_os _ _ _) (World.shaped_of_ZipB (by kernel_rfl) (by kernel_rfl)) (by kernel_rfl)
    (OpenSpec.preRow_of_cond (s := Rows.OpenSpec.upto Rows.codeEncodesSpec) 8 hx (by kernel_rfl) (fun k hk => by cases hk; kernel_rfl) (by kernel_rfl) (laid_met os))) ?_
 intro W base args ds gs before hval hW _ hcond _ hL _ _
 exact contract H enc W base args ds gs before hval hW (hcond _ rfl) hL
theorem saidUpto : Rows.CodeEncodesUptoSaid :=
 OpenClaim.holds_of_cond 10 Tryz.f10 rfl rfl rfl rfl rfl rfl rfl ⟨rfl, rfl, rfl, rfl, rfl⟩ rfl rfl rfl rfl rfl (by kernel_rfl) Tryz.func10 (by kernel_rfl)
  (of_decide_eq_true (by kernel_rfl)) (by unfold Func.isWrapper; first | (rw [if_pos (by decide +kernel)]; kernel_rfl) | (rw [if_neg (by decide +kernel)]; exact ⟨rfl, rfl⟩))
  (fun os started H enc _ F => by rw [OpenClaim.pre_eq_preRow]; exact lifted os started H enc F)
theorem plain (f : FuncId) (fn : Func) (hf : Tryz.pinned.checked.prog.funcNamed "foundry/foundrylaw14.CodeEncodes" = some f) (hfn : Tryz.pinned.checked.prog.funcs[f]? = some fn) :
  false = Tryz.pinned.checked.prog.looks [] ∧ ∀ (j : Nat) t, fn.params[j]? = some t → Tryz.pinned.checked.prog.wantsStandIn t = false := by
 obtain rfl : f = 10 := Option.some.inj ((show Tryz.prog.funcNamed "foundry/foundrylaw14.CodeEncodes" = some 10 by kernel_rfl).symm.trans hf) |>.symm
 obtain rfl : fn = Tryz.f10 := (Option.some.inj (Tryz.func10.symm.trans hfn)).symm
 refine ⟨by kernel_rfl, fun j t ht => ?_⟩
 rw [Tryz.params10] at ht
 have hm : t = 25 := by simpa using Array.mem_of_getElem? ht
 rcases hm with rfl
 ·exact (show Tryz.prog.wantsStandIn 25 = false by kernel_rfl)
theorem card : Rows.CodeEncodesUptoCardSaid :=
 Claim7.holds_tied_plain_at .later [] _ _ _ _ saidUpto (fun _ h => by cases h) (by kernel_rfl) (fun _ h => by cases h) codeEncodesUpto_row_tie rfl ⟨rfl, rfl⟩ (by kernel_rfl) rfl plain (by kernel_rfl)
end codeEncodes

theorem codeEncodes_card : Rows.CodeEncodesUptoCardSaid := codeEncodes.card
end
end Go.Proofs.YtfddibbignedkaaGreatDoor
