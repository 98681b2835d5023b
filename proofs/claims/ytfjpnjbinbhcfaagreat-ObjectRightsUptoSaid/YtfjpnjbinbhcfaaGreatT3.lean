/- The program's object.Right of any object and the document's tell the same, where what is read is of bulk at most 1048576: Rows.ObjectRightsUptoSaid. Part 3 of 10. -/
import Derived.Test.YtfjpnjbinbhcfaaGreatT2
import Derived.Laws.BitsAllLaws
import Derived.WalkLawsBesides
import Derived.Defers
import Derived.Recover
import Derived.Lib.SliceRun
import Derived.Deep.RegionHeld3
import Derived.RegionDies
set_option maxHeartbeats 8000000
set_option maxRecDepth 100000
set_option linter.unusedVariables false
set_option linter.unusedSimpArgs false
namespace Go.Proofs.YtfjpnjbinbhcfaaGreat
section
namespace Dec
open Go.RowKit Base Val Ins Wr Enc DecLaw
def slen : Value → Nat
 | .slice _ n _ => n
 | _ => 0
def qDC (x : InsD) : List Value := [.int .i64 x.op, .int .i64 x.n, .int .i64 x.ty, .int .u64 x.b]
def insC (l : List InsD) : List Value := l.flatMap qDC
theorem qEJ (l : List InsD) (x : InsD) : insC (l ++ [x]) = insC l ++ qDC x := by simp [insC]
theorem qDE (l : List InsD) (x : InsD) : encB (l ++ [x]) = encB l ++ insB x := by simp [encB]
theorem infoIns : (Tryz.prog.info? 144).map (fun i => (i.zero, i.size, i.bytes)) = some (some (.agg #[.int .i64 0, .int .i64 0, .int .i64 0, .int .u64 0]), 4, 32) := by kernel_rfl
def BytesAt (W : World) (b o : Nat) (bs : List Int) : Prop := ∀ j y, bs[j]? = some y → W.cell? ⟨b, o + j, none⟩ = some (.int .u8 y)
theorem or_low (a x : Int) (ha : 0 ≤ a) (ha2 : a < 18446744073709551616) (hx : 0 ≤ x) (hx2 : x < 256) : bits .or .u64 (a * 256 % 18446744073709551616) x = a * 256 % 18446744073709551616 + x := by
 obtain ⟨n, rfl⟩ := Int.eq_ofNat_of_zero_le ha
 obtain ⟨y, rfl⟩ := Int.eq_ofNat_of_zero_le hx
 have hy : y < 2 ^ 8 := by omega
 have e : ((n : Int) * 256 % 18446744073709551616) = ((n % 72057594037927936 * 256 : Nat) : Int) := by omega
 rw [e, u64_or_nat _ _ (by omega) (by omega)]
 have := Nat.shiftLeft_add_eq_or_of_lt hy (n % 72057594037927936)
 rw [Nat.shiftLeft_eq] at this
 rw [← this]
 omega
theorem wrap_256 (a : Int) : IntKind.u64.wrap (a * 256) = a * 256 % 18446744073709551616 := by simp [IntKind.wrap, IntKind.bits, IntKind.signed]
theorem qFa (l : List Int) (h : qB6 l) : 0 ≤ valB l ∧ valB l < 256 ^ l.length := by
 have e := be_valB l.length l rfl h
 induction hn : l.length generalizing l with
 | zero => rw [List.length_eq_zero_iff.1 hn]; exact ⟨by decide, by decide⟩
 | succ m ih =>
  obtain ⟨l0, x, rfl⟩ : ∃ l0 x, l = l0 ++ [x] := ⟨l.dropLast, l.getLast (by intro e; simp [e] at hn), (List.dropLast_concat_getLast _).symm⟩
  have hb0 : qB6 l0 := fun y hy => h y (by simp [hy])
  have hx := h x (by simp)
  have hm : l0.length = m := by simpa using hn
  have := ih l0 hb0 (be_valB l0.length l0 rfl hb0) hm
  rw [qDR, Int.pow_succ]
  omega
theorem foldl_val (l : List Int) : ∀ a : Int, l.foldl (fun v x => v * 256 + x) a = a * 256 ^ l.length + valB l := by
 induction l with
 | nil => intro a; simp [valB]
 | cons x l ih =>
  intro a
  have e := ih (0 * 256 + x)
  show l.foldl (fun v x => v * 256 + x) (a * 256 + x) = a * 256 ^ (l.length + 1) + l.foldl (fun v x => v * 256 + x) (0 * 256 + x)
  rw [ih (a * 256 + x), e, Int.pow_succ, Int.add_mul, Int.mul_assoc, Int.mul_comm 256]
  simp [Int.add_assoc]
theorem valB_cons (x : Int) (l : List Int) (_ : qB6 l) : valB (x :: l) = x * 256 ^ l.length + valB l := by
 have := foldl_val l x
 show l.foldl (fun v x => v * 256 + x) (0 * 256 + x) = _
 rw [show (0 : Int) * 256 + x = x by omega]; exact this
theorem qDa {bs r : List Int} {l : List InsD} (hl : ∀ x ∈ l, x.ok = true ∧ U64 x.b) (h4 : l.length ≤ 4096) (hbs : bs = encB l ++ r) (hr : r ≠ []) (hp : (qBV r).ok = false) : DecBad bs :=
 ⟨l, r, hl, h4, hbs, hr, fun x t hx hb e => by rw [e, qDv hx hb t, hx] at hp; cases hp⟩
theorem qEf {W W' : World} {N0 n sz : Nat} {E : TypeId} {v : Value} {xs : List Value} (h : W.ownsRow N0 E sz v n xs) (hB : Below W.heap.size W W') : W'.ownsRow N0 E sz v n xs := by
 refine ⟨h.1, ?_⟩
 rcases h.2 with r | ⟨g, cap, cur, hv, hb, hg, r⟩
 ·exact .inl r
 exact .inr ⟨g, cap, cur, hv, hb, (hB.block g (Array.getElem?_eq_some_iff.1 hg).1).trans hg, r⟩
def DecPost (bs : List Int) (w : World) (e : Ending) (w' : World) : Prop :=
 Below w.heap.size w w' ∧
  ((∃ l v, DecOk bs l ∧ e = .returned (.tuple #[v, .int .i64 0]) ∧ w'.ownsRow w.heap.size 144 4 v l.length (insC l)) ∨
    (DecBad bs ∧ e = .returned (.tuple #[.slice none 0 0, .int .i64 51])) ∨ (qE4 bs ∧ e = .returned (.tuple #[.slice none 0 0, .int .i64 3])))
theorem decode_some (b o c : Nat) (bs : List Int) (w : World) (h : BytesAt w b o bs) (hb : b < w.heap.size) (hbs : qB6 bs) (hc : bs.length ≤ c) :
  Calls Tryz.prog 88 #[.slice (some ⟨b, o, none⟩) bs.length c] w (DecPost bs w) := by
 have H := hid h
 have HBS := hid hbs
 clear h hbs
 go_enter Tryz.func88, Tryz.ntmps88
 go_wp2
 go_loopw [0, 4] (fun t v wr => ∃ (l : List InsD) (r : List Int) (p q c' : Nat), t = .slice (some ⟨b, q, none⟩) r.length c' ∧ (0 < r.length → q = o + p) ∧ r.length ≤ c' ∧ l.length ≤ 4096 ∧ p + r.length = bs.length ∧ Hid (bs.drop p = r ∧ bs = encB l ++ r ∧ (∀ x ∈ l, x.ok = true ∧ U64 x.b) ∧ wr.ownsRow w.heap.size 144 4 v l.length (insC l) ∧ Below w.heap.size w wr)) (fun t _ _ => slen t)
 case atStart => exact ⟨[], bs, 0, o, c, rfl, fun _ => rfl, hc, by simp, by simp, hid ⟨rfl, rfl, by simp, World.ownsRow_nil _ _ _ _, Below.refl _ _⟩⟩
 case round =>
  obtain ⟨l, r, p, q, c', rfl, hq, hrc, hl4, hp, hst⟩ := hrel
  obtain ⟨wo, rfl⟩ : ∃ wo, wo = wr := ⟨_, rfl⟩
  by_cases hlt : 0 < r.length
  rotate_left
  ·obtain rfl : r = [] := List.length_eq_zero_iff.1 (by omega)
   go_wp2
   go_ret2
   exact ⟨hst.out.2.2.2.2, .inl ⟨l, _, ⟨hst.out.2.2.1, hl4, by have := hst.out.2.1; rwa [List.append_nil] at this⟩, rfl, hst.out.2.2.2.1⟩⟩
  obtain rfl := hq hlt
  have hb0 : ∃ y, wo.cell? ⟨b, o + p, none⟩ = some (.int .u8 y) ∧ r.getD 0 0 = y ∧ 0 ≤ y ∧ y < 256 := by
   obtain ⟨y, hy⟩ : ∃ y, bs[p]? = some y := ⟨bs[p]'(by omega), List.getElem?_eq_getElem (by omega)⟩
   refine ⟨y, (hst.out.2.2.2.2.cell (p := ⟨b, o + p, none⟩) hb).trans (H.out p y hy), ?_, HBS.out y (List.mem_of_getElem? hy)⟩
   rw [← hst.out.1, List.getD_eq_getElem?_getD, List.getElem?_drop, Nat.add_zero, hy]; rfl
  obtain ⟨op, hop, hop2, hop0, hop1⟩ := hb0
  have hsz : (qB5 op = 0 ∨ ∃ s1 : Nat, qB5 op = ((s1 + 1 : Nat) : Int) ∧ s1 ≤ 9) := by
   unfold qB5; split
   ·left; rfl
   right; unfold wid; split
   ·exact ⟨9, rfl, by omega⟩
   split
   ·exact ⟨1, rfl, by omega⟩
   split
   ·exact ⟨2, rfl, by omega⟩
   exact ⟨0, rfl, by omega⟩
  have HS := hid (fun W => size_ins op 0 0 0 W)
  unfold insV at HS
  have hbad : (qB5 op = 0 ∨ (r.length : Int) < qB5 op) → DecBad bs := fun hh => by
   refine ⟨l, r, hst.out.2.2.1, hl4, hst.out.2.1, by intro e; rw [e] at hlt; simp at hlt, fun x t hx _ e => ?_⟩
   obtain ⟨o1, o2⟩ := ok_op hx
   have hxo : x.op = op := by
    rw [← hop2, e]; unfold insB; simp only [List.cons_append, List.getD_cons_zero]; omega
   have hxl := insB_len hx
   rw [hxo] at hxl
   have : (r.length : Int) = (insB x).length + t.length := by rw [e, List.length_append]; push_cast; rfl
   rcases hh with hh | hh
   ·rw [hh] at hxl; unfold insB at hxl; simp at hxl; omega
   omega
  have HBAD := hid hbad
  have HO2 := hid hop2
  clear hbad hop2
  rcases hsz with hsz | ⟨s1, hsz, hs9⟩
  ·have hbd := hid (HBAD.out (.inl hsz))
   rw [hsz] at HS
   clear HBAD hsz
   go_wp2_with fail
   refine (HS.out _).mono ?_
   rintro e w1 ⟨rfl, hb1⟩
   go_wp2
   go_ret2
   exact ⟨hst.out.2.2.2.2.trans (((Below.refl _ _).alloc (Nat.le_refl _) _).trans (hb1.mono (by simp)) |>.mono hst.out.2.2.2.2.size), .inr (.inl ⟨hbd.out, rfl⟩)⟩
  rw [hsz] at HS
  by_cases hshort : r.length < s1 + 1
  ·have hbd := hid (HBAD.out (.inr (by rw [hsz]; omega)))
   have hx1 : (((s1 + 1 : Nat) : Int) == 0) = false := beq_eq_false_iff_ne.mpr (by omega)
   have hx2 : decide ((r.length : Int) < ((s1 + 1 : Nat) : Int)) = true := by simp; omega
   clear HBAD hsz
   go_wp2_with fail
   refine (HS.out _).mono ?_
   rintro e w1 ⟨rfl, hb1⟩
   go_wp2
   all_goals go_ret2
   all_goals exact ⟨hst.out.2.2.2.2.trans (((Below.refl _ _).alloc (Nat.le_refl _) _).trans (hb1.mono (by simp)) |>.mono hst.out.2.2.2.2.size), .inr (.inl ⟨hbd.out, rfl⟩)⟩
  clear HBAD
  have hcl : ∀ j, j < s1 → ∃ y, wo.cell? ⟨b, o + p + 1 + j, none⟩ = some (.int .u8 y) ∧ 0 ≤ y ∧ y < 256 ∧ (r.drop 1).take (j + 1) = (r.drop 1).take j ++ [y] := fun j hj => by
   obtain ⟨y, hy⟩ : ∃ y, bs[p + 1 + j]? = some y := ⟨bs[p + 1 + j]'(by omega), List.getElem?_eq_getElem (by omega)⟩
   refine ⟨y, ?_, (HBS.out y (List.mem_of_getElem? hy)).1, (HBS.out y (List.mem_of_getElem? hy)).2, ?_⟩
   ·have := (hst.out.2.2.2.2.cell (p := ⟨b, o + (p + 1 + j), none⟩) hb).trans (H.out (p + 1 + j) y hy)
    rwa [show o + (p + 1 + j) = o + p + 1 + j by omega] at this
   have e : (r.drop 1)[j]? = some y := by rw [← hst.out.1, List.getElem?_drop, List.getElem?_drop, ← hy]; congr 1; omega
   rw [List.take_add_one, e]; rfl
  have HCL := hid hcl
  clear hcl
  have hx1 : (((s1 + 1 : Nat) : Int) == 0) = false := beq_eq_false_iff_ne.mpr (by omega)
  have hx2 : decide ((r.length : Int) < ((s1 + 1 : Nat) : Int)) = false := by simp; omega
  have hx3 : decide ((r.length : Int) < (s1 : Int) + 1) = false := by simp; omega
  by_cases hc1 : c' = 1
  ·subst hc1
   obtain rfl : s1 = 0 := by omega
   have h1 : op ≠ 1 := by
    intro e; subst e; have : qB5 1 = 10 := rfl
    rw [this] at hsz; simp at hsz
   go_wp2_with fail
   refine (HS.out _).mono ?_
   rintro e w1 ⟨rfl, hb1⟩
   have hBr : Hid (Below wo.heap.size wo w1) := hid (((Below.refl _ _).alloc (Nat.le_refl _) _).trans (hb1.mono (by simp)))
   have hbo : b < wo.heap.size := Nat.lt_of_lt_of_le hb hst.out.2.2.2.2.size
   go_wp2
   go_loopw [7, 32] (fun v i W => ∃ j : Nat, j ≤ 0 ∧ i = .int .i64 (j : Int) ∧ v = .int .u64 (valB ((r.drop 1).take j) % 18446744073709551616) ∧ W = w1) (fun _ i _ => (0 - intOf i).toNat)
   case atStart => exact ⟨0, Nat.zero_le _, rfl, rfl, rfl⟩
   case round =>
    obtain ⟨j, hj, rfl, rfl, hW⟩ := hrel
    subst hW
    obtain rfl : j = 0 := by omega
    clear HCL
    have h1' : (op == 1) = false := beq_eq_false_iff_ne.mpr h1
    have hwN : widN op = 0 := by
     have : qB5 op = 1 + wid op := by
      unfold qB5; rw [if_neg]; intro hh; unfold qB5 at hsz; rw [if_pos hh] at hsz; omega
     unfold widN; omega
    have hj2 : 0 ≤ 2 := by
     rw [← hwN]; unfold widN wid; rw [if_neg h1]; split
     ·decide
     split <;> decide
    have hdrop : r.drop 1 ≠ [] ∨ True := .inr trivial
    have hbyt : qB6 ((r.drop 1).take 0) := fun x hx => HBS.out x (by
      have := List.mem_of_mem_drop (List.mem_of_mem_take hx); rw [← hst.out.1] at this; exact List.mem_of_mem_drop this)
    have hvl := qFa _ hbyt
    have hlen : ((r.drop 1).take 0).length = 0 := by rw [List.length_take, List.length_drop]; omega
    rw [hlen] at hvl
    have hv65 : valB ((r.drop 1).take 0) < 65536 := by
     rw [List.take_zero]; decide
    have hP : qBV r = ⟨op, valB ((r.drop 1).take 0), 0, 0⟩ := by unfold qBV; rw [HO2.out, if_neg h1, hwN]
    have hv0 := hvl.1
    clear hvl hlen hbyt hdrop
    rw [show valB ((r.drop 1).take 0) % 18446744073709551616 = valB ((r.drop 1).take 0) by omega]
    generalize valB ((r.drop 1).take 0) = n at *
    have hwr : IntKind.i64.wrap n = n := by simp [IntKind.wrap, IntKind.bits, IntKind.signed]; omega
    have hrowB : wr.heap[wo.heap.size]? = some (.cells #[.int .i64 op, .int .i64 0, .int .i64 0, .int .u64 0] 144 (0, 0)) := (hb1.block wo.heap.size (by simp)).trans (World.alloc_heap_new wo _)
    have g0 : wr.cell? ⟨wo.heap.size, 0, none⟩ = some (.int .i64 op) := by simp [World.cell?, hrowB]
    have g1 : wr.cell? ⟨wo.heap.size, 1, none⟩ = some (.int .i64 0) := by simp [World.cell?, hrowB]
    have g2 : wr.cell? ⟨wo.heap.size, 2, none⟩ = some (.int .i64 0) := by simp [World.cell?, hrowB]
    have g3 : wr.cell? ⟨wo.heap.size, 3, none⟩ = some (.int .u64 0) := by simp [World.cell?, hrowB]
    have gf : wr.frozen? ⟨wo.heap.size, 1, none⟩ = false := by simp [World.frozen?, hrowB]
    have HR := hid (fun W => qDo op n 0 0 ⟨by omega, by omega⟩ W)
    unfold insV at HR
    clear hrowB
    have HU : Hid (U64 0) := hid ⟨by omega, by omega⟩
    have HBX := hBr.out.setCell (p := ⟨wo.heap.size, 1, none⟩) (Nat.le_refl _) (.int .i64 n)
    obtain ⟨WW, hWW⟩ : ∃ WW, WW = wr.setCell ⟨wo.heap.size, 1, none⟩ (.int .i64 n) := ⟨_, rfl⟩
    rw [← hWW] at HBX
    have hwb : wo.heap.size < (wr.setCell ⟨wo.heap.size, 1, none⟩ (.int .i64 n)).heap.size := by have := hb1.size; simp at *; omega
    go_wp2_with fail
    subst hWW
    have HB2 := hid HBX
    have hbw : b < wo.heap.size := hbo
    refine (HR.out _).mono ?_
    rintro e w3 ⟨rfl, hb3⟩
    have hB3 : Below wo.heap.size wo w3 := HB2.out.trans (hb3.mono HB2.out.size)
    have hwl : wo.heap.size < w3.heap.size := by have := hBr.out.size; have := hb3.size; have := hb1.size; simp at *; omega
    have k0 : w3.cell? ⟨wo.heap.size, 0, none⟩ = some (.int .i64 op) := (hb3.cell (p := ⟨wo.heap.size, 0, none⟩) hwb).trans (by rw [World.cell?_setCell_other _ _ _ _ (by intro e; injection e with _ e; omega)]; exact g0)
    have k1 : w3.cell? ⟨wo.heap.size, 1, none⟩ = some (.int .i64 n) := (hb3.cell (p := ⟨wo.heap.size, 1, none⟩) hwb).trans (World.cell?_setCell_same _ _ _ g1)
    have k2 : w3.cell? ⟨wo.heap.size, 2, none⟩ = some (.int .i64 0) := (hb3.cell (p := ⟨wo.heap.size, 2, none⟩) hwb).trans (by rw [World.cell?_setCell_other _ _ _ _ (by intro e; injection e with _ e; omega)]; exact g2)
    have k3 : w3.cell? ⟨wo.heap.size, 3, none⟩ = some (.int .u64 0) := (hb3.cell (p := ⟨wo.heap.size, 3, none⟩) hwb).trans (by rw [World.cell?_setCell_other _ _ _ _ (by intro e; injection e with _ e; omega)]; exact g3)
    clear g0 g1 g2 g3 gf
    cases hok : okI op n 0 0 with
    | false =>
     have hbd := hid (qDa hst.out.2.2.1 hl4 hst.out.2.1 (by intro e; rw [e] at hlt; simp at hlt) (by rw [hP]; exact hok))
     have HB3 := hid hB3
     clear hb3 hB3
     go_wp2
     go_ret2
     exact ⟨hst.out.2.2.2.2.trans (HB3.out.mono hst.out.2.2.2.2.size), .inr (.inl ⟨hbd.out, rfl⟩)⟩
    | true =>
     obtain ⟨i0, hi, hz0, hz1, hz2⟩ := info_parts infoIns
     have hown3 := qEf hst.out.2.2.2.1 hB3
     have HB3 := hid hB3
     have hN3 : w.heap.size ≤ w3.heap.size := Nat.le_trans hst.out.2.2.2.2.size hB3.size
     clear hb3 hB3
     go_wp2_with (at_builtin; refine wpList_append_lies _ rfl _ _ 88 rfl w.heap.size 144 i0 _ 4 32 Tryz.underlying88 hi hz0 hz1 hz2 rfl (by decide) _ _ _ rfl (hown3.alloc _) ⟨w3.heap.size, 0, none⟩ 1 1 (qDC ⟨op, n, 0, 0⟩) rfl rfl (World.news_of_block (World.alloc_heap_new w3 _)) ?c2 ?c0 ?c3 ?c4 ?c5 _ rfl ?_)
     case c2 => intro u hu; simp only [qDC, List.mem_cons, List.not_mem_nil, or_false] at hu; rcases hu with rfl | rfl | rfl | rfl <;> rfl
     case c0 => omega
     case c3 => unfold maxLen; omega
     case c4 => omega
     case c5 => simp; omega
     intro g cap w4 hown4 hgrow hgg hlt4
     have hH4 : w4.ownsRow w.heap.size 144 4 (.slice (some ⟨g, 0, none⟩) (l.length + 1) cap) (l.length + 1) (insC (l ++ [⟨op, n, 0, 0⟩])) := by rw [qEJ]; exact hown4
     have H4 := hid hH4
     have HB4 : Hid (Below w.heap.size w w4) := hid (((hst.out.2.2.2.2.trans (HB3.out.mono hst.out.2.2.2.2.size)).alloc hN3 _).grown hgrow (by simp; omega) (fun j hj => (hown3.lt j hj).1))
     clear hown4 hgrow hgg hlt4 hown3 hH4
     have hcat : bs = encB (l ++ [⟨op, n, 0, 0⟩]) ++ r.drop (0 + 1) := by
      have e := qEb r (fun x hx => HBS.out x (by rw [← hst.out.1] at hx; exact List.mem_of_mem_drop hx)) (by rw [HO2.out, hsz]; omega) (by rw [HO2.out, hsz]; omega) (by intro e; rw [e] at hlt; simp at hlt)
      rw [HO2.out, hsz, Int.toNat_natCast, hP] at e
      rw [qDE, List.append_assoc, e]; exact hst.out.2.1
     have hall : ∀ x ∈ l ++ [⟨op, n, 0, 0⟩], x.ok = true ∧ U64 x.b := fun x hx => by
      rcases List.mem_append.1 hx with hx | hx
      ·exact hst.out.2.2.1 x hx
      obtain rfl := List.mem_singleton.1 hx; exact ⟨hok, HU.out⟩
     have HCAT := hid hcat
     have HALL := hid hall
     clear hcat hall
     by_cases hbig : l.length = 4096
     ·have hbd : Hid (qE4 bs) := hid ⟨_, _, HALL.out, by simp [hbig], HCAT.out⟩
      go_wp2
      all_goals first
       | (exfalso; omega)
       | (go_ret2; exact ⟨HB4.out, .inr (.inr ⟨hbd.out, rfl⟩)⟩)
     go_wp2
     all_goals first
      | (exfalso; omega)
      | (go_roundw
         case rel =>
           refine ⟨l ++ [⟨op, n, 0, 0⟩], r.drop (0 + 1), p + (0 + 1), o + p, 0, by rw [List.length_drop, show r.length - (0 + 1) = 0 by omega], fun hpos => by rw [List.length_drop] at hpos; omega, ?_, by simp; omega, by rw [List.length_drop]; omega, hid ⟨by rw [← List.drop_drop, hst.out.1], HCAT.out, HALL.out, by simpa using H4.out, HB4.out⟩⟩
           rw [List.length_drop]; omega
         case measure => simp [slen]; omega)
  go_wp2_with fail
  refine (HS.out _).mono ?_
  rintro e w1 ⟨rfl, hb1⟩
  have hBr : Hid (Below wo.heap.size wo w1) := hid (((Below.refl _ _).alloc (Nat.le_refl _) _).trans (hb1.mono (by simp)))
  have hbo : b < wo.heap.size := Nat.lt_of_lt_of_le hb hst.out.2.2.2.2.size
  go_wp2
  go_loopw [7, 32] (fun v i W => ∃ j : Nat, j ≤ s1 ∧ i = .int .i64 (j : Int) ∧ v = .int .u64 (valB ((r.drop 1).take j) % 18446744073709551616) ∧ W = w1) (fun _ i _ => (s1 - intOf i).toNat)
  case atStart => exact ⟨0, Nat.zero_le _, rfl, rfl, rfl⟩
  case round =>
   obtain ⟨j, hj, rfl, rfl, hW⟩ := hrel
   subst hW
   by_cases hjl : j < s1
   ·obtain ⟨y, hy, hy0, hy1, hyt⟩ := HCL.out j hjl
    have hyc := (hBr.out.cell (p := ⟨b, o + p + 1 + j, none⟩) hbo).trans hy
    have hval : valB ((r.drop 1).take (j + 1)) % 18446744073709551616 = (valB ((r.drop 1).take j) % 18446744073709551616) * 256 % 18446744073709551616 + y := by rw [hyt, qDR]; omega
    have HV := hid hval
    clear hval hyt hy
    have ha0 : 0 ≤ valB ((r.drop 1).take j) % 18446744073709551616 := by omega
    have ha1 : valB ((r.drop 1).take j) % 18446744073709551616 < 18446744073709551616 := by omega
    generalize valB ((r.drop 1).take j) % 18446744073709551616 = a at *
    have hor := or_low a y ha0 ha1 hy0 hy1
    go_wp2
    exact ⟨⟨j + 1, by omega, by simp, by rw [wrap_256 a, hor, HV.out], trivial⟩, by simp [intOf]; omega⟩
   obtain rfl : j = s1 := by omega
   by_cases h1 : op = 1
   rotate_left
   ·clear HCL
    have h1' : (op == 1) = false := beq_eq_false_iff_ne.mpr h1
    have hwN : widN op = j := by
     have : qB5 op = 1 + wid op := by
      unfold qB5; rw [if_neg]; intro hh; unfold qB5 at hsz; rw [if_pos hh] at hsz; omega
     unfold widN; omega
    have hj2 : j ≤ 2 := by
     rw [← hwN]; unfold widN wid; rw [if_neg h1]; split
     ·decide
     split <;> decide
    have hdrop : r.drop 1 ≠ [] ∨ True := .inr trivial
    have hbyt : qB6 ((r.drop 1).take j) := fun x hx => HBS.out x (by
      have := List.mem_of_mem_drop (List.mem_of_mem_take hx); rw [← hst.out.1] at this; exact List.mem_of_mem_drop this)
    have hvl := qFa _ hbyt
    have hlen : ((r.drop 1).take j).length = j := by rw [List.length_take, List.length_drop]; omega
    rw [hlen] at hvl
    have hv65 : valB ((r.drop 1).take j) < 65536 := by
     rcases (by omega : j = 0 ∨ j = 1 ∨ j = 2) with e | e | e <;> rw [e] at hvl ⊢ <;> simp at hvl ⊢ <;> omega
    have hP : qBV r = ⟨op, valB ((r.drop 1).take j), 0, 0⟩ := by unfold qBV; rw [HO2.out, if_neg h1, hwN]
    have hv0 := hvl.1
    clear hvl hlen hbyt hdrop
    rw [show valB ((r.drop 1).take j) % 18446744073709551616 = valB ((r.drop 1).take j) by omega]
    generalize valB ((r.drop 1).take j) = n at *
    have hwr : IntKind.i64.wrap n = n := by simp [IntKind.wrap, IntKind.bits, IntKind.signed]; omega
    have hrowB : wr.heap[wo.heap.size]? = some (.cells #[.int .i64 op, .int .i64 0, .int .i64 0, .int .u64 0] 144 (0, 0)) := (hb1.block wo.heap.size (by simp)).trans (World.alloc_heap_new wo _)
    have g0 : wr.cell? ⟨wo.heap.size, 0, none⟩ = some (.int .i64 op) := by simp [World.cell?, hrowB]
    have g1 : wr.cell? ⟨wo.heap.size, 1, none⟩ = some (.int .i64 0) := by simp [World.cell?, hrowB]
    have g2 : wr.cell? ⟨wo.heap.size, 2, none⟩ = some (.int .i64 0) := by simp [World.cell?, hrowB]
    have g3 : wr.cell? ⟨wo.heap.size, 3, none⟩ = some (.int .u64 0) := by simp [World.cell?, hrowB]
    have gf : wr.frozen? ⟨wo.heap.size, 1, none⟩ = false := by simp [World.frozen?, hrowB]
    have HR := hid (fun W => qDo op n 0 0 ⟨by omega, by omega⟩ W)
    unfold insV at HR
    clear hrowB
    have HU : Hid (U64 0) := hid ⟨by omega, by omega⟩
    have HBX := hBr.out.setCell (p := ⟨wo.heap.size, 1, none⟩) (Nat.le_refl _) (.int .i64 n)
    obtain ⟨WW, hWW⟩ : ∃ WW, WW = wr.setCell ⟨wo.heap.size, 1, none⟩ (.int .i64 n) := ⟨_, rfl⟩
    rw [← hWW] at HBX
    have hwb : wo.heap.size < (wr.setCell ⟨wo.heap.size, 1, none⟩ (.int .i64 n)).heap.size := by have := hb1.size; simp at *; omega
    go_wp2_with fail
    subst hWW
    have HB2 := hid HBX
    have hbw : b < wo.heap.size := hbo
    refine (HR.out _).mono ?_
    rintro e w3 ⟨rfl, hb3⟩
    have hB3 : Below wo.heap.size wo w3 := HB2.out.trans (hb3.mono HB2.out.size)
    have hwl : wo.heap.size < w3.heap.size := by have := hBr.out.size; have := hb3.size; have := hb1.size; simp at *; omega
    have k0 : w3.cell? ⟨wo.heap.size, 0, none⟩ = some (.int .i64 op) := (hb3.cell (p := ⟨wo.heap.size, 0, none⟩) hwb).trans (by rw [World.cell?_setCell_other _ _ _ _ (by intro e; injection e with _ e; omega)]; exact g0)
    have k1 : w3.cell? ⟨wo.heap.size, 1, none⟩ = some (.int .i64 n) := (hb3.cell (p := ⟨wo.heap.size, 1, none⟩) hwb).trans (World.cell?_setCell_same _ _ _ g1)
    have k2 : w3.cell? ⟨wo.heap.size, 2, none⟩ = some (.int .i64 0) := (hb3.cell (p := ⟨wo.heap.size, 2, none⟩) hwb).trans (by rw [World.cell?_setCell_other _ _ _ _ (by intro e; injection e with _ e; omega)]; exact g2)
    have k3 : w3.cell? ⟨wo.heap.size, 3, none⟩ = some (.int .u64 0) := (hb3.cell (p := ⟨wo.heap.size, 3, none⟩) hwb).trans (by rw [World.cell?_setCell_other _ _ _ _ (by intro e; injection e with _ e; omega)]; exact g3)
    clear g0 g1 g2 g3 gf
    cases hok : okI op n 0 0 with
    | false =>
     have hbd := hid (qDa hst.out.2.2.1 hl4 hst.out.2.1 (by intro e; rw [e] at hlt; simp at hlt) (by rw [hP]; exact hok))
     have HB3 := hid hB3
     clear hb3 hB3
     go_wp2
     go_ret2
     exact ⟨hst.out.2.2.2.2.trans (HB3.out.mono hst.out.2.2.2.2.size), .inr (.inl ⟨hbd.out, rfl⟩)⟩
    | true =>
     obtain ⟨i0, hi, hz0, hz1, hz2⟩ := info_parts infoIns
     have hown3 := qEf hst.out.2.2.2.1 hB3
     have HB3 := hid hB3
     have hN3 : w.heap.size ≤ w3.heap.size := Nat.le_trans hst.out.2.2.2.2.size hB3.size
     clear hb3 hB3
     go_wp2_with (at_builtin; refine wpList_append_lies _ rfl _ _ 88 rfl w.heap.size 144 i0 _ 4 32 Tryz.underlying88 hi hz0 hz1 hz2 rfl (by decide) _ _ _ rfl (hown3.alloc _) ⟨w3.heap.size, 0, none⟩ 1 1 (qDC ⟨op, n, 0, 0⟩) rfl rfl (World.news_of_block (World.alloc_heap_new w3 _)) ?c2 ?c0 ?c3 ?c4 ?c5 _ rfl ?_)
     case c2 => intro u hu; simp only [qDC, List.mem_cons, List.not_mem_nil, or_false] at hu; rcases hu with rfl | rfl | rfl | rfl <;> rfl
     case c0 => omega
     case c3 => unfold maxLen; omega
     case c4 => omega
     case c5 => simp; omega
     intro g cap w4 hown4 hgrow hgg hlt4
     have hH4 : w4.ownsRow w.heap.size 144 4 (.slice (some ⟨g, 0, none⟩) (l.length + 1) cap) (l.length + 1) (insC (l ++ [⟨op, n, 0, 0⟩])) := by rw [qEJ]; exact hown4
     have H4 := hid hH4
     have HB4 : Hid (Below w.heap.size w w4) := hid (((hst.out.2.2.2.2.trans (HB3.out.mono hst.out.2.2.2.2.size)).alloc hN3 _).grown hgrow (by simp; omega) (fun j hj => (hown3.lt j hj).1))
     clear hown4 hgrow hgg hlt4 hown3 hH4
     have hcat : bs = encB (l ++ [⟨op, n, 0, 0⟩]) ++ r.drop (j + 1) := by
      have e := qEb r (fun x hx => HBS.out x (by rw [← hst.out.1] at hx; exact List.mem_of_mem_drop hx)) (by rw [HO2.out, hsz]; omega) (by rw [HO2.out, hsz]; omega) (by intro e; rw [e] at hlt; simp at hlt)
      rw [HO2.out, hsz, Int.toNat_natCast, hP] at e
      rw [qDE, List.append_assoc, e]; exact hst.out.2.1
     have hall : ∀ x ∈ l ++ [⟨op, n, 0, 0⟩], x.ok = true ∧ U64 x.b := fun x hx => by
      rcases List.mem_append.1 hx with hx | hx
      ·exact hst.out.2.2.1 x hx
      obtain rfl := List.mem_singleton.1 hx; exact ⟨hok, HU.out⟩
     have HCAT := hid hcat
     have HALL := hid hall
     clear hcat hall
     by_cases hbig : l.length = 4096
     ·have hbd : Hid (qE4 bs) := hid ⟨_, _, HALL.out, by simp [hbig], HCAT.out⟩
      go_wp2
      all_goals first
       | (exfalso; omega)
       | (go_ret2; exact ⟨HB4.out, .inr (.inr ⟨hbd.out, rfl⟩)⟩)
     go_wp2
     all_goals first
      | (exfalso; omega)
      | (go_roundw
         case rel =>
           refine ⟨l ++ [⟨op, n, 0, 0⟩], r.drop (j + 1), p + (j + 1), (if c' = j + 1 then o + p else o + p + (j + 1)), c' - (j + 1), by rw [List.length_drop]; split <;> rfl, fun hpos => by rw [if_neg (by rw [List.length_drop] at hpos; omega)]; omega, ?_, by simp; omega, by rw [List.length_drop]; omega, hid ⟨by rw [← List.drop_drop, hst.out.1], HCAT.out, HALL.out, by simpa using H4.out, HB4.out⟩⟩
           rw [List.length_drop]; omega
         case measure => simp [slen]; omega)
   subst h1
   obtain rfl : j = 9 := by
    have : qB5 1 = 10 := rfl
    rw [this] at hsz; omega
   obtain ⟨ty, hty, hty0, hty1, htyt⟩ := HCL.out 0 (by omega)
   have htc := (hBr.out.cell (p := ⟨b, o + p + 1 + 0, none⟩) hbo).trans hty
   rw [Nat.add_zero] at htc
   have hbyt : qB6 (r.drop 1) := fun x hx => HBS.out x (by
     have := List.mem_of_mem_drop hx; rw [← hst.out.1] at this; exact List.mem_of_mem_drop this)
   have hr1 : r.drop 1 = ty :: r.drop 2 := by
    have h0 : (r.drop 1)[0]? = some ty := by
     have := congrArg (fun l => l[0]?) htyt
     simpa using this
    rw [show r.drop 2 = (r.drop 1).drop 1 from by rw [List.drop_drop]]
    cases hd : r.drop 1 with
    | nil => rw [hd] at h0; simp at h0
    | cons y t => rw [hd] at h0; simp at h0; rw [h0]; simp
   have hg1 : r.getD 1 0 = ty := by
    have h0 : r[1]? = some ty := by
     have := congrArg (fun l => l[0]?) hr1
     simpa [List.getElem?_drop] using this
    rw [List.getD_eq_getElem?_getD, h0]; rfl
   have hb8 : qB6 ((r.drop 2).take 8) := fun x hx => hbyt x (by rw [hr1]; exact List.mem_cons_of_mem _ (List.mem_of_mem_take hx))
   have hl8 : ((r.drop 2).take 8).length = 8 := by rw [List.length_take, List.length_drop]; omega
   have hvl := qFa _ hb8
   rw [hl8] at hvl
   have hv9 : valB ((r.drop 1).take 9) % 18446744073709551616 = valB ((r.drop 2).take 8) := by
    rw [hr1, List.take_succ_cons, valB_cons _ _ hb8, hl8]
    have e : (256 : Int) ^ 8 = 18446744073709551616 := by decide
    rw [e] at hvl ⊢
    omega
   rw [hv9]
   have hP : qBV r = ⟨1, 0, ty, valB ((r.drop 2).take 8)⟩ := by unfold qBV; rw [HO2.out, if_pos rfl, hg1]
   have hU : U64 (valB ((r.drop 2).take 8)) := ⟨hvl.1, by have := hvl.2; simpa using this⟩
   clear hvl hv9 hl8 hb8 hg1 hr1 hbyt htyt hty HCL
   generalize valB ((r.drop 2).take 8) = n at *
   have HU := hid hU
   have hrowB : wr.heap[wo.heap.size]? = some (.cells #[.int .i64 1, .int .i64 0, .int .i64 0, .int .u64 0] 144 (0, 0)) := (hb1.block wo.heap.size (by simp)).trans (World.alloc_heap_new wo _)
   have g0 : wr.cell? ⟨wo.heap.size, 0, none⟩ = some (.int .i64 1) := by simp [World.cell?, hrowB]
   have g1 : wr.cell? ⟨wo.heap.size, 1, none⟩ = some (.int .i64 0) := by simp [World.cell?, hrowB]
   have g2 : wr.cell? ⟨wo.heap.size, 2, none⟩ = some (.int .i64 0) := by simp [World.cell?, hrowB]
   have g3 : wr.cell? ⟨wo.heap.size, 3, none⟩ = some (.int .u64 0) := by simp [World.cell?, hrowB]
   have gf2 : wr.frozen? ⟨wo.heap.size, 2, none⟩ = false := by simp [World.frozen?, hrowB]
   have gf3 : wr.frozen? ⟨wo.heap.size, 3, none⟩ = false := by simp [World.frozen?, hrowB]
   have HR := hid (fun W => qDo 1 0 ty n hU W)
   unfold insV at HR
   clear hrowB hU
   have HBX := (hBr.out.setCell (p := ⟨wo.heap.size, 2, none⟩) (Nat.le_refl _) (.int .i64 ty)).setCell (p := ⟨wo.heap.size, 3, none⟩) (Nat.le_refl _) (.int .u64 n)
   have hwb : wo.heap.size < ((wr.setCell ⟨wo.heap.size, 2, none⟩ (.int .i64 ty)).setCell ⟨wo.heap.size, 3, none⟩ (.int .u64 n)).heap.size := by have := hb1.size; simp at *; omega
   go_wp2_with fail
   have HB2 := hid HBX
   have hbw : b < wo.heap.size := hbo
   refine (HR.out _).mono ?_
   rintro e w3 ⟨rfl, hb3⟩
   have hB3 : Below wo.heap.size wo w3 := HB2.out.trans (hb3.mono HB2.out.size)
   have hwl : wo.heap.size < w3.heap.size := by have := hBr.out.size; have := hb3.size; have := hb1.size; simp at *; omega
   have k0 : w3.cell? ⟨wo.heap.size, 0, none⟩ = some (.int .i64 1) := (hb3.cell (p := ⟨wo.heap.size, 0, none⟩) hwb).trans (by rw [World.cell?_setCell_other _ _ _ _ (by intro e; injection e with _ e; omega), World.cell?_setCell_other _ _ _ _ (by intro e; injection e with _ e; omega)]; exact g0)
   have k1 : w3.cell? ⟨wo.heap.size, 1, none⟩ = some (.int .i64 0) := (hb3.cell (p := ⟨wo.heap.size, 1, none⟩) hwb).trans (by rw [World.cell?_setCell_other _ _ _ _ (by intro e; injection e with _ e; omega), World.cell?_setCell_other _ _ _ _ (by intro e; injection e with _ e; omega)]; exact g1)
   have k2 : w3.cell? ⟨wo.heap.size, 2, none⟩ = some (.int .i64 ty) := (hb3.cell (p := ⟨wo.heap.size, 2, none⟩) hwb).trans (by rw [World.cell?_setCell_other _ _ _ _ (by intro e; injection e with _ e; omega)]; exact World.cell?_setCell_same _ _ _ g2)
   have k3 : w3.cell? ⟨wo.heap.size, 3, none⟩ = some (.int .u64 n) := (hb3.cell (p := ⟨wo.heap.size, 3, none⟩) hwb).trans (World.cell?_setCell_same _ _ _ (u := .int .u64 0) (by rw [World.cell?_setCell_other _ _ _ _ (by intro e; injection e with _ e; omega)]; exact g3))
   clear g0 g1 g2 g3 gf2 gf3
   cases hok : okI 1 0 ty n with
   | false =>
    have hbd := hid (qDa hst.out.2.2.1 hl4 hst.out.2.1 (by intro e; rw [e] at hlt; simp at hlt) (by rw [hP]; exact hok))
    have HB3 := hid hB3
    clear hb3 hB3
    go_wp2
    go_ret2
    exact ⟨hst.out.2.2.2.2.trans (HB3.out.mono hst.out.2.2.2.2.size), .inr (.inl ⟨hbd.out, rfl⟩)⟩
   | true =>
    obtain ⟨i0, hi, hz0, hz1, hz2⟩ := info_parts infoIns
    have hown3 := qEf hst.out.2.2.2.1 hB3
    have HB3 := hid hB3
    have hN3 : w.heap.size ≤ w3.heap.size := Nat.le_trans hst.out.2.2.2.2.size hB3.size
    clear hb3 hB3
    go_wp2_with (at_builtin; refine wpList_append_lies _ rfl _ _ 88 rfl w.heap.size 144 i0 _ 4 32 Tryz.underlying88 hi hz0 hz1 hz2 rfl (by decide) _ _ _ rfl (hown3.alloc _) ⟨w3.heap.size, 0, none⟩ 1 1 (qDC ⟨1, 0, ty, n⟩) rfl rfl (World.news_of_block (World.alloc_heap_new w3 _)) ?c2 ?c0 ?c3 ?c4 ?c5 _ rfl ?_)
    case c2 => intro u hu; simp only [qDC, List.mem_cons, List.not_mem_nil, or_false] at hu; rcases hu with rfl | rfl | rfl | rfl <;> rfl
    case c0 => omega
    case c3 => unfold maxLen; omega
    case c4 => omega
    case c5 => simp; omega
    intro g cap w4 hown4 hgrow hgg hlt4
    have hH4 : w4.ownsRow w.heap.size 144 4 (.slice (some ⟨g, 0, none⟩) (l.length + 1) cap) (l.length + 1) (insC (l ++ [⟨1, 0, ty, n⟩])) := by rw [qEJ]; exact hown4
    have H4 := hid hH4
    have HB4 : Hid (Below w.heap.size w w4) := hid (((hst.out.2.2.2.2.trans (HB3.out.mono hst.out.2.2.2.2.size)).alloc hN3 _).grown hgrow (by simp; omega) (fun j hj => (hown3.lt j hj).1))
    clear hown4 hgrow hgg hlt4 hown3 hH4
    have hcat : bs = encB (l ++ [⟨1, 0, ty, n⟩]) ++ r.drop (9 + 1) := by
     have e := qEb r (fun x hx => HBS.out x (by rw [← hst.out.1] at hx; exact List.mem_of_mem_drop hx)) (by rw [HO2.out, hsz]; omega) (by rw [HO2.out, hsz]; omega) (by intro e; rw [e] at hlt; simp at hlt)
     rw [HO2.out, hsz, Int.toNat_natCast, hP] at e
     rw [qDE, List.append_assoc, e]; exact hst.out.2.1
    have hall : ∀ x ∈ l ++ [⟨1, 0, ty, n⟩], x.ok = true ∧ U64 x.b := fun x hx => by
     rcases List.mem_append.1 hx with hx | hx
     ·exact hst.out.2.2.1 x hx
     obtain rfl := List.mem_singleton.1 hx; exact ⟨hok, HU.out⟩
    have HCAT := hid hcat
    have HALL := hid hall
    clear hcat hall
    by_cases hbig : l.length = 4096
    ·have hbd : Hid (qE4 bs) := hid ⟨_, _, HALL.out, by simp [hbig], HCAT.out⟩
     go_wp2
     all_goals first
      | (exfalso; omega)
      | (go_ret2; exact ⟨HB4.out, .inr (.inr ⟨hbd.out, rfl⟩)⟩)
    go_wp2
    all_goals first
     | (exfalso; omega)
     | (go_roundw
        case rel =>
          refine ⟨l ++ [⟨1, 0, ty, n⟩], r.drop (9 + 1), p + (9 + 1), (if c' = 9 + 1 then o + p else o + p + (9 + 1)), c' - (9 + 1), by rw [List.length_drop]; split <;> rfl, fun hpos => by rw [if_neg (by rw [List.length_drop] at hpos; omega)]; omega, ?_, by simp; omega, by rw [List.length_drop]; omega, hid ⟨by rw [← List.drop_drop, hst.out.1], HCAT.out, HALL.out, by simpa using H4.out, HB4.out⟩⟩
          rw [List.length_drop]; omega
        case measure => simp [slen]; omega)
end Dec
end
section
namespace Q
open Go.RowKit PA PC PB
open Val Enc DecLaw Dec
def toS (x : InsD) : S144 := ⟨x.op, x.n, ⟨x.ty, x.b⟩⟩
def decL : Nat → List InsD → List Int → List InsD × Int
 | 0, _, _ => ([], 51)
 | k + 1, l, r =>
  if r = [] then (l, 0)
  else if (qBV r).ok = true ∧ 0 ≤ (qBV r).b ∧ (qBV r).b < 18446744073709551616 ∧ r = insB (qBV r) ++ r.drop (insB (qBV r)).length then
   (if l.length = 4096 then ([], 3) else decL k (l ++ [qBV r]) (r.drop (insB (qBV r)).length))
  else ([], 51)
theorem decL_spec (bs : List Int) : ∀ (k : Nat) (l : List InsD) (r : List Int), r.length < k → (∀ x ∈ l, x.ok = true ∧ U64 x.b) → l.length ≤ 4096 → bs = encB l ++ r →
  (∃ m, decL k l r = (m, 0) ∧ DecOk bs m) ∨ (decL k l r = ([], 51) ∧ DecBad bs) ∨ (decL k l r = ([], 3) ∧ qE4 bs) := by
 intro k
 induction k with
 | zero => intro l r hk; omega
 | succ k ih =>
  intro l r hk hl h4 hbs
  unfold decL
  by_cases hr : r = []
  ·subst hr
   rw [if_pos rfl]
   exact .inl ⟨l, rfl, hl, h4, by rw [hbs, List.append_nil]⟩
  rw [if_neg hr]
  by_cases hp : (qBV r).ok = true ∧ 0 ≤ (qBV r).b ∧ (qBV r).b < 18446744073709551616 ∧ r = insB (qBV r) ++ r.drop (insB (qBV r)).length
  rotate_left
  ·rw [if_neg hp]
   refine .inr (.inl ⟨rfl, l, r, hl, h4, hbs, hr, fun x t hx hu he => hp ?_⟩)
   have := qDv hx hu t
   rw [← he] at this
   rw [this]
   exact ⟨hx, hu.1, hu.2, by rw [he, List.drop_append_of_le_length (Nat.le_refl _), List.drop_length, List.nil_append]⟩
  rw [if_pos hp]
  have hx : ∀ x ∈ l ++ [qBV r], x.ok = true ∧ U64 x.b := fun x hx => by
   rcases List.mem_append.1 hx with hx | hx
   ·exact hl x hx
   obtain rfl := List.mem_singleton.1 hx; exact ⟨hp.1, hp.2.1, hp.2.2.1⟩
  have hcat : bs = encB (l ++ [qBV r]) ++ r.drop (insB (qBV r)).length := by rw [qDE, List.append_assoc, ← hp.2.2.2]; exact hbs
  by_cases hb : l.length = 4096
  ·rw [if_pos hb]
   exact .inr (.inr ⟨rfl, _, _, hx, by simp [hb], hcat⟩)
  rw [if_neg hb]
  refine ih _ _ ?_ hx (by simp; omega) hcat
  have : 0 < (insB (qBV r)).length := by unfold insB; simp
  have : 0 < r.length := List.length_pos_iff.2 hr
  rw [List.length_drop]; omega
def qBk.f (l0 : List Int) : Option ((List (S144)) × Int) :=
 if l0.all (fun x => decide (0 ≤ x ∧ x < 256)) = true then some ((decL (l0.length + 1) [] l0).1.map toS, (decL (l0.length + 1) [] l0).2) else none
theorem decode_nil2 (A : Option Addr) (c : Nat) (w : World) : Calls Tryz.prog 88 #[.slice A 0 c] w fun e w' => e = .returned (.tuple #[.slice none 0 0, .int .i64 0]) ∧ w' = w := by
 go_enter Tryz.func88, Tryz.ntmps88
 go_wp2
 go_loopw [0, 4] (fun t v wr => t = .slice A 0 c ∧ v = .slice none 0 0 ∧ wr = w) (fun _ _ _ => 0)
 case atStart => exact ⟨rfl, rfl, rfl⟩
 case round =>
  obtain ⟨rfl, rfl, rfl⟩ := hrel
  go_wp2
  go_ret2
  exact ⟨rfl, rfl⟩
theorem reps_ins (w : World) (base : Nat) (ok : Nat → Prop) : ∀ l : List InsD, Reps (k144.M w base ok) 4 (l.map toS) (insC l) := by
 intro l
 induction l with
 | nil => exact Reps.none _ _
 | cons x l ih =>
  have h1 : Reps (k144.M w base ok) 4 ([] ++ [toS x]) ([] ++ qDC x) := Reps.snoc (Reps.none _ _) (k144_mkM w base ok (toS x)) rfl
  exact Kd.reps_append h1 ih
theorem qBk.calls (A0 : Option Addr) (c0 : Nat) (l0 : List Int) (r1 : List (S144)) (r2 : Int) (w : World) (hr0 : Kd.C (Kd.int .u8) w A0 l0.length l0) (hc0 : l0.length ≤ c0) (h : qBk.f l0 = some (r1, r2)) :
  Calls Tryz.prog 88 #[.slice A0 l0.length c0] w fun e w' => ∃ v0_ : Value, e = .returned (.tuple #[v0_, .int .i64 r2]) ∧ Kd.R k144 144 w' w.heap.size (fun _ => True) v0_ r1 ∧ Below w.heap.size w w' := by
 unfold qBk.f at h
 split at h
 case isFalse => cases h
 rename_i hb
 have hbs : qB6 l0 := fun x hx => by simpa using List.all_eq_true.1 hb x hx
 simp only [Option.some.injEq, Prod.mk.injEq] at h
 obtain ⟨h1, h2⟩ := h
 have hsp := decL_spec l0 (l0.length + 1) [] l0 (by omega) (by simp) (by simp) (by simp [encB])
 have hD : Calls Tryz.prog 88 #[.slice A0 l0.length c0] w (DecPost l0 w) := by
  rcases Nat.eq_zero_or_pos l0.length with hz | hp
  ·obtain rfl := List.length_eq_zero_iff.1 hz
   exact (decode_nil2 A0 c0 w).mono fun e w' ⟨he, hw⟩ => ⟨hw ▸ Below.refl _ _, .inl ⟨[], _, ⟨by simp, by simp, rfl⟩, he, World.ownsRow_nil _ _ _ _⟩⟩
  obtain ⟨ad, had, hcell⟩ := hr0.2.2 hp
  subst had
  obtain ⟨b, o, s⟩ := ad
  have hat : ∀ j y, l0[j]? = some y → w.cell? (Addr.add ⟨b, o, s⟩ j) = some (.int .u8 y) := fun j y hj => by
   obtain ⟨cs, _, hK, hcc⟩ := hcell j y hj
   obtain rfl : cs = [Value.int .u8 y] := hK
   have h2 := hcc 0 _ rfl
   rw [show j * (Kd.int .u8).sz + 0 = j from Nat.mul_one j] at h2
   exact h2
  obtain ⟨y0, hy0⟩ : ∃ y, l0[0]? = some y := ⟨l0[0], List.getElem?_eq_getElem hp⟩
  have h0 := hat 0 y0 hy0
  have hlt := World.block_lt_of_cell? w _ h0
  have hadd : ∀ j, Addr.add ⟨b, o, none⟩ j = ⟨b, o + j, none⟩ := fun j => by by_cases hj : j = 0 <;> simp [Addr.add, hj]
  obtain rfl : s = none := by
   cases s with
   | none => rfl
   | some k =>
    simp only [Addr.add, World.cell?] at h0
    split at h0 <;> simp at h0
  exact decode_some b o c0 l0 w (fun j y hj => by have := hat j y hj; rw [hadd] at this; exact this) (by rw [hadd] at hlt; exact hlt) hbs hc0
 refine hD.mono fun e w' hP => ?_
 obtain ⟨hB, hP⟩ := hP
 rcases hP with ⟨l, v, hok, he, hown⟩ | ⟨hbad, he⟩ | ⟨hbig, he⟩
 ·rcases hsp with ⟨m, hm, hok2⟩ | ⟨_, hb2⟩ | ⟨_, hb2⟩
  ·obtain rfl := ok_ok hok hok2
   rw [hm] at h1 h2
   subst h1; subst h2
   exact ⟨v, he, ⟨fun _ _ => trivial, insC l, by rw [List.length_map]; exact hown, reps_ins _ _ _ l⟩, hB⟩
  ·exact (ok_bad hok hb2).elim
  ·exact (ok_big hok hb2).elim
 ·rcases hsp with ⟨m, hm, hok2⟩ | ⟨hm, _⟩ | ⟨_, hb2⟩
  ·exact (ok_bad hok2 hbad).elim
  ·rw [hm] at h1 h2
   subst h1; subst h2
   exact ⟨_, he, Kd.R_nil _ _ _ _ _, hB⟩
  ·exact (big_bad hb2 hbad).elim
 ·rcases hsp with ⟨m, hm, hok2⟩ | ⟨hm, hb2⟩ | ⟨hm, _⟩
  ·exact (ok_big hok2 hbig).elim
  ·exact (big_bad hbig hb2).elim
  ·rw [hm] at h1 h2
   subst h1; subst h2
   exact ⟨_, he, Kd.R_nil _ _ _ _ _, hB⟩
end Q
end
section
namespace Q
open Go.RowKit PA PC PB
theorem RdB.form {W : World} {b0 g : Nat} {bs : List Int} {v : Value} (h : RdB W b0 g bs v) : ∃ A c, v = .slice A bs.length c := by
 rcases h with ⟨rfl, A, c, rfl⟩ | ⟨gb, o, c, _, _, _, rfl, _⟩
 ·exact ⟨A, c, rfl⟩
 exact ⟨_, c, rfl⟩
def qBo.f (s0_0 : List Int) (s0_1 : Int) (s0_2 : Int) : Option (Int × Int × Int) := some (if s0_2 = 0 then s0_0.length - s0_1 else 0, s0_1, s0_2)
theorem qBo.calls (g : Nat) (s0_0 : List Int) (s0_1 : Int) (s0_2 : Int) (r1 : Int) (r2 : Int) (r3 : Int) (w0 w : World) (hI : qAo w0 w g s0_0 s0_1 s0_2) (hB : Below w0.heap.size w0 w) (h : qBo.f s0_0 s0_1 s0_2 = some (r1, r2, r3)) :
  Calls Tryz.prog 131 #[.pointer (some ⟨g, 0, none⟩)] w fun e w' => e = .returned (.int .i64 r1) ∧ qAo w0 w' g s0_0 r2 r3 ∧ Below w0.heap.size w0 w' ∧ qAn w w' g none := by
 unfold qBo.f at h
 simp only [Option.some.injEq, Prod.mk.injEq] at h
 obtain ⟨rfl, rfl, rfl⟩ := h
 have HI := am hI
 have HB := am hB
 obtain ⟨_, h1, h2, h3, v, hb, hr⟩ := hI
 obtain ⟨A, c, rfl⟩ := hr.form
 have c0 : w.cell? ⟨g, 0, none⟩ = some _ := (qAa hb 0).trans rfl
 have c1 : w.cell? ⟨g, 1, none⟩ = some _ := (qAa hb 1).trans rfl
 have hl : ((s0_0.drop s0_1.toNat).length : Int) = s0_0.length - s0_1 := by rw [List.length_drop]; omega
 have HL := am hl
 clear hl hr hb hB h1 h2 h3
 by_cases he : s0_2 = 0
 ·subst he
  go_enter Tryz.func131, Tryz.ntmps131
  go_wp2
  go_ret
  exact ⟨(by have hl := HL.out; rw [List.length_drop] at hl; exact congrArg (fun x : Int => Ending.returned (.int .i64 x)) hl), HI.out, HB.out, qAn.refl _ _ _⟩
 ·have hb0 : (s0_2 != 0) = true := bne_iff_ne.mpr he
  rw [if_neg he]
  clear he
  go_enter Tryz.func131, Tryz.ntmps131
  go_wp2
  go_ret
  exact ⟨rfl, HI.out, HB.out, qAn.refl _ _ _⟩
def qAD.f (_ : List Int) (s0_1 : Int) (s0_2 : Int) : Option (Int × Int × Int) := some (s0_2, s0_1, s0_2)
theorem qAD.calls (g : Nat) (s0_0 : List Int) (s0_1 : Int) (s0_2 : Int) (r1 : Int) (r2 : Int) (r3 : Int) (w0 w : World) (hI : qAo w0 w g s0_0 s0_1 s0_2) (hB : Below w0.heap.size w0 w) (h : qAD.f s0_0 s0_1 s0_2 = some (r1, r2, r3)) :
  Calls Tryz.prog 60 #[.pointer (some ⟨g, 0, none⟩)] w fun e w' => e = .returned (.int .i64 r1) ∧ qAo w0 w' g s0_0 r2 r3 ∧ Below w0.heap.size w0 w' ∧ qAn w w' g none := by
 unfold qAD.f at h
 simp only [Option.some.injEq, Prod.mk.injEq] at h
 obtain ⟨rfl, rfl, rfl⟩ := h
 have HI := am hI
 have HB := am hB
 obtain ⟨_, h1, h2, h3, v, hb, hr⟩ := hI
 have c1 : w.cell? ⟨g, 1, none⟩ = some _ := (qAa hb 1).trans rfl
 clear hr hb hB h1 h2 h3
 go_enter Tryz.func60, Tryz.ntmps60
 go_wp2
 go_ret
 exact ⟨rfl, HI.out, HB.out, qAn.refl _ _ _⟩
theorem qAo.set_e {w0 W : World} {g : Nat} {f0 : List Int} {f1 f2 : Int} (h : qAo w0 W g f0 f1 f2) (x : Int) : qAo w0 (W.setCell ⟨g, 1, none⟩ (.int .i64 x)) g f0 f1 x := by
 obtain ⟨h0, h1, h2, h3, v, hb, hr⟩ := h
 refine ⟨h0, h1, h2, h3, v, by simpa using qCa hb 1 (.int .i64 x), hr.move fun gb cells hc => Below.heap_setCell W _ _ gb ?_⟩
 rintro rfl
 rw [hb] at hc
 injection hc with hc
 injection hc with _ hc
 exact absurd hc (by decide)
def qAG.f (_ : List Int) (s0_1 : Int) (s0_2 : Int) (a1 : Int) : Option (Int × Int) := some (s0_1, if s0_2 = 0 then a1 else s0_2)
theorem qAG.calls (g : Nat) (s0_0 : List Int) (s0_1 : Int) (s0_2 : Int) (a1 : Int) (r1 : Int) (r2 : Int) (w0 w : World) (hI : qAo w0 w g s0_0 s0_1 s0_2) (hB : Below w0.heap.size w0 w) (h : qAG.f s0_0 s0_1 s0_2 a1 = some (r1, r2)) :
  Calls Tryz.prog 57 #[.pointer (some ⟨g, 0, none⟩), .int .i64 a1] w fun e w' => e = .returned (.tuple #[]) ∧ qAo w0 w' g s0_0 r1 r2 ∧ Below w0.heap.size w0 w' ∧ qAn w w' g none := by
 unfold qAG.f at h
 simp only [Option.some.injEq, Prod.mk.injEq] at h
 obtain ⟨rfl, rfl⟩ := h
 have HI := am hI
 have HB := am hB
 obtain ⟨_, h1, h2, h3, v, hb, hr⟩ := hI
 have c1 : w.cell? ⟨g, 1, none⟩ = some _ := (qAa hb 1).trans rfl
 have f1 := qAc hb 1
 clear hr hb hB h1 h2 h3
 by_cases he : s0_2 = 0
 ·subst he
  go_enter Tryz.func57, Tryz.ntmps57
  go_wp2
  go_end0
  exact ⟨rfl, by simpa using HI.out.set_e a1, qAb HB.out HI.out.ge, qAn.set_ (qAn.refl _ _ _) _ _⟩
 ·have hb0 : (s0_2 == 0) = false := beq_eq_false_iff_ne.mpr he
  rw [if_neg he]
  clear he
  go_enter Tryz.func57, Tryz.ntmps57
  go_wp2
  go_end0
  exact ⟨rfl, HI.out, HB.out, qAn.refl _ _ _⟩
theorem RdB.some_ {W : World} {b0 g : Nat} {bs : List Int} {v : Value} (h : RdB W b0 g bs v) (hn : 0 < bs.length) :
  ∃ (gb o c : Nat) (cells : Array Value), b0 ≤ gb ∧ gb < g ∧ v = .slice (some ⟨gb, o, none⟩) bs.length c ∧ bs.length ≤ c ∧ W.heap[gb]? = some (.cells cells 5 (0, 0)) ∧ (∀ (j : Nat) (y : Int), bs[j]? = some y → cells[o + j]? = some (Value.int .u8 y)) := by
 rcases h with ⟨rfl, _⟩ | ⟨gb, o, c, cells, h1, h1', h2, _, h3, h4, h5⟩
 ·simp at hn
 ·exact ⟨gb, o, c, cells, h1, h1', h2, h3, h4, h5⟩
theorem qAo.set_b {w0 W : World} {g : Nat} {f0 : List Int} {f1 f2 f1' : Int} {v : Value} (h : qAo w0 W g f0 f1 f2) (h0 : 0 ≤ f1') (h1 : f1' ≤ f0.length) (hr : RdB W w0.heap.size g (f0.drop f1'.toNat) v) : qAo w0 (W.setCell ⟨g, 0, none⟩ v) g f0 f1' f2 := by
 obtain ⟨hg, _, _, h3, u, hb, _⟩ := h
 refine ⟨hg, h0, h1, h3, v, by simpa using qCa hb 0 v, hr.move fun gb cells hc => Below.heap_setCell W _ _ gb ?_⟩
 rintro rfl
 rw [hb] at hc
 injection hc with hc
 injection hc with _ hc
 exact absurd hc (by decide)
theorem qCq (g : Nat) (f0 : List Int) (p e : Int) (n : Nat) (w0 w : World) (hn : 0 < n) (hle : p + n ≤ f0.length) (hI : qAo w0 w g f0 p e) :
  Calls Tryz.prog 122 #[.pointer (some ⟨g, 0, none⟩), .int .i64 n] w fun e' w' => ∃ A c v, e' = .returned (.slice A n c) ∧ n ≤ c ∧ Kd.C (Kd.int .u8) w' A n ((f0.drop p.toNat).take n) ∧ qAo w0 w' g f0 (p + n) e ∧ w' = w.setCell ⟨g, 0, none⟩ v := by
 have HI := am hI
 obtain ⟨_, h1, h2, h3, v, hb, hr⟩ := hI
 have hlen : (f0.drop p.toNat).length = f0.length - p.toNat := List.length_drop
 obtain ⟨gb, o, c, cells, hb0, hbg, rfl, hc, hcb, hcells⟩ := hr.some_ (by omega)
 have hgb : g ≠ gb := by
  rintro rfl
  rw [hb] at hcb
  injection hcb with hcb
  injection hcb with _ hcb
  exact absurd hcb (by decide)
 have c0 : w.cell? ⟨g, 0, none⟩ = some _ := (qAa hb 0).trans rfl
 have f0z := qAc hb 0
 obtain ⟨m, hm⟩ : ∃ m, m = (f0.drop p.toNat).length := ⟨_, rfl⟩
 have hnm : n ≤ m := by omega
 have hml : m ≤ 9223372036854775807 := by omega
 rw [← hm] at c0 hc
 have hC : ∀ v, Kd.C (Kd.int .u8) (w.setCell ⟨g, 0, none⟩ v) (some ⟨gb, o, none⟩) n ((f0.drop p.toNat).take n) := fun v => by
  have hb' : (w.setCell ⟨g, 0, none⟩ v).heap[gb]? = some (.cells cells 5 (0, 0)) := qA1 hcb (Ne.symm hgb) v
  refine ⟨by rw [List.length_take]; omega, by omega, fun _ => ⟨_, rfl, fun j y hj => ⟨[.int .u8 y], rfl, rfl, fun i u hu => ?_⟩⟩⟩
  have hjn : (f0.drop p.toNat)[j]? = some y := by
   rw [List.getElem?_take] at hj
   split at hj
   ·exact hj
   cases hj
  match i, hu with
  | 0, hu =>
   injection hu with hu; subst hu
   have hadd : (⟨gb, o, none⟩ : Addr).add (j * (Kd.int .u8).sz + 0) = ⟨gb, o + j, none⟩ := by
    rw [show j * (Kd.int .u8).sz + 0 = j from Nat.mul_one j]; unfold Addr.add; split <;> simp_all
   rw [hadd, qAa hb']
   exact hcells j y hjn
 have hdrop : f0.drop (p + n).toNat = (f0.drop p.toNat).drop n := by rw [List.drop_drop]; congr 1; omega
 have hS : ∀ o' c', (n < m → o' = o + n ∧ c' = c - n) → qAo w0 (w.setCell ⟨g, 0, none⟩ (.slice (some ⟨gb, o', none⟩) (m - n) c')) g f0 (p + n) e := fun o' c' ho => by
  refine HI.out.set_b (by omega) hle ?_
  rw [hdrop]
  have hdl : ((f0.drop p.toNat).drop n).length = m - n := by rw [List.length_drop, ← hm]
  by_cases hlt : n < m
  rotate_left
  ·refine .inl ⟨List.length_eq_zero_iff.1 (by omega), some ⟨gb, o', none⟩, c', ?_⟩
   rw [show m - n = 0 by omega]
  obtain ⟨rfl, rfl⟩ := ho hlt
  refine .inr ⟨gb, o + n, c - n, cells, hb0, hbg, by rw [hdl], by omega, by omega, hcb, fun j y hj => ?_⟩
  rw [List.getElem?_drop] at hj
  rw [Nat.add_assoc]; exact hcells _ y hj
 have HC := am hC
 have HS := am hS
 have hx1 : decide ((m : Int) < (n : Int)) = false := by simp; omega
 clear hC hS hr hcells hlen hdrop hcb hb hm
 by_cases hcn : c = n
 ·subst hcn
  obtain rfl : m = c := by omega
  go_enter Tryz.func122, Tryz.ntmps122
  go_wp2
  go_ret
  exact ⟨some ⟨gb, o, none⟩, m, _, rfl, Nat.le_refl _, HC.out _, by simpa using HS.out o 0 (fun h => absurd h (Nat.lt_irrefl _)), rfl⟩
 ·go_enter Tryz.func122, Tryz.ntmps122
  go_wp2
  go_ret
  exact ⟨some ⟨gb, o, none⟩, c, _, rfl, by omega, HC.out _, HS.out _ _ (fun _ => ⟨rfl, rfl⟩), rfl⟩
theorem qCd (g : Nat) (f0 : List Int) (p e : Int) (n : Nat) (w0 w : World) (hle : f0.length < p + n) (hI : qAo w0 w g f0 p e) :
  Calls Tryz.prog 122 #[.pointer (some ⟨g, 0, none⟩), .int .i64 n] w fun e' w' => e' = .panicked [{ v := .iface 214 (.int .i64 40), recovered := false }] ∧ w' = w := by
 obtain ⟨_, h1, h2, h3, v, hb, hr⟩ := hI
 obtain ⟨A, c, rfl⟩ := hr.form
 have c0 : w.cell? ⟨g, 0, none⟩ = some _ := (qAa hb 0).trans rfl
 have hlen : (f0.drop p.toNat).length = f0.length - p.toNat := List.length_drop
 obtain ⟨m, hm⟩ : ∃ m, m = (f0.drop p.toNat).length := ⟨_, rfl⟩
 rw [← hm] at c0 hlen
 have hx1 : decide (m < n) = true := by simp; omega
 clear hm hlen hr hb hle h1 h2 h3
 go_enter Tryz.func122, Tryz.ntmps122
 go_wp2
 exact ⟨rfl, rfl, rfl⟩
theorem qC6 {P : Program} {c : Code} {Q : Exit → Act → World → Prop} {a : Act} {w : World} (h : ∀ Q' : Exit → Act → World → Prop, (∀ e a w, Q e a w → Q' e a w) → c.wp P Q' a w) : c.wp P Q a w := h Q (fun _ _ _ h => h)
theorem qEB (p q : Addr) (w : World) :
  CallsD Tryz.prog 154 #[.pointer (some p), .pointer (some q)] .returning w fun e u' w' => e = .returned (.tuple #[]) ∧ u' = .returning ∧ w' = w := by
 refine callsD_of_wpS Tryz.func154 rfl fun c₀ cs hu => ?_
 apply wpS_seq
 apply wpS_region
 simp [wpOpsS, go_sem, recoverD, hu, Tryz.ntmps154, Exit.thenS]
 refine wpS_of_wp (qC6 fun Q' hQ => ?_)
 have HQ := am hQ
 clear hQ
 rw [show ((#[Value.pointer (some p), Value.pointer (some q)] : Array Value) ++ (Array.replicate 15 undef).setIfInBounds 4 Value.nilIface) = #[.pointer (some p), .pointer (some q), undef, undef, undef, undef, .nilIface, undef, undef, undef, undef, undef, undef, undef, undef, undef, undef] from rfl]
 go_wp2
 refine HQ.out _ _ _ ?_
 cases c₀
 simp_all [bodyPostS, results, Tryz.results154]
theorem qDW (bv g bq : Nat) (x k : Int) (v : Value) (older : List PanicEntry) (w : World) (hp : w.cell? ⟨bv, 0, none⟩ = some (.int .u8 x)) (hz : w.frozen? ⟨bv, 0, none⟩ = false) (hq : w.cell? ⟨bq, 0, none⟩ = some (.pointer (some ⟨g, 0, none⟩))) (hg : w.heap[g]? = some (.cells #[v, .int .i64 0] 182 (0, 0))) (hpg : bv ≠ g) (hpq : bv ≠ bq) :
  CallsD Tryz.prog 154 #[.pointer (some ⟨bv, 0, none⟩), .pointer (some ⟨bq, 0, none⟩)] (.panicking ({ v := .iface 214 (.int .i64 k), recovered := false } :: older)) w fun e u' w' =>
   e = .returned (.tuple #[]) ∧ u' = .panicking ({ v := .iface 214 (.int .i64 k), recovered := true } :: older) ∧ w' = (w.setCell ⟨bv, 0, none⟩ (.int .u8 0)).setCell ⟨g, 1, none⟩ (.int .i64 k) := by
 have hta : ∀ (v : Value) (W : World), (Instr.typeAssert (.iface 214 v) 20 214 true).run Tryz.prog W = .ok (.tuple #[v, .bool true]) W := fun v W => by rfl
 have c1 : (w.setCell ⟨bv, 0, none⟩ (.int .u8 0)).cell? ⟨g, 1, none⟩ = some (.int .i64 0) := (World.cell?_setCell_other _ _ _ _ (by intro e; injection e with e; exact hpg e)).trans ((qAa hg 1).trans rfl)
 have f1 : (w.setCell ⟨bv, 0, none⟩ (.int .u8 0)).frozen? ⟨g, 1, none⟩ = false := (World.frozen?_setCell _ _ _ _).trans (qAc hg 1)
 have q1 : (w.setCell ⟨bv, 0, none⟩ (.int .u8 0)).cell? ⟨bq, 0, none⟩ = some (.pointer (some ⟨g, 0, none⟩)) := (World.cell?_setCell_other _ _ _ _ (by intro e; injection e with e; exact hpq e)).trans hq
 refine callsD_of_wpS Tryz.func154 rfl fun c₀ cs hu => ?_
 apply wpS_seq
 apply wpS_region
 simp [wpOpsS, go_sem, recoverD, hu, Tryz.ntmps154, Exit.thenS]
 refine wpS_of_wp (qC6 fun Q' hQ => ?_)
 have HQ := am hQ
 clear hQ
 rw [show ((#[Value.pointer (some ⟨bv, 0, none⟩), Value.pointer (some ⟨bq, 0, none⟩)] : Array Value) ++ (Array.replicate 15 undef).setIfInBounds 4 (Value.iface 214 (.int .i64 k))) = #[.pointer (some ⟨bv, 0, none⟩), .pointer (some ⟨bq, 0, none⟩), undef, undef, undef, undef, .iface 214 (.int .i64 k), undef, undef, undef, undef, undef, undef, undef, undef, undef, undef] from rfl]
 go_wp2
 refine HQ.out _ _ _ ?_
 cases c₀
 simp_all [bodyPostS, results, Tryz.results154]
theorem qCf {w W1 w4 : World} {g b j : Nat} (h1 : Below w.heap.size w W1) (hk : qAn W1 w4 g none) (hb : w.heap.size ≤ b) (u : Value) : qAn w (w4.setCell ⟨b, j, none⟩ u) g none := by
 refine ⟨?_, fun i hi hne _ => ?_⟩
 ·have := h1.size; have := hk.1; simp; omega
 rw [Below.heap_setCell _ _ _ i (by show i ≠ b; omega), hk.2 i (by have := h1.size; omega) hne (by simp)]
 exact h1.block i hi
theorem add_zero_ (ad : Addr) : ad.add (0 : Int).toNat = ad := by unfold Addr.add; cases ad; simp
theorem byte_fn_ok (b1 g : Nat) (f0 : List Int) (p e : Int) (w0 w : World) (hq : w.cell? ⟨b1, 0, none⟩ = some (.pointer (some ⟨g, 0, none⟩))) (hlt : p < f0.length) (hI : qAo w0 w g f0 p e) (hB : Below w0.heap.size w0 w) :
  Calls Tryz.prog 121 #[.pointer (some ⟨b1, 0, none⟩)] w fun e' w' => e' = .returned (.int .u8 (f0.getD p.toNat 0)) ∧ qAo w0 w' g f0 (p + 1) e ∧ Below w0.heap.size w0 w' ∧ qAn w w' g none := by
 have HI := am hI
 have HB := am hB
 clear hI hB
 go_enter Tryz.func121, Tryz.ntmps121
 have hv : rd ((f0.drop p.toNat).take 1) 0 = f0.getD p.toNat 0 := by
  unfold rd
  rw [List.getD_eq_getElem?_getD, List.getD_eq_getElem?_getD, List.getElem?_take, List.getElem?_drop]
  simp
 have HV := am hv
 clear hv
 go_wp2_with (go_at_call 122; refine (qCq g f0 p e 1 w0 w (by omega) (by omega) HI.out).mono ?_; rintro e' w' ⟨A, c, v, rfl, hc, hC, hi, hw⟩; have hk := hw ▸ qAn.set_ (qAn.refl w g none) 0 v; have HK := am hk; have HN := am hi; have HBN := am (hw ▸ qAb (g := g) (j := 0) (v := v) HB.out HI.out.ge); obtain ⟨ad, rfl, hx⟩ := Kd.at_int hC 0 (by omega) (by omega); have hx' := add_zero_ ad ▸ hx; clear hk hi hw hC hx)
 go_ret
 exact ⟨by rw [HV.out]; rfl, HN.out, HBN.out, HK.out⟩
theorem byte_fn_bad (b1 g : Nat) (f0 : List Int) (p e : Int) (w0 w : World) (hq : w.cell? ⟨b1, 0, none⟩ = some (.pointer (some ⟨g, 0, none⟩))) (hlt : f0.length ≤ p) (hI : qAo w0 w g f0 p e) :
  Calls Tryz.prog 121 #[.pointer (some ⟨b1, 0, none⟩)] w fun e' w' => e' = .panicked [{ v := .iface 214 (.int .i64 40), recovered := false }] ∧ w' = w := by
 have HI := am hI
 clear hI
 go_enter Tryz.func121, Tryz.ntmps121
 go_wp2_with (go_at_call 122; refine (qCd g f0 p e 1 w0 w (by omega) HI.out).mono ?_; rintro e' w' ⟨rfl, rfl⟩)
 exact ⟨rfl, rfl, rfl⟩
theorem qEH (b1 g : Nat) (f0 : List Int) (p : Int) (w0 w : World) (hq : w.cell? ⟨b1, 0, none⟩ = some (.pointer (some ⟨g, 0, none⟩))) (hlt : p < f0.length) (hI : qAo w0 w g f0 p 0) (hB : Below w0.heap.size w0 w) :
  Calls Tryz.prog 120 #[.pointer (some ⟨g, 0, none⟩), .func (.func 121) #[] #[.pointer (some ⟨b1, 0, none⟩)]] w fun e w' => e = .returned (.int .u8 (f0.getD p.toNat 0)) ∧ qAo w0 w' g f0 (p + 1) 0 ∧ Below w0.heap.size w0 w' ∧ qAn w w' g none := by
 have HI := am hI
 have HB := am hB
 have HLT := am hlt
 have hgl := hI.lt
 have hb1 := World.block_lt_of_cell? w _ hq
 obtain ⟨_, h1, h2, h3, v, hb, hr⟩ := hI
 have c1 : w.cell? ⟨g, 1, none⟩ = some (.int .i64 0) := (qAa hb 1).trans rfl
 clear hb hr hB h1 h2 h3 hlt
 go_enter_defers Tryz.func120, Tryz.ntmps120
 have HB3 := am (((Below.refl w.heap.size w).alloc (Nat.le_refl _) (.cells #[.pointer (some ⟨g, 0, none⟩)] 124)).alloc (by simp) (.cells #[.int .u8 0] 5))
 have H3 : qAj (((w.alloc (.cells #[.pointer (some ⟨g, 0, none⟩)] 124)).alloc (.cells #[.int .u8 0] 5)).heap[w.heap.size + 1]? = some (.cells #[.int .u8 0] 5 (0, 0))) := ⟨by simpa using heap_alloc_new (w.alloc (.cells #[.pointer (some ⟨g, 0, none⟩)] 124)) (.cells #[.int .u8 0] 5)⟩
 obtain ⟨x, hx⟩ : ∃ x, x = f0.getD p.toNat 0 := ⟨_, rfl⟩
 have hfn := fun W (h1 : W.cell? ⟨b1, 0, none⟩ = some (.pointer (some ⟨g, 0, none⟩))) (h2 : qAo w0 W g f0 p 0) (h3 : Below w0.heap.size w0 W) => hx ▸ byte_fn_ok b1 g f0 p 0 w0 W h1 HLT.out h2 h3
 have HFN := am hfn
 rw [← hx]
 clear hx hfn
 go_wp2_with (go_at_call 121; refine (HFN.out _ ((HB3.out.cell (p := ⟨b1, 0, none⟩) hb1).trans hq) ((HI.out.alloc _).alloc _) (qAi (qAi HB.out _) _)).mono ?_; rintro e w4 ⟨rfl, hi, hbw, hk⟩; have hv4 : w4.heap[w.heap.size + 1]? = some (.cells #[.int .u8 0] 5 (0, 0)) := (hk.2 _ (qAM H3.out) (by omega) (by simp)).trans H3.out; have v4 : w4.cell? ⟨w.heap.size + 1, 0, none⟩ = some (.int .u8 0) := (qAa hv4 0).trans rfl; have z4 := qAc hv4 0; have HI4 := am (hi.behind (p := ⟨w.heap.size + 1, 0, none⟩) (by show g < w.heap.size + 1; omega) (.int .u8 x)); have HK4 := am (qCf (j := 0) HB3.out hk (Nat.le_succ _) (.int .u8 x)); have HV4 := am hv4; have HB4 := am (qAb (g := w.heap.size + 1) (j := 0) (v := .int .u8 x) hbw (Nat.le_trans HB.out.size (Nat.le_succ _))); clear hi hk hv4 hbw)
 refine leaves_cons (f := 154) (args := #[.pointer (some ⟨w.heap.size + 1, 0, none⟩), .pointer (some ⟨w.heap.size, 0, none⟩)]) (by simp) (by simp [go_sem]) ?_
 refine (qEB _ _ _).mono ?_
 rintro e u' w'' ⟨rfl, rfl, rfl⟩
 have hvc : (w4.setCell ⟨w.heap.size + 1, 0, none⟩ (.int .u8 x)).heap[w.heap.size + 1]? = some (.cells #[.int .u8 x] 5 (0, 0)) := by simpa using qCa HV4.out 0 (.int .u8 x)
 have hres := (qAa hvc 0).trans rfl
 exact ⟨.int .u8 x, by simp [results, Tryz.results120, go_sem, hres], rfl, HI4.out, HB4.out, HK4.out⟩
theorem qEv (b1 g : Nat) (f0 : List Int) (p : Int) (w0 w : World) (hq : w.cell? ⟨b1, 0, none⟩ = some (.pointer (some ⟨g, 0, none⟩))) (hlt : f0.length ≤ p) (hI : qAo w0 w g f0 p 0) (hB : Below w0.heap.size w0 w) :
  Calls Tryz.prog 120 #[.pointer (some ⟨g, 0, none⟩), .func (.func 121) #[] #[.pointer (some ⟨b1, 0, none⟩)]] w fun e w' => e = .returned (.int .u8 0) ∧ qAo w0 w' g f0 p 40 ∧ Below w0.heap.size w0 w' ∧ qAn w w' g none := by
 have HI := am hI
 have HB := am hB
 have HLT := am hlt
 have hgl := hI.lt
 have hb1 := World.block_lt_of_cell? w _ hq
 obtain ⟨_, h1, h2, h3, v, hb, hr⟩ := hI
 have c1 : w.cell? ⟨g, 1, none⟩ = some (.int .i64 0) := (qAa hb 1).trans rfl
 have HG := am hb
 clear hb hr hB h1 h2 h3 hlt
 go_enter_defers Tryz.func120, Tryz.ntmps120
 have HB3 := am (((Below.refl w.heap.size w).alloc (Nat.le_refl _) (.cells #[.pointer (some ⟨g, 0, none⟩)] 124)).alloc (by simp) (.cells #[.int .u8 0] 5))
 have H2 : qAj (((w.alloc (.cells #[.pointer (some ⟨g, 0, none⟩)] 124)).alloc (.cells #[.int .u8 0] 5)).heap[w.heap.size]? = some (.cells #[.pointer (some ⟨g, 0, none⟩)] 124 (0, 0))) := ⟨qAe (heap_alloc_new w _) _⟩
 have H3 : qAj (((w.alloc (.cells #[.pointer (some ⟨g, 0, none⟩)] 124)).alloc (.cells #[.int .u8 0] 5)).heap[w.heap.size + 1]? = some (.cells #[.int .u8 0] 5 (0, 0))) := ⟨by simpa using heap_alloc_new (w.alloc (.cells #[.pointer (some ⟨g, 0, none⟩)] 124)) (.cells #[.int .u8 0] 5)⟩
 have HFN := am (fun W (h1 : W.cell? ⟨b1, 0, none⟩ = some (.pointer (some ⟨g, 0, none⟩))) (h2 : qAo w0 W g f0 p 0) => byte_fn_bad b1 g f0 p 0 w0 W h1 HLT.out h2)
 go_wp2_with (go_at_call 121; refine (HFN.out _ ((HB3.out.cell (p := ⟨b1, 0, none⟩) hb1).trans hq) ((HI.out.alloc _).alloc _)).mono ?_; rintro e w4 ⟨rfl, rfl⟩)
 refine leaves_cons (f := 154) (args := #[.pointer (some ⟨w.heap.size + 1, 0, none⟩), .pointer (some ⟨w.heap.size, 0, none⟩)]) (by simp) (by simp [go_sem]) ?_
 have hg3 : ((w.alloc (.cells #[.pointer (some ⟨g, 0, none⟩)] 124)).alloc (.cells #[.int .u8 0] 5)).heap[g]? = some (.cells #[v, .int .i64 0] 182 (0, 0)) := (HB3.out.block g hgl).trans HG.out
 refine (qDW (w.heap.size + 1) g w.heap.size 0 40 v [] _ ((qAa H3.out 0).trans rfl) (qAc H3.out 0) ((qAa H2.out 0).trans rfl) hg3 (by omega) (by omega)).mono ?_
 rintro e u' w'' ⟨rfl, rfl, rfl⟩
 have HI5 := am ((((HI.out.alloc (.cells #[.pointer (some ⟨g, 0, none⟩)] 124)).alloc (.cells #[.int .u8 0] 5)).behind (p := ⟨w.heap.size + 1, 0, none⟩) (by show g < w.heap.size + 1; omega) (.int .u8 0)).set_e 40)
 have HB5 := am (qAb (g := g) (j := 1) (v := .int .i64 40) (qAb (g := w.heap.size + 1) (j := 0) (v := .int .u8 0) (qAi (qAi HB.out (.cells #[.pointer (some ⟨g, 0, none⟩)] 124)) (.cells #[.int .u8 0] 5)) (Nat.le_trans HB.out.size (Nat.le_succ _))) HI.out.ge)
 have HK5 := am (qAn.set_ (qCf (j := 0) HB3.out (qAn.refl _ g none) (Nat.le_succ _) (.int .u8 0)) 1 (.int .i64 40))
 have hvc := qA1 (g := w.heap.size + 1) (p := ⟨g, 1, none⟩) (qCa H3.out 0 (.int .u8 0)) (by show w.heap.size + 1 ≠ g; omega) (.int .i64 40)
 clear hvc
 exact ⟨.int .u8 0, by simp [results, Tryz.results120, go_sem], rfl, HI5.out, HB5.out, HK5.out⟩
theorem qDH (F : Value) (g : Nat) (f0 : List Int) (p e : Int) (w0 w : World) (he : e ≠ 0) (hI : qAo w0 w g f0 p e) (hB : Below w0.heap.size w0 w) :
  Calls Tryz.prog 120 #[.pointer (some ⟨g, 0, none⟩), F] w fun e' w' => e' = .returned (.int .u8 0) ∧ qAo w0 w' g f0 p e ∧ Below w0.heap.size w0 w' ∧ qAn w w' g none := by
 have HI := am hI
 have HB := am hB
 have hgl := hI.lt
 obtain ⟨_, h1, h2, h3, v, hb, hr⟩ := hI
 have c1 : w.cell? ⟨g, 1, none⟩ = some (.int .i64 e) := (qAa hb 1).trans rfl
 have hb0 : (e != 0) = true := bne_iff_ne.mpr he
 clear hb hr hB h1 h2 h3 he
 go_enter_defers Tryz.func120, Tryz.ntmps120
 go_wp2
 exact ⟨.int .u8 0, by simp [results, Tryz.results120, go_sem], rfl, (HI.out.alloc _).alloc _, qAi (qAi HB.out _) _, qB2 (qB2 (qAn.refl _ _ _) _) _⟩
def qAu.f (s0_0 : List Int) (s0_1 : Int) (s0_2 : Int) : Option (Int × Int × Int) :=
 some (if s0_2 ≠ 0 then (0, s0_1, s0_2) else if s0_1 < s0_0.length then (s0_0.getD s0_1.toNat 0, s0_1 + 1, 0) else (0, s0_1, 40))
theorem qAu.calls (g : Nat) (s0_0 : List Int) (s0_1 : Int) (s0_2 : Int) (r1 : Int) (r2 : Int) (r3 : Int) (w0 w : World) (hI : qAo w0 w g s0_0 s0_1 s0_2) (hB : Below w0.heap.size w0 w) (h : qAu.f s0_0 s0_1 s0_2 = some (r1, r2, r3)) :
  Calls Tryz.prog 56 #[.pointer (some ⟨g, 0, none⟩)] w fun e w' => e = .returned (.int .u8 r1) ∧ qAo w0 w' g s0_0 r2 r3 ∧ Below w0.heap.size w0 w' ∧ qAn w w' g none := by
 have HI := am (hI.alloc (.cells #[.pointer (some ⟨g, 0, none⟩)] 124))
 have HB := am (qAi hB (.cells #[.pointer (some ⟨g, 0, none⟩)] 124))
 have HK := am (qB2 (qAn.refl w g none) (.cells #[.pointer (some ⟨g, 0, none⟩)] 124))
 have hq : (w.alloc (.cells #[.pointer (some ⟨g, 0, none⟩)] 124)).cell? ⟨w.heap.size, 0, none⟩ = some (.pointer (some ⟨g, 0, none⟩)) := (qAa (heap_alloc_new w _) 0).trans rfl
 have HQ := am hq
 clear hq
 unfold qAu.f at h
 injection h with h
 have HF : qAj (Calls Tryz.prog 120 #[.pointer (some ⟨g, 0, none⟩), .func (.func 121) #[] #[.pointer (some ⟨w.heap.size, 0, none⟩)]] (w.alloc (.cells #[.pointer (some ⟨g, 0, none⟩)] 124)) fun e w' => e = .returned (.int .u8 r1) ∧ qAo w0 w' g s0_0 r2 r3 ∧ Below w0.heap.size w0 w' ∧ qAn w w' g none) := by
  by_cases he : s0_2 ≠ 0
  ·rw [if_pos he] at h
   simp only [Prod.mk.injEq] at h
   obtain ⟨rfl, rfl, rfl⟩ := h
   exact ⟨(qDH _ g s0_0 _ _ w0 _ he HI.out HB.out).mono fun e' w' ⟨h1, h2, h3, h4⟩ => ⟨h1, h2, h3, HK.out.trans h4 (.inl rfl)⟩⟩
  rw [if_neg he] at h
  simp only [Decidable.not_not] at he
  subst he
  by_cases hlt : s0_1 < s0_0.length
  ·rw [if_pos hlt] at h
   simp only [Prod.mk.injEq] at h
   obtain ⟨rfl, rfl, rfl⟩ := h
   exact ⟨(qEH _ g s0_0 _ w0 _ HQ.out hlt HI.out HB.out).mono fun e' w' ⟨h1, h2, h3, h4⟩ => ⟨h1, h2, h3, HK.out.trans h4 (.inl rfl)⟩⟩
  rw [if_neg hlt] at h
  simp only [Prod.mk.injEq] at h
  obtain ⟨rfl, rfl, rfl⟩ := h
  exact ⟨(qEv _ g s0_0 _ w0 _ HQ.out (by omega) HI.out HB.out).mono fun e' w' ⟨h1, h2, h3, h4⟩ => ⟨h1, h2, h3, HK.out.trans h4 (.inl rfl)⟩⟩
 clear h hI hB
 go_enter Tryz.func56, Tryz.ntmps56
 go_wp2_with (go_at_call 120; refine HF.out.mono ?_; rintro e w' ⟨rfl, hi, hb, hk⟩; have HI2 := am hi; have HB2 := am hb; have HK2 := am hk; clear hi hb hk)
 go_ret
 exact ⟨rfl, HI2.out, HB2.out, HK2.out⟩
end Q
end
section
namespace Q
open Go.RowKit PA PC PB
attribute [local go_sem] qAU min2_int qBd min_two max_three min_three max_four min_four
def qBx.l0 : Nat → Int → List Int → Int → Int → Option (Int)
 | 0, _, _, _, _ => none
 | k + 1, x3, x6, x7, x8 => if x8 < x7 then (if 0 ≤ x8 then (if x8 < (x6.length : Int) then (qBx.l0 k (Go.bits .or .u64 (IntKind.u64.wrap (x3 * 256)) (IntKind.u64.wrap (rd x6 x8))) x6 x7 (wrap64 (x8 + 1))) else (none)) else (none)) else (some x3)
def qBx.f (k : Nat) (l0 : List Int) : Option (Int) := qBx.l0 k 0 l0 (l0.length : Int) 0
theorem qBx.calls (k : Nat) (A0 : Option Addr) (c0 : Nat) (l0 : List Int) (r : Int) (w : World) (hr0 : Kd.C (Kd.int .u8) w A0 l0.length l0) (hc0 : l0.length ≤ c0) (h : qBx.f k l0 = some r) :
  Calls Tryz.prog 128 #[.slice A0 l0.length c0] w fun e w' => e = .returned (.int .u64 r) ∧ qAW w w' := by
 have aJ := am hr0
 clear hr0 hc0
 have H : (qBx.l0 k 0 l0 (l0.length : Int) 0) = some r := h
 clear h
 have H' := am H
 clear H
 go_enter Tryz.func128, Tryz.ntmps128
 go_wp2
 go_loopg [3, 8] k (fun kq v3 v8 w' => ∃ (aB : Int) (aA : Int), v3 = .int .u64 aB ∧ v8 = .int .i64 aA ∧ qAj (qBx.l0 kq aB l0 (l0.length : Int) aA = some r) ∧ qAj (kq ≤ k) ∧ qAW w w')
 case atStart => exact ⟨(0), (0), (by rfl), (by rfl), H', ⟨Nat.le_refl _⟩, by exact qAW.refl _⟩
 case round =>
  clear H'
  obtain ⟨aB, aA, rfl, rfl, HA, aH, ⟨m1, rfl⟩⟩ := hrel
  cases gk with
  | zero => exact absurd HA.o (by simp [qBx.l0])
  | succ k1 =>
   have H := HA.o
   clear HA
   simp only [qBx.l0] at H
   by_cases c2 : aA < (l0.length : Int)
   rotate_left
   ·rw [if_neg c2] at H
    replace c2 := d0 c2
    obtain rfl := Option.some.inj H
    go_wp2
    go_ret
    exact ⟨by rfl, by repeat (first | exact qAW.refl _ | apply qAW.step)⟩
   rw [if_pos c2] at H
   replace c2 := d1 c2
   obtain ⟨c3, H⟩ := gd H
   replace c3 := d1 c3
   obtain ⟨c4, H⟩ := gd H
   replace c4 := d1 c4
   have H' := am H
   clear H
   have aC : 0 ≤ aA := od (by assumption)
   have aD : aA < (l0.length : Int) := od (by assumption)
   obtain ⟨aI, aG, aE⟩ := Kd.at_int aJ.o aA aC aD
   cases aG
   replace aC := eq_true aC
   replace aD := eq_true aD
   go_wp2
   go_roundg k1
   case measure => have := aH.o; omega
   case rel => exact ⟨(Go.bits .or .u64 (IntKind.u64.wrap (aB * 256)) (IntKind.u64.wrap (rd l0 aA))), (wrap64 (aA + 1)), (by rfl), (by rfl), H', ⟨by have := aH.o; omega⟩, by repeat (first | exact qAW.refl _ | apply qAW.step)⟩
end Q
end
section
namespace Q
open Go.RowKit PA PC PB
def qDg (n x : Int) : Int := Go.bits .or .u64 (IntKind.u64.wrap (n * 256)) (IntKind.u64.wrap x)
def numF (l : List Int) : Int := l.foldl qDg 0
theorem number_l0 (l : List Int) (hl : l.length ≤ 9223372036854775806) (d : Nat) : ∀ (k : Nat) (i n : Int), 0 ≤ i → (l.length : Int) - i = d → d < k → qBx.l0 k n l (l.length : Int) i = some ((l.drop i.toNat).foldl qDg n) := by
 induction d with
 | zero =>
  intro k i n h0 hd hk
  obtain ⟨k, rfl⟩ : ∃ m, k = m + 1 := ⟨k - 1, by omega⟩
  simp only [qBx.l0]
  rw [if_neg (by omega), List.drop_of_length_le (by omega)]
  rfl
 | succ d ih =>
  intro k i n h0 hd hk
  obtain ⟨k, rfl⟩ : ∃ m, k = m + 1 := ⟨k - 1, by omega⟩
  simp only [qBx.l0]
  have hw : wrap64 (i + 1) = i + 1 := by unfold wrap64; omega
  have hi : i.toNat < l.length := by omega
  have hrd : rd l i = l[i.toNat] := by unfold rd; rw [List.getD_eq_getElem?_getD, List.getElem?_eq_getElem hi]; rfl
  rw [if_pos (by omega), if_pos h0, if_pos (by omega), hw, ih k (i + 1) _ (by omega) (by omega) (by omega), List.drop_eq_getElem_cons hi, List.foldl_cons, hrd, show (i + 1).toNat = i.toNat + 1 by omega]
  rfl
theorem qBQ (A : Option Addr) (c : Nat) (l : List Int) (w : World) (hr : Kd.C (Kd.int .u8) w A l.length l) (hc : l.length ≤ c) (hl : l.length ≤ 9223372036854775806) :
  Calls Tryz.prog 128 #[.slice A l.length c] w fun e w' => e = .returned (.int .u64 (numF l)) ∧ qAW w w' :=
 qBx.calls (l.length + 1) A c l (numF l) w hr hc (by
   unfold qBx.f
   rw [number_l0 l hl l.length (l.length + 1) 0 0 (by omega) (by omega) (by omega)]
   rfl)
theorem qDw (p q : Addr) (w : World) :
  CallsD Tryz.prog 155 #[.pointer (some p), .pointer (some q)] .returning w fun e u' w' => e = .returned (.tuple #[]) ∧ u' = .returning ∧ w' = w := by
 refine callsD_of_wpS Tryz.func155 rfl fun c₀ cs hu => ?_
 apply wpS_seq
 apply wpS_region
 simp [wpOpsS, go_sem, recoverD, hu, Tryz.ntmps155, Exit.thenS]
 refine wpS_of_wp (qC6 fun Q' hQ => ?_)
 have HQ := am hQ
 clear hQ
 rw [show ((#[Value.pointer (some p), Value.pointer (some q)] : Array Value) ++ (Array.replicate 15 undef).setIfInBounds 4 Value.nilIface) = #[.pointer (some p), .pointer (some q), undef, undef, undef, undef, .nilIface, undef, undef, undef, undef, undef, undef, undef, undef, undef, undef] from rfl]
 go_wp2
 refine HQ.out _ _ _ ?_
 cases c₀
 simp_all [bodyPostS, results, Tryz.results155]
theorem qCU (bv g bq : Nat) (x : Value) (k : Int) (v : Value) (older : List PanicEntry) (w : World) (hp : w.cell? ⟨bv, 0, none⟩ = some x) (hz : w.frozen? ⟨bv, 0, none⟩ = false) (hq : w.cell? ⟨bq, 0, none⟩ = some (.pointer (some ⟨g, 0, none⟩))) (hg : w.heap[g]? = some (.cells #[v, .int .i64 0] 182 (0, 0))) (hpg : bv ≠ g) (hpq : bv ≠ bq) :
  CallsD Tryz.prog 155 #[.pointer (some ⟨bv, 0, none⟩), .pointer (some ⟨bq, 0, none⟩)] (.panicking ({ v := .iface 214 (.int .i64 k), recovered := false } :: older)) w fun e u' w' =>
   e = .returned (.tuple #[]) ∧ u' = .panicking ({ v := .iface 214 (.int .i64 k), recovered := true } :: older) ∧ w' = (w.setCell ⟨bv, 0, none⟩ (.int .i64 0)).setCell ⟨g, 1, none⟩ (.int .i64 k) := by
 have hta : ∀ (v : Value) (W : World), (Instr.typeAssert (.iface 214 v) 20 214 true).run Tryz.prog W = .ok (.tuple #[v, .bool true]) W := fun v W => by rfl
 have c1 : (w.setCell ⟨bv, 0, none⟩ (.int .i64 0)).cell? ⟨g, 1, none⟩ = some (.int .i64 0) := (World.cell?_setCell_other _ _ _ _ (by intro e; injection e with e; exact hpg e)).trans ((qAa hg 1).trans rfl)
 have f1 : (w.setCell ⟨bv, 0, none⟩ (.int .i64 0)).frozen? ⟨g, 1, none⟩ = false := (World.frozen?_setCell _ _ _ _).trans (qAc hg 1)
 have q1 : (w.setCell ⟨bv, 0, none⟩ (.int .i64 0)).cell? ⟨bq, 0, none⟩ = some (.pointer (some ⟨g, 0, none⟩)) := (World.cell?_setCell_other _ _ _ _ (by intro e; injection e with e; exact hpq e)).trans hq
 refine callsD_of_wpS Tryz.func155 rfl fun c₀ cs hu => ?_
 apply wpS_seq
 apply wpS_region
 simp [wpOpsS, go_sem, recoverD, hu, Tryz.ntmps155, Exit.thenS]
 refine wpS_of_wp (qC6 fun Q' hQ => ?_)
 have HQ := am hQ
 clear hQ
 rw [show ((#[Value.pointer (some ⟨bv, 0, none⟩), Value.pointer (some ⟨bq, 0, none⟩)] : Array Value) ++ (Array.replicate 15 undef).setIfInBounds 4 (Value.iface 214 (.int .i64 k))) = #[.pointer (some ⟨bv, 0, none⟩), .pointer (some ⟨bq, 0, none⟩), undef, undef, undef, undef, .iface 214 (.int .i64 k), undef, undef, undef, undef, undef, undef, undef, undef, undef, undef] from rfl]
 go_wp2
 refine HQ.out _ _ _ ?_
 cases c₀
 simp_all [bodyPostS, results, Tryz.results155]
theorem qCE (F : Value) (g : Nat) (f0 : List Int) (p e : Int) (w0 w : World) (he : e ≠ 0) (hI : qAo w0 w g f0 p e) (hB : Below w0.heap.size w0 w) :
  Calls Tryz.prog 123 #[.pointer (some ⟨g, 0, none⟩), F] w fun e' w' => e' = .returned (.int .i64 0) ∧ qAo w0 w' g f0 p e ∧ Below w0.heap.size w0 w' ∧ qAn w w' g none := by
 have HI := am hI
 have HB := am hB
 have hgl := hI.lt
 obtain ⟨_, h1, h2, h3, v, hb, hr⟩ := hI
 have c1 : w.cell? ⟨g, 1, none⟩ = some (.int .i64 e) := (qAa hb 1).trans rfl
 have hb0 : (e != 0) = true := bne_iff_ne.mpr he
 clear hb hr hB h1 h2 h3 he
 go_enter_defers Tryz.func123, Tryz.ntmps123
 go_wp2
 exact ⟨.int .i64 0, by simp [results, Tryz.results123, go_sem], rfl, (HI.out.alloc _).alloc _, qAi (qAi HB.out _) _, qB2 (qB2 (qAn.refl _ _ _) _) _⟩
theorem catch_u64_idle (p q : Addr) (w : World) :
  CallsD Tryz.prog 156 #[.pointer (some p), .pointer (some q)] .returning w fun e u' w' => e = .returned (.tuple #[]) ∧ u' = .returning ∧ w' = w := by
 refine callsD_of_wpS Tryz.func156 rfl fun c₀ cs hu => ?_
 apply wpS_seq
 apply wpS_region
 simp [wpOpsS, go_sem, recoverD, hu, Tryz.ntmps156, Exit.thenS]
 refine wpS_of_wp (qC6 fun Q' hQ => ?_)
 have HQ := am hQ
 clear hQ
 rw [show ((#[Value.pointer (some p), Value.pointer (some q)] : Array Value) ++ (Array.replicate 15 undef).setIfInBounds 4 Value.nilIface) = #[.pointer (some p), .pointer (some q), undef, undef, undef, undef, .nilIface, undef, undef, undef, undef, undef, undef, undef, undef, undef, undef] from rfl]
 go_wp2
 refine HQ.out _ _ _ ?_
 cases c₀
 simp_all [bodyPostS, results, Tryz.results156]
theorem qEu (bv g bq : Nat) (x : Value) (k : Int) (v : Value) (older : List PanicEntry) (w : World) (hp : w.cell? ⟨bv, 0, none⟩ = some x) (hz : w.frozen? ⟨bv, 0, none⟩ = false) (hq : w.cell? ⟨bq, 0, none⟩ = some (.pointer (some ⟨g, 0, none⟩))) (hg : w.heap[g]? = some (.cells #[v, .int .i64 0] 182 (0, 0))) (hpg : bv ≠ g) (hpq : bv ≠ bq) :
  CallsD Tryz.prog 156 #[.pointer (some ⟨bv, 0, none⟩), .pointer (some ⟨bq, 0, none⟩)] (.panicking ({ v := .iface 214 (.int .i64 k), recovered := false } :: older)) w fun e u' w' =>
   e = .returned (.tuple #[]) ∧ u' = .panicking ({ v := .iface 214 (.int .i64 k), recovered := true } :: older) ∧ w' = (w.setCell ⟨bv, 0, none⟩ (.int .u64 0)).setCell ⟨g, 1, none⟩ (.int .i64 k) := by
 have hta : ∀ (v : Value) (W : World), (Instr.typeAssert (.iface 214 v) 20 214 true).run Tryz.prog W = .ok (.tuple #[v, .bool true]) W := fun v W => by rfl
 have c1 : (w.setCell ⟨bv, 0, none⟩ (.int .u64 0)).cell? ⟨g, 1, none⟩ = some (.int .i64 0) := (World.cell?_setCell_other _ _ _ _ (by intro e; injection e with e; exact hpg e)).trans ((qAa hg 1).trans rfl)
 have f1 : (w.setCell ⟨bv, 0, none⟩ (.int .u64 0)).frozen? ⟨g, 1, none⟩ = false := (World.frozen?_setCell _ _ _ _).trans (qAc hg 1)
 have q1 : (w.setCell ⟨bv, 0, none⟩ (.int .u64 0)).cell? ⟨bq, 0, none⟩ = some (.pointer (some ⟨g, 0, none⟩)) := (World.cell?_setCell_other _ _ _ _ (by intro e; injection e with e; exact hpq e)).trans hq
 refine callsD_of_wpS Tryz.func156 rfl fun c₀ cs hu => ?_
 apply wpS_seq
 apply wpS_region
 simp [wpOpsS, go_sem, recoverD, hu, Tryz.ntmps156, Exit.thenS]
 refine wpS_of_wp (qC6 fun Q' hQ => ?_)
 have HQ := am hQ
 clear hQ
 rw [show ((#[Value.pointer (some ⟨bv, 0, none⟩), Value.pointer (some ⟨bq, 0, none⟩)] : Array Value) ++ (Array.replicate 15 undef).setIfInBounds 4 (Value.iface 214 (.int .i64 k))) = #[.pointer (some ⟨bv, 0, none⟩), .pointer (some ⟨bq, 0, none⟩), undef, undef, undef, undef, .iface 214 (.int .i64 k), undef, undef, undef, undef, undef, undef, undef, undef, undef, undef] from rfl]
 go_wp2
 refine HQ.out _ _ _ ?_
 cases c₀
 simp_all [bodyPostS, results, Tryz.results156]
theorem qEa (F : Value) (g : Nat) (f0 : List Int) (p e : Int) (w0 w : World) (he : e ≠ 0) (hI : qAo w0 w g f0 p e) (hB : Below w0.heap.size w0 w) :
  Calls Tryz.prog 126 #[.pointer (some ⟨g, 0, none⟩), F] w fun e' w' => e' = .returned (.int .u64 0) ∧ qAo w0 w' g f0 p e ∧ Below w0.heap.size w0 w' ∧ qAn w w' g none := by
 have HI := am hI
 have HB := am hB
 have hgl := hI.lt
 obtain ⟨_, h1, h2, h3, v, hb, hr⟩ := hI
 have c1 : w.cell? ⟨g, 1, none⟩ = some (.int .i64 e) := (qAa hb 1).trans rfl
 have hb0 : (e != 0) = true := bne_iff_ne.mpr he
 clear hb hr hB h1 h2 h3 he
 go_enter_defers Tryz.func126, Tryz.ntmps126
 go_wp2
 exact ⟨.int .u64 0, by simp [results, Tryz.results126, go_sem], rfl, (HI.out.alloc _).alloc _, qAi (qAi HB.out _) _, qB2 (qB2 (qAn.refl _ _ _) _) _⟩
theorem short_fn_ok (b1 g : Nat) (f0 : List Int) (p e : Int) (w0 w : World) (hq : w.cell? ⟨b1, 0, none⟩ = some (.pointer (some ⟨g, 0, none⟩))) (hlt : p + 2 ≤ f0.length) (hI : qAo w0 w g f0 p e) (hB : Below w0.heap.size w0 w) :
  Calls Tryz.prog 130 #[.pointer (some ⟨b1, 0, none⟩)] w fun e' w' => e' = .returned (.int .i64 (wrap64 (numF ((f0.drop p.toNat).take 2)))) ∧ qAo w0 w' g f0 (p + 2) e ∧ Below w0.heap.size w0 w' ∧ qAn w w' g none := by
 have HI := am hI
 have HB := am hB
 have h0 := hI.2.1
 clear hI hB
 have hl : ((f0.drop p.toNat).take 2).length = 2 := by rw [List.length_take, List.length_drop]; omega
 have HL := am hl
 clear hl
 go_enter Tryz.func130, Tryz.ntmps130
 go_wp2_with (first | (go_at_call 122; refine (qCq g f0 p e 2 w0 w (by omega) (by omega) HI.out).mono ?_; rintro e' w' ⟨A, c, v, rfl, hc, hC, hi, hw⟩; have hk := hw ▸ qAn.set_ (qAn.refl w g none) 0 v; have HK := am hk; have HN := am hi; have HBN := am (hw ▸ qAb (g := g) (j := 0) (v := v) HB.out HI.out.ge); have hnum := qBQ A c ((f0.drop p.toNat).take 2) w' (by rw [HL.out]; exact hC) (by rw [HL.out]; exact hc) (by rw [HL.out]; decide); rw [HL.out] at hnum; have HNM := am hnum; clear hk hi hw hC hnum) | (go_at_call 128; refine HNM.out.mono ?_; rintro e' w'' ⟨rfl, hd⟩; obtain ⟨m, rfl⟩ := hd.out))
 go_ret
 exact ⟨rfl, HN.out.drewN m, qAd HBN.out m, qDs HK.out m⟩
theorem short_fn_bad (b1 g : Nat) (f0 : List Int) (p e : Int) (w0 w : World) (hq : w.cell? ⟨b1, 0, none⟩ = some (.pointer (some ⟨g, 0, none⟩))) (hlt : f0.length < p + 2) (hI : qAo w0 w g f0 p e) (hB : Below w0.heap.size w0 w) :
  Calls Tryz.prog 130 #[.pointer (some ⟨b1, 0, none⟩)] w fun e' w' => e' = .panicked [{ v := .iface 214 (.int .i64 40), recovered := false }] ∧ qAo w0 w' g f0 p e ∧ Below w0.heap.size w0 w' ∧ qAn w w' g none := by
 have HI := am hI
 have HB := am hB
 clear hI hB
 go_enter Tryz.func130, Tryz.ntmps130
 go_wp2_with (go_at_call 122; refine (qCd g f0 p e 2 w0 w (by omega) HI.out).mono ?_; rintro e' w' ⟨rfl, rfl⟩)
 exact ⟨rfl, rfl, HI.out, HB.out, qAn.refl _ _ _⟩
theorem qEx (b1 g : Nat) (f0 : List Int) (p p' : Int) (x : Int) (w0 w : World) (hI : qAo w0 w g f0 p 0) (hB : Below w0.heap.size w0 w)
  (hfn : ∀ W, Below w.heap.size w W → qAo w0 W g f0 p 0 → Below w0.heap.size w0 W → Calls Tryz.prog 130 #[.pointer (some ⟨b1, 0, none⟩)] W fun e w' => e = .returned (.int .i64 x) ∧ qAo w0 w' g f0 p' 0 ∧ Below w0.heap.size w0 w' ∧ qAn W w' g none) :
  Calls Tryz.prog 123 #[.pointer (some ⟨g, 0, none⟩), .func (.func 130) #[] #[.pointer (some ⟨b1, 0, none⟩)]] w fun e w' => e = .returned (.int .i64 x) ∧ qAo w0 w' g f0 p' 0 ∧ Below w0.heap.size w0 w' ∧ qAn w w' g none := by
 have HI := am hI
 have HB := am hB
 have HFN := am hfn
 have hgl := hI.lt
 obtain ⟨_, h1, h2, h3, v, hb, hr⟩ := hI
 have c1 : w.cell? ⟨g, 1, none⟩ = some (.int .i64 0) := (qAa hb 1).trans rfl
 clear hb hr hB h1 h2 h3 hfn
 go_enter_defers Tryz.func123, Tryz.ntmps123
 have HB3 := am (((Below.refl w.heap.size w).alloc (Nat.le_refl _) (.cells #[.pointer (some ⟨g, 0, none⟩)] 124)).alloc (by simp) (.cells #[.int .i64 0] 3))
 have H3 : qAj (((w.alloc (.cells #[.pointer (some ⟨g, 0, none⟩)] 124)).alloc (.cells #[.int .i64 0] 3)).heap[w.heap.size + 1]? = some (.cells #[.int .i64 0] 3 (0, 0))) := ⟨by simpa using heap_alloc_new (w.alloc (.cells #[.pointer (some ⟨g, 0, none⟩)] 124)) (.cells #[.int .i64 0] 3)⟩
 go_wp2_with (go_at_call 130; refine (HFN.out _ HB3.out ((HI.out.alloc _).alloc _) (qAi (qAi HB.out _) _)).mono ?_; rintro e w4 ⟨rfl, hi, hbw, hk⟩; have hv4 : w4.heap[w.heap.size + 1]? = some (.cells #[.int .i64 0] 3 (0, 0)) := (hk.2 _ (qAM H3.out) (by omega) (by simp)).trans H3.out; have v4 : w4.cell? ⟨w.heap.size + 1, 0, none⟩ = some (.int .i64 0) := (qAa hv4 0).trans rfl; have z4 := qAc hv4 0; have HI4 := am (hi.behind (p := ⟨w.heap.size + 1, 0, none⟩) (by show g < w.heap.size + 1; omega) (.int .i64 x)); have HK4 := am (qCf (j := 0) HB3.out hk (Nat.le_succ _) (.int .i64 x)); have HV4 := am hv4; have HB4 := am (qAb (g := w.heap.size + 1) (j := 0) (v := .int .i64 x) hbw (Nat.le_trans HB.out.size (Nat.le_succ _))); clear hi hk hv4 hbw)
 refine leaves_cons (f := 155) (args := #[.pointer (some ⟨w.heap.size + 1, 0, none⟩), .pointer (some ⟨w.heap.size, 0, none⟩)]) (by simp) (by simp [go_sem]) ?_
 refine (qDw _ _ _).mono ?_
 rintro e u' w'' ⟨rfl, rfl, rfl⟩
 have hvc : (w4.setCell ⟨w.heap.size + 1, 0, none⟩ (.int .i64 x)).heap[w.heap.size + 1]? = some (.cells #[.int .i64 x] 3 (0, 0)) := by simpa using qCa HV4.out 0 (.int .i64 x)
 have hres := (qAa hvc 0).trans rfl
 exact ⟨.int .i64 x, by simp [results, Tryz.results123, go_sem, hres], rfl, HI4.out, HB4.out, HK4.out⟩
theorem qDZ (b1 g : Nat) (f0 : List Int) (p p' : Int) (k : Int) (w0 w : World) (hI : qAo w0 w g f0 p 0) (hB : Below w0.heap.size w0 w)
  (hfn : ∀ W, Below w.heap.size w W → qAo w0 W g f0 p 0 → Below w0.heap.size w0 W → Calls Tryz.prog 130 #[.pointer (some ⟨b1, 0, none⟩)] W fun e w' => e = .panicked [{ v := .iface 214 (.int .i64 k), recovered := false }] ∧ qAo w0 w' g f0 p' 0 ∧ Below w0.heap.size w0 w' ∧ qAn W w' g none) :
  Calls Tryz.prog 123 #[.pointer (some ⟨g, 0, none⟩), .func (.func 130) #[] #[.pointer (some ⟨b1, 0, none⟩)]] w fun e w' => e = .returned (.int .i64 0) ∧ qAo w0 w' g f0 p' k ∧ Below w0.heap.size w0 w' ∧ qAn w w' g none := by
 have HI := am hI
 have HB := am hB
 have HFN := am hfn
 have hgl := hI.lt
 obtain ⟨_, h1, h2, h3, v, hb, hr⟩ := hI
 have c1 : w.cell? ⟨g, 1, none⟩ = some (.int .i64 0) := (qAa hb 1).trans rfl
 clear hb hr hB h1 h2 h3 hfn
 go_enter_defers Tryz.func123, Tryz.ntmps123
 have HB3 := am (((Below.refl w.heap.size w).alloc (Nat.le_refl _) (.cells #[.pointer (some ⟨g, 0, none⟩)] 124)).alloc (by simp) (.cells #[.int .i64 0] 3))
 have H2 : qAj (((w.alloc (.cells #[.pointer (some ⟨g, 0, none⟩)] 124)).alloc (.cells #[.int .i64 0] 3)).heap[w.heap.size]? = some (.cells #[.pointer (some ⟨g, 0, none⟩)] 124 (0, 0))) := ⟨qAe (heap_alloc_new w _) _⟩
 have H3 : qAj (((w.alloc (.cells #[.pointer (some ⟨g, 0, none⟩)] 124)).alloc (.cells #[.int .i64 0] 3)).heap[w.heap.size + 1]? = some (.cells #[.int .i64 0] 3 (0, 0))) := ⟨by simpa using heap_alloc_new (w.alloc (.cells #[.pointer (some ⟨g, 0, none⟩)] 124)) (.cells #[.int .i64 0] 3)⟩
 go_wp2_with (go_at_call 130; refine (HFN.out _ HB3.out ((HI.out.alloc _).alloc _) (qAi (qAi HB.out _) _)).mono ?_; rintro e w4 ⟨rfl, hi, hbw, hk⟩)
 refine leaves_cons (f := 155) (args := #[.pointer (some ⟨w.heap.size + 1, 0, none⟩), .pointer (some ⟨w.heap.size, 0, none⟩)]) (by simp) (by simp [go_sem]) ?_
 have hv4 : w4.heap[w.heap.size + 1]? = some (.cells #[.int .i64 0] 3 (0, 0)) := (hk.2 _ (qAM H3.out) (by omega) (by simp)).trans H3.out
 have hq4 : w4.heap[w.heap.size]? = some (.cells #[.pointer (some ⟨g, 0, none⟩)] 124 (0, 0)) := (hk.2 _ (qAM H2.out) (by omega) (by simp)).trans H2.out
 obtain ⟨_, _, _, _, v4, hg4, _⟩ := id hi
 refine (qCU (w.heap.size + 1) g w.heap.size (.int .i64 0) k v4 [] _ ((qAa hv4 0).trans rfl) (qAc hv4 0) ((qAa hq4 0).trans rfl) hg4 (by omega) (by omega)).mono ?_
 rintro e u' w'' ⟨rfl, rfl, rfl⟩
 have HI5 := am ((hi.behind (p := ⟨w.heap.size + 1, 0, none⟩) (by show g < w.heap.size + 1; omega) (.int .i64 0)).set_e k)
 have HB5 := am (qAb (g := g) (j := 1) (v := .int .i64 k) (qAb (g := w.heap.size + 1) (j := 0) (v := .int .i64 0) hbw (Nat.le_trans HB.out.size (Nat.le_succ _))) HI.out.ge)
 have HK5 := am (qAn.set_ (qCf (j := 0) HB3.out hk (Nat.le_succ _) (.int .i64 0)) 1 (.int .i64 k))
 have hvc := qA1 (g := w.heap.size + 1) (p := ⟨g, 1, none⟩) (qCa hv4 0 (.int .i64 0)) (by show w.heap.size + 1 ≠ g; omega) (.int .i64 k)
 have hres := (qAa hvc 0).trans rfl
 clear hvc
 exact ⟨.int .i64 0, by simp [results, Tryz.results123, go_sem, hres], rfl, HI5.out, HB5.out, HK5.out⟩
theorem long_fn_ok (b1 g : Nat) (f0 : List Int) (p e : Int) (w0 w : World) (hq : w.cell? ⟨b1, 0, none⟩ = some (.pointer (some ⟨g, 0, none⟩))) (hlt : p + 8 ≤ f0.length) (hI : qAo w0 w g f0 p e) (hB : Below w0.heap.size w0 w) :
  Calls Tryz.prog 127 #[.pointer (some ⟨b1, 0, none⟩)] w fun e' w' => e' = .returned (.int .u64 (numF ((f0.drop p.toNat).take 8))) ∧ qAo w0 w' g f0 (p + 8) e ∧ Below w0.heap.size w0 w' ∧ qAn w w' g none := by
 have HI := am hI
 have HB := am hB
 have h0 := hI.2.1
 clear hI hB
 have hl : ((f0.drop p.toNat).take 8).length = 8 := by rw [List.length_take, List.length_drop]; omega
 have HL := am hl
 clear hl
 go_enter Tryz.func127, Tryz.ntmps127
 go_wp2_with (first | (go_at_call 122; refine (qCq g f0 p e 8 w0 w (by omega) (by omega) HI.out).mono ?_; rintro e' w' ⟨A, c, v, rfl, hc, hC, hi, hw⟩; have hk := hw ▸ qAn.set_ (qAn.refl w g none) 0 v; have HK := am hk; have HN := am hi; have HBN := am (hw ▸ qAb (g := g) (j := 0) (v := v) HB.out HI.out.ge); have hnum := qBQ A c ((f0.drop p.toNat).take 8) w' (by rw [HL.out]; exact hC) (by rw [HL.out]; exact hc) (by rw [HL.out]; decide); rw [HL.out] at hnum; have HNM := am hnum; clear hk hi hw hC hnum) | (go_at_call 128; refine HNM.out.mono ?_; rintro e' w'' ⟨rfl, hd⟩; obtain ⟨m, rfl⟩ := hd.out))
 go_ret
 exact ⟨rfl, HN.out.drewN m, qAd HBN.out m, qDs HK.out m⟩
theorem long_fn_bad (b1 g : Nat) (f0 : List Int) (p e : Int) (w0 w : World) (hq : w.cell? ⟨b1, 0, none⟩ = some (.pointer (some ⟨g, 0, none⟩))) (hlt : f0.length < p + 8) (hI : qAo w0 w g f0 p e) (hB : Below w0.heap.size w0 w) :
  Calls Tryz.prog 127 #[.pointer (some ⟨b1, 0, none⟩)] w fun e' w' => e' = .panicked [{ v := .iface 214 (.int .i64 40), recovered := false }] ∧ qAo w0 w' g f0 p e ∧ Below w0.heap.size w0 w' ∧ qAn w w' g none := by
 have HI := am hI
 have HB := am hB
 clear hI hB
 go_enter Tryz.func127, Tryz.ntmps127
 go_wp2_with (go_at_call 122; refine (qCd g f0 p e 8 w0 w (by omega) HI.out).mono ?_; rintro e' w' ⟨rfl, rfl⟩)
 exact ⟨rfl, rfl, HI.out, HB.out, qAn.refl _ _ _⟩
theorem qEI (b1 g : Nat) (f0 : List Int) (p p' : Int) (x : Int) (w0 w : World) (hI : qAo w0 w g f0 p 0) (hB : Below w0.heap.size w0 w)
  (hfn : ∀ W, Below w.heap.size w W → qAo w0 W g f0 p 0 → Below w0.heap.size w0 W → Calls Tryz.prog 127 #[.pointer (some ⟨b1, 0, none⟩)] W fun e w' => e = .returned (.int .u64 x) ∧ qAo w0 w' g f0 p' 0 ∧ Below w0.heap.size w0 w' ∧ qAn W w' g none) :
  Calls Tryz.prog 126 #[.pointer (some ⟨g, 0, none⟩), .func (.func 127) #[] #[.pointer (some ⟨b1, 0, none⟩)]] w fun e w' => e = .returned (.int .u64 x) ∧ qAo w0 w' g f0 p' 0 ∧ Below w0.heap.size w0 w' ∧ qAn w w' g none := by
 have HI := am hI
 have HB := am hB
 have HFN := am hfn
 have hgl := hI.lt
 obtain ⟨_, h1, h2, h3, v, hb, hr⟩ := hI
 have c1 : w.cell? ⟨g, 1, none⟩ = some (.int .i64 0) := (qAa hb 1).trans rfl
 clear hb hr hB h1 h2 h3 hfn
 go_enter_defers Tryz.func126, Tryz.ntmps126
 have HB3 := am (((Below.refl w.heap.size w).alloc (Nat.le_refl _) (.cells #[.pointer (some ⟨g, 0, none⟩)] 124)).alloc (by simp) (.cells #[.int .u64 0] 81))
 have H3 : qAj (((w.alloc (.cells #[.pointer (some ⟨g, 0, none⟩)] 124)).alloc (.cells #[.int .u64 0] 81)).heap[w.heap.size + 1]? = some (.cells #[.int .u64 0] 81 (0, 0))) := ⟨by simpa using heap_alloc_new (w.alloc (.cells #[.pointer (some ⟨g, 0, none⟩)] 124)) (.cells #[.int .u64 0] 81)⟩
 go_wp2_with (go_at_call 127; refine (HFN.out _ HB3.out ((HI.out.alloc _).alloc _) (qAi (qAi HB.out _) _)).mono ?_; rintro e w4 ⟨rfl, hi, hbw, hk⟩; have hv4 : w4.heap[w.heap.size + 1]? = some (.cells #[.int .u64 0] 81 (0, 0)) := (hk.2 _ (qAM H3.out) (by omega) (by simp)).trans H3.out; have v4 : w4.cell? ⟨w.heap.size + 1, 0, none⟩ = some (.int .u64 0) := (qAa hv4 0).trans rfl; have z4 := qAc hv4 0; have HI4 := am (hi.behind (p := ⟨w.heap.size + 1, 0, none⟩) (by show g < w.heap.size + 1; omega) (.int .u64 x)); have HK4 := am (qCf (j := 0) HB3.out hk (Nat.le_succ _) (.int .u64 x)); have HV4 := am hv4; have HB4 := am (qAb (g := w.heap.size + 1) (j := 0) (v := .int .u64 x) hbw (Nat.le_trans HB.out.size (Nat.le_succ _))); clear hi hk hv4 hbw)
 refine leaves_cons (f := 156) (args := #[.pointer (some ⟨w.heap.size + 1, 0, none⟩), .pointer (some ⟨w.heap.size, 0, none⟩)]) (by simp) (by simp [go_sem]) ?_
 refine (catch_u64_idle _ _ _).mono ?_
 rintro e u' w'' ⟨rfl, rfl, rfl⟩
 have hvc : (w4.setCell ⟨w.heap.size + 1, 0, none⟩ (.int .u64 x)).heap[w.heap.size + 1]? = some (.cells #[.int .u64 x] 81 (0, 0)) := by simpa using qCa HV4.out 0 (.int .u64 x)
 have hres := (qAa hvc 0).trans rfl
 exact ⟨.int .u64 x, by simp [results, Tryz.results126, go_sem, hres], rfl, HI4.out, HB4.out, HK4.out⟩
theorem qEw (b1 g : Nat) (f0 : List Int) (p p' : Int) (k : Int) (w0 w : World) (hI : qAo w0 w g f0 p 0) (hB : Below w0.heap.size w0 w)
  (hfn : ∀ W, Below w.heap.size w W → qAo w0 W g f0 p 0 → Below w0.heap.size w0 W → Calls Tryz.prog 127 #[.pointer (some ⟨b1, 0, none⟩)] W fun e w' => e = .panicked [{ v := .iface 214 (.int .i64 k), recovered := false }] ∧ qAo w0 w' g f0 p' 0 ∧ Below w0.heap.size w0 w' ∧ qAn W w' g none) :
  Calls Tryz.prog 126 #[.pointer (some ⟨g, 0, none⟩), .func (.func 127) #[] #[.pointer (some ⟨b1, 0, none⟩)]] w fun e w' => e = .returned (.int .u64 0) ∧ qAo w0 w' g f0 p' k ∧ Below w0.heap.size w0 w' ∧ qAn w w' g none := by
 have HI := am hI
 have HB := am hB
 have HFN := am hfn
 have hgl := hI.lt
 obtain ⟨_, h1, h2, h3, v, hb, hr⟩ := hI
 have c1 : w.cell? ⟨g, 1, none⟩ = some (.int .i64 0) := (qAa hb 1).trans rfl
 clear hb hr hB h1 h2 h3 hfn
 go_enter_defers Tryz.func126, Tryz.ntmps126
 have HB3 := am (((Below.refl w.heap.size w).alloc (Nat.le_refl _) (.cells #[.pointer (some ⟨g, 0, none⟩)] 124)).alloc (by simp) (.cells #[.int .u64 0] 81))
 have H2 : qAj (((w.alloc (.cells #[.pointer (some ⟨g, 0, none⟩)] 124)).alloc (.cells #[.int .u64 0] 81)).heap[w.heap.size]? = some (.cells #[.pointer (some ⟨g, 0, none⟩)] 124 (0, 0))) := ⟨qAe (heap_alloc_new w _) _⟩
 have H3 : qAj (((w.alloc (.cells #[.pointer (some ⟨g, 0, none⟩)] 124)).alloc (.cells #[.int .u64 0] 81)).heap[w.heap.size + 1]? = some (.cells #[.int .u64 0] 81 (0, 0))) := ⟨by simpa using heap_alloc_new (w.alloc (.cells #[.pointer (some ⟨g, 0, none⟩)] 124)) (.cells #[.int .u64 0] 81)⟩
 go_wp2_with (go_at_call 127; refine (HFN.out _ HB3.out ((HI.out.alloc _).alloc _) (qAi (qAi HB.out _) _)).mono ?_; rintro e w4 ⟨rfl, hi, hbw, hk⟩)
 refine leaves_cons (f := 156) (args := #[.pointer (some ⟨w.heap.size + 1, 0, none⟩), .pointer (some ⟨w.heap.size, 0, none⟩)]) (by simp) (by simp [go_sem]) ?_
 have hv4 : w4.heap[w.heap.size + 1]? = some (.cells #[.int .u64 0] 81 (0, 0)) := (hk.2 _ (qAM H3.out) (by omega) (by simp)).trans H3.out
 have hq4 : w4.heap[w.heap.size]? = some (.cells #[.pointer (some ⟨g, 0, none⟩)] 124 (0, 0)) := (hk.2 _ (qAM H2.out) (by omega) (by simp)).trans H2.out
 obtain ⟨_, _, _, _, v4, hg4, _⟩ := id hi
 refine (qEu (w.heap.size + 1) g w.heap.size (.int .u64 0) k v4 [] _ ((qAa hv4 0).trans rfl) (qAc hv4 0) ((qAa hq4 0).trans rfl) hg4 (by omega) (by omega)).mono ?_
 rintro e u' w'' ⟨rfl, rfl, rfl⟩
 have HI5 := am ((hi.behind (p := ⟨w.heap.size + 1, 0, none⟩) (by show g < w.heap.size + 1; omega) (.int .u64 0)).set_e k)
 have HB5 := am (qAb (g := g) (j := 1) (v := .int .i64 k) (qAb (g := w.heap.size + 1) (j := 0) (v := .int .u64 0) hbw (Nat.le_trans HB.out.size (Nat.le_succ _))) HI.out.ge)
 have HK5 := am (qAn.set_ (qCf (j := 0) HB3.out hk (Nat.le_succ _) (.int .u64 0)) 1 (.int .i64 k))
 have hvc := qA1 (g := w.heap.size + 1) (p := ⟨g, 1, none⟩) (qCa hv4 0 (.int .u64 0)) (by show w.heap.size + 1 ≠ g; omega) (.int .i64 k)
 have hres := (qAa hvc 0).trans rfl
 clear hvc
 exact ⟨.int .u64 0, by simp [results, Tryz.results126, go_sem, hres], rfl, HI5.out, HB5.out, HK5.out⟩
def qAQ.f (s0_0 : List Int) (s0_1 : Int) (s0_2 : Int) : Option (Int × Int × Int) :=
 some (if s0_2 ≠ 0 then (0, s0_1, s0_2) else if s0_1 + 2 ≤ s0_0.length then (wrap64 (numF ((s0_0.drop s0_1.toNat).take 2)), s0_1 + 2, 0) else (0, s0_1, 40))
theorem qAQ.calls (g : Nat) (s0_0 : List Int) (s0_1 : Int) (s0_2 : Int) (r1 : Int) (r2 : Int) (r3 : Int) (w0 w : World) (hI : qAo w0 w g s0_0 s0_1 s0_2) (hB : Below w0.heap.size w0 w) (h : qAQ.f s0_0 s0_1 s0_2 = some (r1, r2, r3)) :
  Calls Tryz.prog 63 #[.pointer (some ⟨g, 0, none⟩)] w fun e w' => e = .returned (.int .i64 r1) ∧ qAo w0 w' g s0_0 r2 r3 ∧ Below w0.heap.size w0 w' ∧ qAn w w' g none := by
 have HI := am (hI.alloc (.cells #[.pointer (some ⟨g, 0, none⟩)] 124))
 have HB := am (qAi hB (.cells #[.pointer (some ⟨g, 0, none⟩)] 124))
 have HK := am (qB2 (qAn.refl w g none) (.cells #[.pointer (some ⟨g, 0, none⟩)] 124))
 have hq : (w.alloc (.cells #[.pointer (some ⟨g, 0, none⟩)] 124)).cell? ⟨w.heap.size, 0, none⟩ = some (.pointer (some ⟨g, 0, none⟩)) := (qAa (heap_alloc_new w _) 0).trans rfl
 have HQ : qAj (∀ W, Below (w.alloc (.cells #[.pointer (some ⟨g, 0, none⟩)] 124)).heap.size (w.alloc (.cells #[.pointer (some ⟨g, 0, none⟩)] 124)) W → W.cell? ⟨w.heap.size, 0, none⟩ = some (.pointer (some ⟨g, 0, none⟩))) := ⟨fun W hW => (hW.cell (p := ⟨w.heap.size, 0, none⟩) (by simp)).trans hq⟩
 clear hq
 have h0 : 0 ≤ s0_1 := hI.2.1
 unfold qAQ.f at h
 injection h with h
 have HF : qAj (Calls Tryz.prog 123 #[.pointer (some ⟨g, 0, none⟩), .func (.func 130) #[] #[.pointer (some ⟨w.heap.size, 0, none⟩)]] (w.alloc (.cells #[.pointer (some ⟨g, 0, none⟩)] 124)) fun e w' => e = .returned (.int .i64 r1) ∧ qAo w0 w' g s0_0 r2 r3 ∧ Below w0.heap.size w0 w' ∧ qAn w w' g none) := by
  by_cases he : s0_2 ≠ 0
  ·rw [if_pos he] at h
   simp only [Prod.mk.injEq] at h
   obtain ⟨rfl, rfl, rfl⟩ := h
   exact ⟨(qCE _ g s0_0 _ _ w0 _ he HI.out HB.out).mono fun e' w' ⟨h1, h2, h3, h4⟩ => ⟨h1, h2, h3, HK.out.trans h4 (.inl rfl)⟩⟩
  rw [if_neg he] at h
  simp only [Decidable.not_not] at he
  subst he
  by_cases hlt : s0_1 + 2 ≤ s0_0.length
  ·rw [if_pos hlt] at h
   simp only [Prod.mk.injEq] at h
   obtain ⟨rfl, rfl, rfl⟩ := h
   exact ⟨(qEx w.heap.size g s0_0 _ _ _ w0 _ HI.out HB.out (fun W h1 h2 h3 => short_fn_ok _ g s0_0 _ _ w0 W (HQ.out W h1) hlt h2 h3)).mono fun e' w' ⟨h1, h2, h3, h4⟩ => ⟨h1, h2, h3, HK.out.trans h4 (.inl rfl)⟩⟩
  rw [if_neg hlt] at h
  simp only [Prod.mk.injEq] at h
  obtain ⟨rfl, rfl, rfl⟩ := h
  exact ⟨(qDZ w.heap.size g s0_0 _ _ _ w0 _ HI.out HB.out (fun W h1 h2 h3 => short_fn_bad _ g s0_0 _ _ w0 W (HQ.out W h1) (by omega) h2 h3)).mono fun e' w' ⟨h1, h2, h3, h4⟩ => ⟨h1, h2, h3, HK.out.trans h4 (.inl rfl)⟩⟩
 clear h hI hB h0
 go_enter Tryz.func63, Tryz.ntmps63
 go_wp2_with (go_at_call 123; refine HF.out.mono ?_; rintro e w' ⟨rfl, hi, hb, hk⟩; have HI2 := am hi; have HB2 := am hb; have HK2 := am hk; clear hi hb hk)
 go_ret
 exact ⟨rfl, HI2.out, HB2.out, HK2.out⟩
def qAZ.f (s0_0 : List Int) (s0_1 : Int) (s0_2 : Int) : Option (Int × Int × Int) :=
 some (if s0_2 ≠ 0 then (0, s0_1, s0_2) else if s0_1 + 8 ≤ s0_0.length then (numF ((s0_0.drop s0_1.toNat).take 8), s0_1 + 8, 0) else (0, s0_1, 40))
theorem qAZ.calls (g : Nat) (s0_0 : List Int) (s0_1 : Int) (s0_2 : Int) (r1 : Int) (r2 : Int) (r3 : Int) (w0 w : World) (hI : qAo w0 w g s0_0 s0_1 s0_2) (hB : Below w0.heap.size w0 w) (h : qAZ.f s0_0 s0_1 s0_2 = some (r1, r2, r3)) :
  Calls Tryz.prog 61 #[.pointer (some ⟨g, 0, none⟩)] w fun e w' => e = .returned (.int .u64 r1) ∧ qAo w0 w' g s0_0 r2 r3 ∧ Below w0.heap.size w0 w' ∧ qAn w w' g none := by
 have HI := am (hI.alloc (.cells #[.pointer (some ⟨g, 0, none⟩)] 124))
 have HB := am (qAi hB (.cells #[.pointer (some ⟨g, 0, none⟩)] 124))
 have HK := am (qB2 (qAn.refl w g none) (.cells #[.pointer (some ⟨g, 0, none⟩)] 124))
 have hq : (w.alloc (.cells #[.pointer (some ⟨g, 0, none⟩)] 124)).cell? ⟨w.heap.size, 0, none⟩ = some (.pointer (some ⟨g, 0, none⟩)) := (qAa (heap_alloc_new w _) 0).trans rfl
 have HQ : qAj (∀ W, Below (w.alloc (.cells #[.pointer (some ⟨g, 0, none⟩)] 124)).heap.size (w.alloc (.cells #[.pointer (some ⟨g, 0, none⟩)] 124)) W → W.cell? ⟨w.heap.size, 0, none⟩ = some (.pointer (some ⟨g, 0, none⟩))) := ⟨fun W hW => (hW.cell (p := ⟨w.heap.size, 0, none⟩) (by simp)).trans hq⟩
 clear hq
 have h0 : 0 ≤ s0_1 := hI.2.1
 unfold qAZ.f at h
 injection h with h
 have HF : qAj (Calls Tryz.prog 126 #[.pointer (some ⟨g, 0, none⟩), .func (.func 127) #[] #[.pointer (some ⟨w.heap.size, 0, none⟩)]] (w.alloc (.cells #[.pointer (some ⟨g, 0, none⟩)] 124)) fun e w' => e = .returned (.int .u64 r1) ∧ qAo w0 w' g s0_0 r2 r3 ∧ Below w0.heap.size w0 w' ∧ qAn w w' g none) := by
  by_cases he : s0_2 ≠ 0
  ·rw [if_pos he] at h
   simp only [Prod.mk.injEq] at h
   obtain ⟨rfl, rfl, rfl⟩ := h
   exact ⟨(qEa _ g s0_0 _ _ w0 _ he HI.out HB.out).mono fun e' w' ⟨h1, h2, h3, h4⟩ => ⟨h1, h2, h3, HK.out.trans h4 (.inl rfl)⟩⟩
  rw [if_neg he] at h
  simp only [Decidable.not_not] at he
  subst he
  by_cases hlt : s0_1 + 8 ≤ s0_0.length
  ·rw [if_pos hlt] at h
   simp only [Prod.mk.injEq] at h
   obtain ⟨rfl, rfl, rfl⟩ := h
   exact ⟨(qEI w.heap.size g s0_0 _ _ _ w0 _ HI.out HB.out (fun W h1 h2 h3 => long_fn_ok _ g s0_0 _ _ w0 W (HQ.out W h1) hlt h2 h3)).mono fun e' w' ⟨h1, h2, h3, h4⟩ => ⟨h1, h2, h3, HK.out.trans h4 (.inl rfl)⟩⟩
  rw [if_neg hlt] at h
  simp only [Prod.mk.injEq] at h
  obtain ⟨rfl, rfl, rfl⟩ := h
  exact ⟨(qEw w.heap.size g s0_0 _ _ _ w0 _ HI.out HB.out (fun W h1 h2 h3 => long_fn_bad _ g s0_0 _ _ w0 W (HQ.out W h1) (by omega) h2 h3)).mono fun e' w' ⟨h1, h2, h3, h4⟩ => ⟨h1, h2, h3, HK.out.trans h4 (.inl rfl)⟩⟩
 clear h hI hB h0
 go_enter Tryz.func61, Tryz.ntmps61
 go_wp2_with (go_at_call 126; refine HF.out.mono ?_; rintro e w' ⟨rfl, hi, hb, hk⟩; have HI2 := am hi; have HB2 := am hb; have HK2 := am hk; clear hi hb hk)
 go_ret
 exact ⟨rfl, HI2.out, HB2.out, HK2.out⟩
theorem numStep_nonneg (n x : Int) : 0 ≤ qDg n x := by
 unfold qDg Go.bits
 simp only [IntKind.wrap, IntKind.bits, IntKind.signed]
 have : ∀ a : Int, 0 ≤ a % (2 : Int) ^ 64 := fun a => Int.emod_nonneg _ (by decide)
 simp
 try omega
theorem qD8 (l : List Int) : 0 ≤ numF l := by
 unfold numF
 have : ∀ (l : List Int) (n : Int), 0 ≤ n → 0 ≤ l.foldl qDg n := by
  intro l
  induction l with
  | nil => intro n h; exact h
  | cons x l ih => intro n _; exact ih _ (numStep_nonneg n x)
 exact this l 0 (Int.le_refl 0)
def num4 (f0 : List Int) (p : Int) : Int := numF ((f0.drop p.toNat).take 4)
theorem qET (g : Nat) (f0 : List Int) (p e : Int) (w0 w : World) (hlt : p + 4 ≤ f0.length) (hv : num4 f0 p ≤ 2147483647) (hI : qAo w0 w g f0 p e) (hB : Below w0.heap.size w0 w) :
  Calls Tryz.prog 125 #[.pointer (some ⟨g, 0, none⟩)] w fun e' w' => e' = .returned (.int .i64 (num4 f0 p)) ∧ qAo w0 w' g f0 (p + 4) e ∧ Below w0.heap.size w0 w' ∧ qAn w w' g none := by
 have HI := am hI
 have HB := am hB
 have h0 := hI.2.1
 have hx0 : 0 ≤ num4 f0 p := qD8 _
 obtain ⟨x, hx⟩ : ∃ x, x = num4 f0 p := ⟨_, rfl⟩
 have HX : qAj (x = numF ((f0.drop p.toNat).take 4)) := ⟨hx⟩
 rw [← hx] at hx0 hv ⊢
 clear hI hB hx
 have hl : ((f0.drop p.toNat).take 4).length = 4 := by rw [List.length_take, List.length_drop]; omega
 have HL := am hl
 clear hl
 go_enter Tryz.func125, Tryz.ntmps125
 go_wp2_with (first | (go_at_call 122; refine (qCq g f0 p e 4 w0 w (by omega) (by omega) HI.out).mono ?_; rintro e' w' ⟨A, c, v, rfl, hc, hC, hi, hw⟩; have hk := hw ▸ qAn.set_ (qAn.refl w g none) 0 v; have HK := am hk; have HN := am hi; have HBN := am (hw ▸ qAb (g := g) (j := 0) (v := v) HB.out HI.out.ge); have hnum := qBQ A c ((f0.drop p.toNat).take 4) w' (by rw [HL.out]; exact hC) (by rw [HL.out]; exact hc) (by rw [HL.out]; decide); rw [HL.out, ← HX.out] at hnum; have HNM := am hnum; clear hk hi hw hC hnum) | (go_at_call 128; refine HNM.out.mono ?_; rintro e' w'' ⟨rfl, hd⟩; obtain ⟨m, rfl⟩ := hd.out))
 go_ret
 exact ⟨rfl, HN.out.drewN m, qAd HBN.out m, qDs HK.out m⟩
theorem rd_int_big (g : Nat) (f0 : List Int) (p e : Int) (w0 w : World) (hlt : p + 4 ≤ f0.length) (hv : 2147483647 < num4 f0 p) (hI : qAo w0 w g f0 p e) (hB : Below w0.heap.size w0 w) :
  Calls Tryz.prog 125 #[.pointer (some ⟨g, 0, none⟩)] w fun e' w' => e' = .panicked [{ v := .iface 214 (.int .i64 42), recovered := false }] ∧ qAo w0 w' g f0 (p + 4) e ∧ Below w0.heap.size w0 w' ∧ qAn w w' g none := by
 have HI := am hI
 have HB := am hB
 have h0 := hI.2.1
 have hx0 : 0 ≤ num4 f0 p := qD8 _
 obtain ⟨x, hx⟩ : ∃ x, x = num4 f0 p := ⟨_, rfl⟩
 have HX : qAj (x = numF ((f0.drop p.toNat).take 4)) := ⟨hx⟩
 rw [← hx] at hx0 hv
 clear hI hB hx
 have hl : ((f0.drop p.toNat).take 4).length = 4 := by rw [List.length_take, List.length_drop]; omega
 have HL := am hl
 clear hl
 go_enter Tryz.func125, Tryz.ntmps125
 go_wp2_with (first | (go_at_call 122; refine (qCq g f0 p e 4 w0 w (by omega) (by omega) HI.out).mono ?_; rintro e' w' ⟨A, c, v, rfl, hc, hC, hi, hw⟩; have hk := hw ▸ qAn.set_ (qAn.refl w g none) 0 v; have HK := am hk; have HN := am hi; have HBN := am (hw ▸ qAb (g := g) (j := 0) (v := v) HB.out HI.out.ge); have hnum := qBQ A c ((f0.drop p.toNat).take 4) w' (by rw [HL.out]; exact hC) (by rw [HL.out]; exact hc) (by rw [HL.out]; decide); rw [HL.out, ← HX.out] at hnum; have HNM := am hnum; clear hk hi hw hC hnum) | (go_at_call 128; refine HNM.out.mono ?_; rintro e' w'' ⟨rfl, hd⟩; obtain ⟨m, rfl⟩ := hd.out))
 skip
 exact ⟨rfl, rfl, HN.out.drewN m, qAd HBN.out m, qDs HK.out m⟩
theorem qES (g : Nat) (f0 : List Int) (p e : Int) (w0 w : World) (hlt : f0.length < p + 4) (hI : qAo w0 w g f0 p e) (hB : Below w0.heap.size w0 w) :
  Calls Tryz.prog 125 #[.pointer (some ⟨g, 0, none⟩)] w fun e' w' => e' = .panicked [{ v := .iface 214 (.int .i64 40), recovered := false }] ∧ qAo w0 w' g f0 p e ∧ Below w0.heap.size w0 w' ∧ qAn w w' g none := by
 have HI := am hI
 have HB := am hB
 clear hI hB
 go_enter Tryz.func125, Tryz.ntmps125
 go_wp2_with (go_at_call 122; refine (qCd g f0 p e 4 w0 w (by omega) HI.out).mono ?_; rintro e' w' ⟨rfl, rfl⟩)
 exact ⟨rfl, rfl, HI.out, HB.out, qAn.refl _ _ _⟩
theorem int_fn_ret (b1 g : Nat) (x : Int) (R : Ending → World → Prop) (w : World) (hq : w.cell? ⟨b1, 0, none⟩ = some (.pointer (some ⟨g, 0, none⟩)))
  (h : Calls Tryz.prog 125 #[.pointer (some ⟨g, 0, none⟩)] w fun e w' => e = .returned (.int .i64 x) ∧ R e w') :
  Calls Tryz.prog 124 #[.pointer (some ⟨b1, 0, none⟩)] w R := by
 have H := am h
 clear h
 go_enter Tryz.func124, Tryz.ntmps124
 go_wp2_with (go_at_call 125; refine H.out.mono ?_; rintro e w' ⟨rfl, hR⟩; have HR := am hR; clear hR)
 exact HR.out
theorem int_fn_pan (b1 g : Nat) (c : List PanicEntry) (R : Ending → World → Prop) (w : World) (hq : w.cell? ⟨b1, 0, none⟩ = some (.pointer (some ⟨g, 0, none⟩)))
  (h : Calls Tryz.prog 125 #[.pointer (some ⟨g, 0, none⟩)] w fun e w' => e = .panicked c ∧ R e w') :
  Calls Tryz.prog 124 #[.pointer (some ⟨b1, 0, none⟩)] w R := by
 have H := am h
 clear h
 go_enter Tryz.func124, Tryz.ntmps124
 go_wp2_with (go_at_call 125; refine H.out.mono ?_; rintro e w' ⟨rfl, hR⟩; have HR := am hR; clear hR)
 exact ⟨rfl, HR.out⟩
theorem guarded_int_ok (b1 g : Nat) (f0 : List Int) (p p' : Int) (x : Int) (w0 w : World) (hI : qAo w0 w g f0 p 0) (hB : Below w0.heap.size w0 w)
  (hfn : ∀ W, Below w.heap.size w W → qAo w0 W g f0 p 0 → Below w0.heap.size w0 W → Calls Tryz.prog 124 #[.pointer (some ⟨b1, 0, none⟩)] W fun e w' => e = .returned (.int .i64 x) ∧ qAo w0 w' g f0 p' 0 ∧ Below w0.heap.size w0 w' ∧ qAn W w' g none) :
  Calls Tryz.prog 123 #[.pointer (some ⟨g, 0, none⟩), .func (.func 124) #[] #[.pointer (some ⟨b1, 0, none⟩)]] w fun e w' => e = .returned (.int .i64 x) ∧ qAo w0 w' g f0 p' 0 ∧ Below w0.heap.size w0 w' ∧ qAn w w' g none := by
 have HI := am hI
 have HB := am hB
 have HFN := am hfn
 have hgl := hI.lt
 obtain ⟨_, h1, h2, h3, v, hb, hr⟩ := hI
 have c1 : w.cell? ⟨g, 1, none⟩ = some (.int .i64 0) := (qAa hb 1).trans rfl
 clear hb hr hB h1 h2 h3 hfn
 go_enter_defers Tryz.func123, Tryz.ntmps123
 have HB3 := am (((Below.refl w.heap.size w).alloc (Nat.le_refl _) (.cells #[.pointer (some ⟨g, 0, none⟩)] 124)).alloc (by simp) (.cells #[.int .i64 0] 3))
 have H3 : qAj (((w.alloc (.cells #[.pointer (some ⟨g, 0, none⟩)] 124)).alloc (.cells #[.int .i64 0] 3)).heap[w.heap.size + 1]? = some (.cells #[.int .i64 0] 3 (0, 0))) := ⟨by simpa using heap_alloc_new (w.alloc (.cells #[.pointer (some ⟨g, 0, none⟩)] 124)) (.cells #[.int .i64 0] 3)⟩
 go_wp2_with (go_at_call 124; refine (HFN.out _ HB3.out ((HI.out.alloc _).alloc _) (qAi (qAi HB.out _) _)).mono ?_; rintro e w4 ⟨rfl, hi, hbw, hk⟩; have hv4 : w4.heap[w.heap.size + 1]? = some (.cells #[.int .i64 0] 3 (0, 0)) := (hk.2 _ (qAM H3.out) (by omega) (by simp)).trans H3.out; have v4 : w4.cell? ⟨w.heap.size + 1, 0, none⟩ = some (.int .i64 0) := (qAa hv4 0).trans rfl; have z4 := qAc hv4 0; have HI4 := am (hi.behind (p := ⟨w.heap.size + 1, 0, none⟩) (by show g < w.heap.size + 1; omega) (.int .i64 x)); have HK4 := am (qCf (j := 0) HB3.out hk (Nat.le_succ _) (.int .i64 x)); have HV4 := am hv4; have HB4 := am (qAb (g := w.heap.size + 1) (j := 0) (v := .int .i64 x) hbw (Nat.le_trans HB.out.size (Nat.le_succ _))); clear hi hk hv4 hbw)
 refine leaves_cons (f := 155) (args := #[.pointer (some ⟨w.heap.size + 1, 0, none⟩), .pointer (some ⟨w.heap.size, 0, none⟩)]) (by simp) (by simp [go_sem]) ?_
 refine (qDw _ _ _).mono ?_
 rintro e u' w'' ⟨rfl, rfl, rfl⟩
 have hvc : (w4.setCell ⟨w.heap.size + 1, 0, none⟩ (.int .i64 x)).heap[w.heap.size + 1]? = some (.cells #[.int .i64 x] 3 (0, 0)) := by simpa using qCa HV4.out 0 (.int .i64 x)
 have hres := (qAa hvc 0).trans rfl
 exact ⟨.int .i64 x, by simp [results, Tryz.results123, go_sem, hres], rfl, HI4.out, HB4.out, HK4.out⟩
theorem qDe (b1 g : Nat) (f0 : List Int) (p p' : Int) (k : Int) (w0 w : World) (hI : qAo w0 w g f0 p 0) (hB : Below w0.heap.size w0 w)
  (hfn : ∀ W, Below w.heap.size w W → qAo w0 W g f0 p 0 → Below w0.heap.size w0 W → Calls Tryz.prog 124 #[.pointer (some ⟨b1, 0, none⟩)] W fun e w' => e = .panicked [{ v := .iface 214 (.int .i64 k), recovered := false }] ∧ qAo w0 w' g f0 p' 0 ∧ Below w0.heap.size w0 w' ∧ qAn W w' g none) :
  Calls Tryz.prog 123 #[.pointer (some ⟨g, 0, none⟩), .func (.func 124) #[] #[.pointer (some ⟨b1, 0, none⟩)]] w fun e w' => e = .returned (.int .i64 0) ∧ qAo w0 w' g f0 p' k ∧ Below w0.heap.size w0 w' ∧ qAn w w' g none := by
 have HI := am hI
 have HB := am hB
 have HFN := am hfn
 have hgl := hI.lt
 obtain ⟨_, h1, h2, h3, v, hb, hr⟩ := hI
 have c1 : w.cell? ⟨g, 1, none⟩ = some (.int .i64 0) := (qAa hb 1).trans rfl
 clear hb hr hB h1 h2 h3 hfn
 go_enter_defers Tryz.func123, Tryz.ntmps123
 have HB3 := am (((Below.refl w.heap.size w).alloc (Nat.le_refl _) (.cells #[.pointer (some ⟨g, 0, none⟩)] 124)).alloc (by simp) (.cells #[.int .i64 0] 3))
 have H2 : qAj (((w.alloc (.cells #[.pointer (some ⟨g, 0, none⟩)] 124)).alloc (.cells #[.int .i64 0] 3)).heap[w.heap.size]? = some (.cells #[.pointer (some ⟨g, 0, none⟩)] 124 (0, 0))) := ⟨qAe (heap_alloc_new w _) _⟩
 have H3 : qAj (((w.alloc (.cells #[.pointer (some ⟨g, 0, none⟩)] 124)).alloc (.cells #[.int .i64 0] 3)).heap[w.heap.size + 1]? = some (.cells #[.int .i64 0] 3 (0, 0))) := ⟨by simpa using heap_alloc_new (w.alloc (.cells #[.pointer (some ⟨g, 0, none⟩)] 124)) (.cells #[.int .i64 0] 3)⟩
 go_wp2_with (go_at_call 124; refine (HFN.out _ HB3.out ((HI.out.alloc _).alloc _) (qAi (qAi HB.out _) _)).mono ?_; rintro e w4 ⟨rfl, hi, hbw, hk⟩)
 refine leaves_cons (f := 155) (args := #[.pointer (some ⟨w.heap.size + 1, 0, none⟩), .pointer (some ⟨w.heap.size, 0, none⟩)]) (by simp) (by simp [go_sem]) ?_
 have hv4 : w4.heap[w.heap.size + 1]? = some (.cells #[.int .i64 0] 3 (0, 0)) := (hk.2 _ (qAM H3.out) (by omega) (by simp)).trans H3.out
 have hq4 : w4.heap[w.heap.size]? = some (.cells #[.pointer (some ⟨g, 0, none⟩)] 124 (0, 0)) := (hk.2 _ (qAM H2.out) (by omega) (by simp)).trans H2.out
 obtain ⟨_, _, _, _, v4, hg4, _⟩ := id hi
 refine (qCU (w.heap.size + 1) g w.heap.size (.int .i64 0) k v4 [] _ ((qAa hv4 0).trans rfl) (qAc hv4 0) ((qAa hq4 0).trans rfl) hg4 (by omega) (by omega)).mono ?_
 rintro e u' w'' ⟨rfl, rfl, rfl⟩
 have HI5 := am ((hi.behind (p := ⟨w.heap.size + 1, 0, none⟩) (by show g < w.heap.size + 1; omega) (.int .i64 0)).set_e k)
 have HB5 := am (qAb (g := g) (j := 1) (v := .int .i64 k) (qAb (g := w.heap.size + 1) (j := 0) (v := .int .i64 0) hbw (Nat.le_trans HB.out.size (Nat.le_succ _))) HI.out.ge)
 have HK5 := am (qAn.set_ (qCf (j := 0) HB3.out hk (Nat.le_succ _) (.int .i64 0)) 1 (.int .i64 k))
 have hvc := qA1 (g := w.heap.size + 1) (p := ⟨g, 1, none⟩) (qCa hv4 0 (.int .i64 0)) (by show w.heap.size + 1 ≠ g; omega) (.int .i64 k)
 have hres := (qAa hvc 0).trans rfl
 clear hvc
 exact ⟨.int .i64 0, by simp [results, Tryz.results123, go_sem, hres], rfl, HI5.out, HB5.out, HK5.out⟩
def qAN.f (s0_0 : List Int) (s0_1 : Int) (s0_2 : Int) : Option (Int × Int × Int) :=
 some (if s0_2 ≠ 0 then (0, s0_1, s0_2) else if s0_1 + 4 ≤ s0_0.length then (if num4 s0_0 s0_1 ≤ 2147483647 then (num4 s0_0 s0_1, s0_1 + 4, 0) else (0, s0_1 + 4, 42)) else (0, s0_1, 40))
theorem qAN.calls (g : Nat) (s0_0 : List Int) (s0_1 : Int) (s0_2 : Int) (r1 : Int) (r2 : Int) (r3 : Int) (w0 w : World) (hI : qAo w0 w g s0_0 s0_1 s0_2) (hB : Below w0.heap.size w0 w) (h : qAN.f s0_0 s0_1 s0_2 = some (r1, r2, r3)) :
  Calls Tryz.prog 59 #[.pointer (some ⟨g, 0, none⟩)] w fun e w' => e = .returned (.int .i64 r1) ∧ qAo w0 w' g s0_0 r2 r3 ∧ Below w0.heap.size w0 w' ∧ qAn w w' g none := by
 have HI := am (hI.alloc (.cells #[.pointer (some ⟨g, 0, none⟩)] 124))
 have HB := am (qAi hB (.cells #[.pointer (some ⟨g, 0, none⟩)] 124))
 have HK := am (qB2 (qAn.refl w g none) (.cells #[.pointer (some ⟨g, 0, none⟩)] 124))
 have hq : (w.alloc (.cells #[.pointer (some ⟨g, 0, none⟩)] 124)).cell? ⟨w.heap.size, 0, none⟩ = some (.pointer (some ⟨g, 0, none⟩)) := (qAa (heap_alloc_new w _) 0).trans rfl
 have HQ : qAj (∀ W, Below (w.alloc (.cells #[.pointer (some ⟨g, 0, none⟩)] 124)).heap.size (w.alloc (.cells #[.pointer (some ⟨g, 0, none⟩)] 124)) W → W.cell? ⟨w.heap.size, 0, none⟩ = some (.pointer (some ⟨g, 0, none⟩))) := ⟨fun W hW => (hW.cell (p := ⟨w.heap.size, 0, none⟩) (by simp)).trans hq⟩
 clear hq
 have h0 : 0 ≤ s0_1 := hI.2.1
 unfold qAN.f at h
 injection h with h
 have HF : qAj (Calls Tryz.prog 123 #[.pointer (some ⟨g, 0, none⟩), .func (.func 124) #[] #[.pointer (some ⟨w.heap.size, 0, none⟩)]] (w.alloc (.cells #[.pointer (some ⟨g, 0, none⟩)] 124)) fun e w' => e = .returned (.int .i64 r1) ∧ qAo w0 w' g s0_0 r2 r3 ∧ Below w0.heap.size w0 w' ∧ qAn w w' g none) := by
  by_cases he : s0_2 ≠ 0
  ·rw [if_pos he] at h
   simp only [Prod.mk.injEq] at h
   obtain ⟨rfl, rfl, rfl⟩ := h
   exact ⟨(qCE _ g s0_0 _ _ w0 _ he HI.out HB.out).mono fun e' w' ⟨h1, h2, h3, h4⟩ => ⟨h1, h2, h3, HK.out.trans h4 (.inl rfl)⟩⟩
  rw [if_neg he] at h
  simp only [Decidable.not_not] at he
  subst he
  by_cases hlt : s0_1 + 4 ≤ s0_0.length
  rotate_left
  ·rw [if_neg hlt] at h
   simp only [Prod.mk.injEq] at h
   obtain ⟨rfl, rfl, rfl⟩ := h
   exact ⟨(qDe w.heap.size g s0_0 _ _ _ w0 _ HI.out HB.out (fun W h1 h2 h3 => int_fn_pan _ g _ _ W (HQ.out W h1) ((qES g s0_0 _ _ w0 W (by omega) h2 h3).mono fun e w' h => ⟨h.1, h⟩))).mono fun e' w' ⟨h1, h2, h3, h4⟩ => ⟨h1, h2, h3, HK.out.trans h4 (.inl rfl)⟩⟩
  rw [if_pos hlt] at h
  by_cases hv : num4 s0_0 s0_1 ≤ 2147483647
  ·rw [if_pos hv] at h
   simp only [Prod.mk.injEq] at h
   obtain ⟨rfl, rfl, rfl⟩ := h
   exact ⟨(guarded_int_ok w.heap.size g s0_0 _ _ _ w0 _ HI.out HB.out (fun W h1 h2 h3 => int_fn_ret _ g _ _ W (HQ.out W h1) ((qET g s0_0 _ _ w0 W hlt hv h2 h3).mono fun e w' h => ⟨h.1, h⟩))).mono fun e' w' ⟨h1, h2, h3, h4⟩ => ⟨h1, h2, h3, HK.out.trans h4 (.inl rfl)⟩⟩
  rw [if_neg hv] at h
  simp only [Prod.mk.injEq] at h
  obtain ⟨rfl, rfl, rfl⟩ := h
  exact ⟨(qDe w.heap.size g s0_0 _ _ _ w0 _ HI.out HB.out (fun W h1 h2 h3 => int_fn_pan _ g _ _ W (HQ.out W h1) ((rd_int_big g s0_0 _ _ w0 W hlt (by omega) h2 h3).mono fun e w' h => ⟨h.1, h⟩))).mono fun e' w' ⟨h1, h2, h3, h4⟩ => ⟨h1, h2, h3, HK.out.trans h4 (.inl rfl)⟩⟩
 clear h hI hB h0
 go_enter Tryz.func59, Tryz.ntmps59
 go_wp2_with (go_at_call 123; refine HF.out.mono ?_; rintro e w' ⟨rfl, hi, hb, hk⟩; have HI2 := am hi; have HB2 := am hb; have HK2 := am hk; clear hi hb hk)
 go_ret
 exact ⟨rfl, HI2.out, HB2.out, HK2.out⟩
end Q
end
section
namespace Q
open Go.RowKit PA PC PB
attribute [local go_sem] qAU min2_int qBd min_two max_three min_three max_four min_four
theorem rd_next_zero (g : Nat) (f0 : List Int) (p e : Int) (w0 w : World) (hI : qAo w0 w g f0 p e) :
  Calls Tryz.prog 122 #[.pointer (some ⟨g, 0, none⟩), .int .i64 0] w fun e' w' => ∃ A c v, e' = .returned (.slice A 0 c) ∧ qAo w0 w' g f0 p e ∧ w' = w.setCell ⟨g, 0, none⟩ v := by
 have HI := am hI
 obtain ⟨_, h1, h2, h3, v, hb, hr⟩ := hI
 have hlen : (f0.drop p.toNat).length = f0.length - p.toNat := List.length_drop
 have HR := am hr
 obtain ⟨A, c, rfl⟩ := hr.form
 have c0 : w.cell? ⟨g, 0, none⟩ = some _ := (qAa hb 0).trans rfl
 have f0z := qAc hb 0
 obtain ⟨m, hm⟩ : ∃ m, m = (f0.drop p.toNat).length := ⟨_, rfl⟩
 have hml : m ≤ 9223372036854775807 := by omega
 rw [← hm] at c0
 have HS : qAj (qAo w0 (w.setCell ⟨g, 0, none⟩ (.slice A m c)) g f0 p e) := ⟨HI.out.set_b h1 h2 (by rw [hm]; exact HR.out)⟩
 have hcap : m ≤ c ∨ m = 0 := by
  rcases HR.out with ⟨hz, _⟩ | ⟨gb, o, c', cells, _, _, hv, _, hcl, _⟩
  ·right; rw [hm, hz]; rfl
  injection hv with _ _ hc; subst hc; left; omega
 clear hr hb hlen hm
 cases A with
 | none =>
  go_enter Tryz.func122, Tryz.ntmps122
  go_wp2
  go_ret
  exact ⟨none, c, _, rfl, HS.out, rfl⟩
 | some ad =>
  go_enter Tryz.func122, Tryz.ntmps122
  go_wp2
  go_ret
  exact ⟨some ad, c, _, rfl, HS.out, rfl⟩
theorem qER (g : Nat) (f0 : List Int) (p e most : Int) (w0 w : World) (hlt : p + 4 ≤ f0.length) (hv : num4 f0 p ≤ 2147483647) (hm : num4 f0 p ≤ mx most 0) (hI : qAo w0 w g f0 p e) (hB : Below w0.heap.size w0 w) :
  Calls Tryz.prog 145 #[.pointer (some ⟨g, 0, none⟩), .int .i64 most] w fun e' w' => e' = .returned (.int .i64 (num4 f0 p)) ∧ qAo w0 w' g f0 (p + 4) e ∧ Below w0.heap.size w0 w' ∧ qAn w w' g none := by
 have HF := am (qET g f0 p e w0 w hlt hv hI hB)
 have hm1 : most < 0 → decide (0 < num4 f0 p) = false := fun h => by unfold mx at hm; rw [if_pos h] at hm; simp; omega
 have hm2 : ¬ most < 0 → decide (most < num4 f0 p) = false := fun h => by unfold mx at hm; rw [if_neg h] at hm; simp; omega
 generalize num4 f0 p = x at *
 clear hI hB hlt hm
 by_cases hz : most < 0
 all_goals first | have hm' := hm1 hz | have hm' := hm2 hz
 all_goals clear hm1 hm2
 all_goals go_enter Tryz.func145, Tryz.ntmps145
 all_goals go_wp2_with (go_at_call 125; refine HF.out.mono ?_; rintro e' w' ⟨rfl, hi, hb, hk⟩; have HI := am hi; have HB := am hb; have HK := am hk; clear hi hb hk)
 all_goals go_ret
 all_goals exact ⟨rfl, HI.out, HB.out, HK.out⟩
theorem rd_count_big (g : Nat) (f0 : List Int) (p e most : Int) (w0 w : World) (hlt : p + 4 ≤ f0.length) (hv : num4 f0 p ≤ 2147483647) (hm : mx most 0 < num4 f0 p) (hI : qAo w0 w g f0 p e) (hB : Below w0.heap.size w0 w) :
  Calls Tryz.prog 145 #[.pointer (some ⟨g, 0, none⟩), .int .i64 most] w fun e' w' => e' = .panicked [{ v := .iface 214 (.int .i64 3), recovered := false }] ∧ qAo w0 w' g f0 (p + 4) e ∧ Below w0.heap.size w0 w' ∧ qAn w w' g none := by
 have HF := am (qET g f0 p e w0 w hlt hv hI hB)
 have hm1 : most < 0 → decide (0 < num4 f0 p) = true := fun h => by unfold mx at hm; rw [if_pos h] at hm; simp; omega
 have hm2 : ¬ most < 0 → decide (most < num4 f0 p) = true := fun h => by unfold mx at hm; rw [if_neg h] at hm; simp; omega
 generalize num4 f0 p = x at *
 clear hI hB hlt hm
 by_cases hz : most < 0
 all_goals first | have hm' := hm1 hz | have hm' := hm2 hz
 all_goals clear hm1 hm2
 all_goals go_enter Tryz.func145, Tryz.ntmps145
 all_goals go_wp2_with (go_at_call 125; refine HF.out.mono ?_; rintro e' w' ⟨rfl, hi, hb, hk⟩; have HI := am hi; have HB := am hb; have HK := am hk; clear hi hb hk)
 all_goals exact ⟨rfl, rfl, HI.out, HB.out, HK.out⟩
theorem qEo (g : Nat) (most : Int) (c : List PanicEntry) (R : World → Prop) (w : World)
  (h : Calls Tryz.prog 125 #[.pointer (some ⟨g, 0, none⟩)] w fun e w' => e = .panicked c ∧ R w') :
  Calls Tryz.prog 145 #[.pointer (some ⟨g, 0, none⟩), .int .i64 most] w fun e w' => e = .panicked c ∧ R w' := by
 have H := am h
 clear h
 go_enter Tryz.func145, Tryz.ntmps145
 go_wp2_with (go_at_call 125; refine H.out.mono ?_; rintro e w' ⟨rfl, hR⟩; have HR := am hR; clear hR)
 exact ⟨rfl, rfl, HR.out⟩
end Q
end
section
namespace Q
open Go.RowKit PA PC PB
theorem cl_info_bytes : (Tryz.prog.info? 5).map (fun i => (i.zero, i.size, i.bytes)) = some (some (.int .u8 0), 1, 1) := by kernel_rfl
def qBi.f (l0 : List Int) : Option (List Int) := if l0.length ≤ 4294967296 then some l0 else none
theorem qBi.calls (A0 : Option Addr) (c0 : Nat) (l0 : List Int) (r : List Int) (w : World) (hr0 : Kd.C (Kd.int .u8) w A0 l0.length l0) (hc0 : l0.length ≤ c0) (h : qBi.f l0 = some r) :
  Calls Tryz.prog 116 #[.slice A0 l0.length c0] w fun e w' => ∃ v0_ : Value, e = .returned (v0_) ∧ Kd.R (Kd.int .u8) 5 w' w.heap.size (fun _ => True) v0_ r ∧ Below w.heap.size w w' := by
 unfold qBi.f at h
 split at h
 case isFalse => cases h
 rename_i hl
 injection h with h
 subst h
 have HC := am hr0
 have HL := am hl
 clear hr0 hc0
 obtain ⟨n, hn⟩ : ∃ n, n = l0.length := ⟨_, rfl⟩
 cases A0 with
 | none =>
  have h0 : l0 = [] := by
   rcases Nat.eq_zero_or_pos l0.length with h | h
   ·exact List.length_eq_zero_iff.1 h
   obtain ⟨ad, had, _⟩ := HC.out.2.2 h; cases had
  subst h0
  have hq := Lib.run_eql_slice_nil (P := Tryz.prog) w 38 5 none 0 c0 0 0 Tryz.underlying38
  clear hn HL hl
  go_enter Tryz.func116, Tryz.ntmps116
  go_wp2
  go_ret
  exact ⟨_, rfl, Kd.R_nil _ _ _ _ _, Below.refl _ _⟩
 | some a =>
  obtain ⟨i0, hi, hz0, hz1, hz2⟩ := info_parts cl_info_bytes
  have hq := Lib.run_eql_slice_nil (P := Tryz.prog) w 38 5 (some a) n c0 0 0 Tryz.underlying38
  have hown : (w.alloc (.cells #[] 5)).ownsRow w.heap.size 5 1 (.slice (some ⟨w.heap.size, 0, none⟩) 0 0) 0 [] := World.ownsRow_made w #[] 0 (Nat.le_refl _) (by unfold maxLen; omega) rfl
  rw [← hn]
  have HN := am hn
  by_cases h0 : n = 0
  ·have h1 : l0 = [] := List.length_eq_zero_iff.1 (by omega)
   subst h0; subst h1
   clear hn HL hl
   go_enter Tryz.func116, Tryz.ntmps116
   go_wp2_with (at_builtin; refine Base.wpList_append_zero rfl _ _ 38 rfl w.heap.size 5 i0 1 Tryz.underlying38 hi _ _ _ rfl hown (some a) c0 rfl ?_)
   go_ret
   exact ⟨_, rfl, ⟨fun _ _ => trivial, [], hown, Reps.none _ _⟩, (Below.refl _ _).alloc (Nat.le_refl _) _⟩
  have hnews : ∀ j u, (encs (Value.int .u8) l0)[j]? = some u → (w.alloc (.cells #[] 5)).cell? (a.add j) = some u := fun j u hu => by
   obtain ⟨ad, had, hcell⟩ := HC.out.2.2 (by omega)
   cases had
   have hj : j < l0.length := by have := (List.getElem?_eq_some_iff.1 hu).1; rwa [qCO] at this
   obtain ⟨c, hcl, hK, hcc⟩ := hcell j _ (List.getElem?_eq_getElem hj)
   obtain rfl : c = [Value.int .u8 l0[j]] := hK
   have h2 := hcc 0 _ rfl
   rw [show j * (Kd.int .u8).sz + 0 = j from Nat.mul_one j] at h2
   have hu' : u = Value.int .u8 l0[j] := by
    have := (List.getElem?_eq_some_iff.1 hu).2
    rw [← this]; simp [encs]
   rw [hu']
   exact (((Below.refl w.heap.size w).alloc (Nat.le_refl _) _).cell (World.block_lt_of_cell? w _ h2)).trans h2
  have HNW := am hnews
  clear hnews hn hl
  go_enter Tryz.func116, Tryz.ntmps116
  go_wp2_with (at_builtin; refine wpList_append_lies _ rfl _ _ 38 rfl w.heap.size 5 i0 (.int .u8 0) 1 1 Tryz.underlying38 hi hz0 hz1 hz2 rfl (by decide) _ _ _ rfl hown a n c0 (encs (Value.int .u8) l0) rfl ?c9 HNW.out ?c2 ?c0 ?c3 ?c4 ?c5 _ rfl ?_)
  case c9 => rw [qCO, HN.out]; omega
  case c2 => intro u hu; obtain ⟨y, _, rfl⟩ := List.mem_map.1 hu; rfl
  case c0 => omega
  case c3 => have := HN.out; have := HL.out; unfold maxLen; omega
  case c4 => have := HN.out; have := HL.out; omega
  case c5 => simp
  intro g cap w1 hown' hgrow hgg hlt
  have H1 : qAj (w1.ownsRow w.heap.size 5 1 (.slice (some ⟨g, 0, none⟩) n cap) n (encs (Value.int .u8) l0)) := ⟨by simpa using hown'⟩
  have H2 : qAj (Below w.heap.size w w1) := ⟨((Below.refl _ _).alloc (Nat.le_refl _) _).grown hgrow (by simp) (fun j hj => (hown.lt j hj).1)⟩
  clear hown' hgrow hgg hlt hown
  go_wp2
  go_ret
  exact ⟨.slice (some ⟨g, 0, none⟩) n cap, by simp, Kd.R_of_own (by rw [← HN.out]; exact H1.out) (fun _ _ => trivial), H2.out⟩
theorem drop_take_len (f0 : List Int) (p : Int) (n : Nat) (h0 : 0 ≤ p) (h : p + n ≤ f0.length) : ((f0.drop p.toNat).take n).length = n := by rw [List.length_take, List.length_drop]; omega
theorem rd_next_any (g : Nat) (f0 : List Int) (p e : Int) (n : Nat) (w0 w : World) (hle : p + n ≤ f0.length) (hI : qAo w0 w g f0 p e) :
  Calls Tryz.prog 122 #[.pointer (some ⟨g, 0, none⟩), .int .i64 n] w fun e' w' => ∃ A c v, e' = .returned (.slice A n c) ∧ n ≤ c ∧ Kd.C (Kd.int .u8) w' A n ((f0.drop p.toNat).take n) ∧ qAo w0 w' g f0 (p + n) e ∧ w' = w.setCell ⟨g, 0, none⟩ v := by
 rcases Nat.eq_zero_or_pos n with rfl | hn
 ·refine (rd_next_zero g f0 p e w0 w hI).mono ?_
  rintro e' w' ⟨A, c, v, he, hi, hw⟩
  exact ⟨A, c, v, he, Nat.zero_le _, by rw [List.take_zero]; exact ⟨rfl, by decide, fun h => absurd h (Nat.lt_irrefl _)⟩, by simpa using hi, hw⟩
 ·exact qCq g f0 p e n w0 w hn hle hI
theorem clone_n (A : Option Addr) (n c : Nat) (l : List Int) (w : World) (hl : l.length = n) (hC : Kd.C (Kd.int .u8) w A n l) (hc : n ≤ c) (hn : n ≤ 4294967296) :
  Calls Tryz.prog 116 #[.slice A n c] w fun e w' => ∃ A' c', e = .returned (.slice A' n c') ∧ Kd.R (Kd.int .u8) 5 w' w.heap.size (fun _ => True) (.slice A' n c') l ∧ Below w.heap.size w w' := by
 subst hl
 refine (qBi.calls A c l l w hC hc (by unfold qBi.f; rw [if_pos hn])).mono ?_
 rintro e w' ⟨v, rfl, hR, hb⟩
 obtain ⟨A', c', rfl⟩ := Kd.R_slice hR
 exact ⟨A', c', rfl, hR, hb⟩
theorem qBF {W W1 : World} {g b : Nat} {v : Value} (hk : qAn W W1 g none) (hc : W.cell? ⟨b, 0, none⟩ = some v) (hb : b ≠ g) : W1.cell? ⟨b, 0, none⟩ = some v := by
 have hl := World.block_lt_of_cell? W _ hc
 have := hk.2 b hl hb (by simp)
 unfold World.cell? at hc ⊢
 simpa [this] using hc
theorem raw_fn_ok (b1 b2 g n : Nat) (f0 : List Int) (p e most : Int) (w0 w : World) (hq : w.cell? ⟨b1, 0, none⟩ = some (.pointer (some ⟨g, 0, none⟩))) (hq2 : w.cell? ⟨b2, 0, none⟩ = some (.int .i64 most)) (hn1 : b1 ≠ g) (hn2 : b2 ≠ g)
  (hlt : p + 4 ≤ f0.length) (hv : num4 f0 p ≤ 2147483647) (hm : num4 f0 p ≤ mx most 0) (hn : num4 f0 p = n) (hle : p + 4 + n ≤ f0.length) (hI : qAo w0 w g f0 p e) (hB : Below w0.heap.size w0 w) :
  Calls Tryz.prog 144 #[.pointer (some ⟨b1, 0, none⟩), .pointer (some ⟨b2, 0, none⟩)] w fun e' w' => ∃ A c, e' = .returned (.slice A n c) ∧ Kd.R (Kd.int .u8) 5 w' w.heap.size (fun _ => True) (.slice A n c) ((f0.drop (p + 4).toNat).take n) ∧ qAo w0 w' g f0 (p + 4 + n) e ∧ Below w0.heap.size w0 w' ∧ qAn w w' g none := by
 have h0 := hI.2.1
 have HL := am (drop_take_len f0 (p + 4) n (by omega) hle)
 have HF : qAj (∀ W, qAn w W g none → qAo w0 W g f0 p e → Below w0.heap.size w0 W → Calls Tryz.prog 145 #[.pointer (some ⟨g, 0, none⟩), .int .i64 most] W fun e' w' => e' = .returned (.int .i64 (n : Int)) ∧ qAo w0 w' g f0 (p + 4) e ∧ Below w0.heap.size w0 w' ∧ qAn W w' g none) := ⟨fun W _ h1 h2 => hn ▸ qER g f0 p e most w0 W hlt hv hm h1 h2⟩
 have HLE := am hle
 have HI := am hI
 have HB := am hB
 have hnm : n ≤ 2147483647 := by omega
 clear hI hB hlt hv hm hn hle h0
 go_enter Tryz.func144, Tryz.ntmps144
 go_wp2_with fail
 go_region_held3 (fun W => W.cell? ⟨b1, 0, none⟩ = some (.pointer (some ⟨g, 0, none⟩)) ∧ W.cell? ⟨b2, 0, none⟩ = some (.int .i64 most))
  (first | go_keep | exact ⟨qBF HK1.out hq hn1, qBF HK1.out hq2 hn2⟩ | exact ⟨qBF HK2.out hq hn1, qBF HK2.out hq2 hn2⟩ | exact ⟨qBF HK3.out hq hn1, qBF HK3.out hq2 hn2⟩)
  (first | (go_at_call 145; refine (HF.out _ (qDf (qAn.refl _ _ _)) HI.out.drew (qAk HB.out)).mono ?_; rintro e' w1 ⟨rfl, hi, hb, hk⟩; have HI1 := am hi; have HB1 := am hb; have HK1 := am (qAn.trans (qDf (qAn.refl w g none)) hk (.inl rfl)); clear hi hb hk) | (go_at_call 122; refine (rd_next_any g f0 (p + 4) e n w0 _ HLE.out HI1.out).mono ?_; rintro e' w2 ⟨A, c, v, rfl, hc, hC, hi, hw⟩; have HI2 := am hi; have HB2 := am (hw ▸ qAb (g := g) (j := 0) (v := v) HB1.out HI1.out.ge); have HK2 := am (HK1.out.trans (hw ▸ qAn.set_ (qAn.refl w1 g none) 0 v) (.inl rfl)); have HC2 := am hC; have HCC := am hc; clear hi hw hC hc) | (go_at_call 116; refine (clone_n A n c _ _ HL.out HC2.out HCC.out (by omega)).mono ?_; rintro e' w3 ⟨A3, c3, rfl, hR, hb⟩; have HR3 := am hR; have HBW3 := am hb; have HK3 := am (qAn.trans HK2.out (qAn.of_below hb g none) (.inl rfl)); clear hR hb))
 go_wp2
 go_ret
 exact ⟨A3, c3, rfl, Kd.R_lower HR3.out HK2.out.1, HI2.out.below HBW3.out, qAE HB2.out HB2.out.size HBW3.out, HK3.out⟩
theorem raw_fn_short (b1 b2 g n : Nat) (f0 : List Int) (p e most : Int) (w0 w : World) (hq : w.cell? ⟨b1, 0, none⟩ = some (.pointer (some ⟨g, 0, none⟩))) (hq2 : w.cell? ⟨b2, 0, none⟩ = some (.int .i64 most)) (hn1 : b1 ≠ g) (_hn2 : b2 ≠ g)
  (hlt : p + 4 ≤ f0.length) (hv : num4 f0 p ≤ 2147483647) (hm : num4 f0 p ≤ mx most 0) (hn : num4 f0 p = n) (hle : f0.length < p + 4 + n) (hI : qAo w0 w g f0 p e) (hB : Below w0.heap.size w0 w) :
  Calls Tryz.prog 144 #[.pointer (some ⟨b1, 0, none⟩), .pointer (some ⟨b2, 0, none⟩)] w fun e' w' => e' = .panicked [{ v := .iface 214 (.int .i64 40), recovered := false }] ∧ qAo w0 w' g f0 (p + 4) e ∧ Below w0.heap.size w0 w' ∧ qAn w w' g none := by
 have HF : qAj (∀ W, qAn w W g none → qAo w0 W g f0 p e → Below w0.heap.size w0 W → Calls Tryz.prog 145 #[.pointer (some ⟨g, 0, none⟩), .int .i64 most] W fun e' w' => e' = .returned (.int .i64 (n : Int)) ∧ qAo w0 w' g f0 (p + 4) e ∧ Below w0.heap.size w0 w' ∧ qAn W w' g none) := ⟨fun W _ h1 h2 => hn ▸ qER g f0 p e most w0 W hlt hv hm h1 h2⟩
 have HLE := am hle
 have HI := am hI
 have HB := am hB
 clear hI hB hlt hv hm hn hle
 go_enter Tryz.func144, Tryz.ntmps144
 go_wp2_with fail
 go_region_dies
 all_goals (go_at_call 145; refine (HF.out _ (qDf (qAn.refl _ _ _)) HI.out.drew (qAk HB.out)).mono ?_; rintro e' w1 ⟨rfl, hi, hb, hk⟩; have HI1 := am hi; have HB1 := am hb; have hk' := qAn.trans (qDf (qAn.refl w g none)) hk (.inl rfl); have HK1 := am hk'; have q1 := qBF hk' hq hn1; clear hi hb hk hk')
 all_goals (rename_i hK; refine hK _ _ ?_; clear hK hq hq2)
 all_goals first | (change wpAny _ _ _ _ 3 #[true, true, true, true, false, false, false] _ _; refine wpAny_ready (rs := [4]) (by kernel_rfl) (by simp) ?_; refine AllReady.cons rfl (fun K2 hK2 => ?_) AllReady.nil; go_simp; refine (qCd g f0 (p + 4) e n w0 _ HLE.out HI1.out).mono ?_; rintro e' w2 ⟨rfl, rfl⟩; exact ⟨rfl, rfl, HI1.out, HB1.out, HK1.out⟩) | (change wpAny _ _ _ _ 4 #[false, true, true, true, false, false, false] _ _; refine wpAny_ready (rs := [0]) (by kernel_rfl) (by simp) ?_; refine AllReady.cons rfl (fun K3 hK3 => ?_) AllReady.nil; go_simp; refine hK3 _ _ ?_; clear hK3 K3; change wpAny _ _ _ _ 3 #[true, true, true, true, false, false, false] _ _; refine wpAny_ready (rs := [4]) (by kernel_rfl) (by simp) ?_; refine AllReady.cons rfl (fun K2 hK2 => ?_) AllReady.nil; go_simp; refine (qCd g f0 (p + 4) e n w0 _ HLE.out HI1.out).mono ?_; rintro e' w2 ⟨rfl, rfl⟩; exact ⟨rfl, rfl, HI1.out, HB1.out, HK1.out⟩)
theorem qEg (b1 b2 g : Nat) (f0 : List Int) (p p' e most : Int) (c : List PanicEntry) (w0 w : World) (hq : w.cell? ⟨b1, 0, none⟩ = some (.pointer (some ⟨g, 0, none⟩))) (hq2 : w.cell? ⟨b2, 0, none⟩ = some (.int .i64 most))
  (hI : qAo w0 w g f0 p e) (hB : Below w0.heap.size w0 w)
  (hf : ∀ W, qAo w0 W g f0 p e → Below w0.heap.size w0 W → Calls Tryz.prog 145 #[.pointer (some ⟨g, 0, none⟩), .int .i64 most] W fun e' w' => e' = .panicked c ∧ qAo w0 w' g f0 p' e ∧ Below w0.heap.size w0 w' ∧ qAn W w' g none) :
  Calls Tryz.prog 144 #[.pointer (some ⟨b1, 0, none⟩), .pointer (some ⟨b2, 0, none⟩)] w fun e' w' => e' = .panicked c ∧ qAo w0 w' g f0 p' e ∧ Below w0.heap.size w0 w' ∧ qAn w w' g none := by
 have HF := am hf
 have HI := am hI
 have HB := am hB
 clear hI hB hf
 go_enter Tryz.func144, Tryz.ntmps144
 go_wp2_with fail
 go_region_dies
 all_goals (go_at_call 145; refine (HF.out _ HI.out.drew (qAk HB.out)).mono ?_; rintro e' w1 ⟨rfl, hi, hb, hk⟩; exact ⟨rfl, rfl, hi, hb, qAn.trans (qDf (qAn.refl w g none)) hk (.inl rfl)⟩)
theorem qEt (p q : Addr) (w : World) :
  CallsD Tryz.prog 168 #[.pointer (some p), .pointer (some q)] .returning w fun e u' w' => e = .returned (.tuple #[]) ∧ u' = .returning ∧ w' = w := by
 refine callsD_of_wpS Tryz.func168 rfl fun c₀ cs hu => ?_
 apply wpS_seq
 apply wpS_region
 simp [wpOpsS, go_sem, recoverD, hu, Tryz.ntmps168, Exit.thenS]
 refine wpS_of_wp (qC6 fun Q' hQ => ?_)
 have HQ := am hQ
 clear hQ
 rw [show ((#[Value.pointer (some p), Value.pointer (some q)] : Array Value) ++ (Array.replicate 15 undef).setIfInBounds 4 Value.nilIface) = #[.pointer (some p), .pointer (some q), undef, undef, undef, undef, .nilIface, undef, undef, undef, undef, undef, undef, undef, undef, undef, undef] from rfl]
 go_wp2
 refine HQ.out _ _ _ ?_
 cases c₀
 simp_all [bodyPostS, results, Tryz.results168]
theorem qDB (bv g bq : Nat) (x : Value) (k : Int) (v : Value) (older : List PanicEntry) (w : World) (hp : w.cell? ⟨bv, 0, none⟩ = some x) (hz : w.frozen? ⟨bv, 0, none⟩ = false) (hq : w.cell? ⟨bq, 0, none⟩ = some (.pointer (some ⟨g, 0, none⟩))) (hg : w.heap[g]? = some (.cells #[v, .int .i64 0] 182 (0, 0))) (hpg : bv ≠ g) (hpq : bv ≠ bq) :
  CallsD Tryz.prog 168 #[.pointer (some ⟨bv, 0, none⟩), .pointer (some ⟨bq, 0, none⟩)] (.panicking ({ v := .iface 214 (.int .i64 k), recovered := false } :: older)) w fun e u' w' =>
   e = .returned (.tuple #[]) ∧ u' = .panicking ({ v := .iface 214 (.int .i64 k), recovered := true } :: older) ∧ w' = (w.setCell ⟨bv, 0, none⟩ (.slice none 0 0)).setCell ⟨g, 1, none⟩ (.int .i64 k) := by
 have hta : ∀ (v : Value) (W : World), (Instr.typeAssert (.iface 214 v) 20 214 true).run Tryz.prog W = .ok (.tuple #[v, .bool true]) W := fun v W => by rfl
 have c1 : (w.setCell ⟨bv, 0, none⟩ (.slice none 0 0)).cell? ⟨g, 1, none⟩ = some (.int .i64 0) := (World.cell?_setCell_other _ _ _ _ (by intro e; injection e with e; exact hpg e)).trans ((qAa hg 1).trans rfl)
 have f1 : (w.setCell ⟨bv, 0, none⟩ (.slice none 0 0)).frozen? ⟨g, 1, none⟩ = false := (World.frozen?_setCell _ _ _ _).trans (qAc hg 1)
 have q1 : (w.setCell ⟨bv, 0, none⟩ (.slice none 0 0)).cell? ⟨bq, 0, none⟩ = some (.pointer (some ⟨g, 0, none⟩)) := (World.cell?_setCell_other _ _ _ _ (by intro e; injection e with e; exact hpq e)).trans hq
 refine callsD_of_wpS Tryz.func168 rfl fun c₀ cs hu => ?_
 apply wpS_seq
 apply wpS_region
 simp [wpOpsS, go_sem, recoverD, hu, Tryz.ntmps168, Exit.thenS]
 refine wpS_of_wp (qC6 fun Q' hQ => ?_)
 have HQ := am hQ
 clear hQ
 rw [show ((#[Value.pointer (some ⟨bv, 0, none⟩), Value.pointer (some ⟨bq, 0, none⟩)] : Array Value) ++ (Array.replicate 15 undef).setIfInBounds 4 (Value.iface 214 (.int .i64 k))) = #[.pointer (some ⟨bv, 0, none⟩), .pointer (some ⟨bq, 0, none⟩), undef, undef, undef, undef, .iface 214 (.int .i64 k), undef, undef, undef, undef, undef, undef, undef, undef, undef, undef] from rfl]
 go_wp2
 refine HQ.out _ _ _ ?_
 cases c₀
 simp_all [bodyPostS, results, Tryz.results168]
theorem qD6 (F : Value) (g : Nat) (f0 : List Int) (p e : Int) (w0 w : World) (he : e ≠ 0) (hI : qAo w0 w g f0 p e) (hB : Below w0.heap.size w0 w) :
  Calls Tryz.prog 143 #[.pointer (some ⟨g, 0, none⟩), F] w fun e' w' => e' = .returned (.slice none 0 0) ∧ qAo w0 w' g f0 p e ∧ Below w0.heap.size w0 w' ∧ qAn w w' g none := by
 have HI := am hI
 have HB := am hB
 have hgl := hI.lt
 obtain ⟨_, h1, h2, h3, v, hb, hr⟩ := hI
 have c1 : w.cell? ⟨g, 1, none⟩ = some (.int .i64 e) := (qAa hb 1).trans rfl
 have hb0 : (e != 0) = true := bne_iff_ne.mpr he
 clear hb hr hB h1 h2 h3 he
 go_enter_defers Tryz.func143, Tryz.ntmps143
 go_wp2
 exact ⟨.slice none 0 0, by simp [results, Tryz.results143, go_sem], rfl, (HI.out.alloc _).alloc _, qAi (qAi HB.out _) _, qB2 (qB2 (qAn.refl _ _ _) _) _⟩
theorem guarded_raw_ok (b1 b2 g : Nat) (f0 : List Int) (p p' : Int) (n : Nat) (bs : List Int) (w0 w : World) (hI : qAo w0 w g f0 p 0) (hB : Below w0.heap.size w0 w)
  (hfn : ∀ W, Below w.heap.size w W → qAo w0 W g f0 p 0 → Below w0.heap.size w0 W → Calls Tryz.prog 144 #[.pointer (some ⟨b1, 0, none⟩), .pointer (some ⟨b2, 0, none⟩)] W fun e w' => ∃ A c, e = .returned (.slice A n c) ∧ Kd.R (Kd.int .u8) 5 w' W.heap.size (fun _ => True) (.slice A n c) bs ∧ qAo w0 w' g f0 p' 0 ∧ Below w0.heap.size w0 w' ∧ qAn W w' g none) :
  Calls Tryz.prog 143 #[.pointer (some ⟨g, 0, none⟩), .func (.func 144) #[] #[.pointer (some ⟨b1, 0, none⟩), .pointer (some ⟨b2, 0, none⟩)]] w fun e w' => ∃ A c, e = .returned (.slice A n c) ∧ Kd.R (Kd.int .u8) 5 w' w.heap.size (fun _ => True) (.slice A n c) bs ∧ qAo w0 w' g f0 p' 0 ∧ Below w0.heap.size w0 w' ∧ qAn w w' g none := by
 have HI := am hI
 have HB := am hB
 have HFN := am hfn
 have hgl := hI.lt
 obtain ⟨_, h1, h2, h3, v, hb, hr⟩ := hI
 have c1 : w.cell? ⟨g, 1, none⟩ = some (.int .i64 0) := (qAa hb 1).trans rfl
 clear hb hr hB h1 h2 h3 hfn
 go_enter_defers Tryz.func143, Tryz.ntmps143
 have HB3 := am (((Below.refl w.heap.size w).alloc (Nat.le_refl _) (.cells #[.pointer (some ⟨g, 0, none⟩)] 124)).alloc (by simp) (.cells #[.slice none 0 0] 38))
 have H3 : qAj (((w.alloc (.cells #[.pointer (some ⟨g, 0, none⟩)] 124)).alloc (.cells #[.slice none 0 0] 38)).heap[w.heap.size + 1]? = some (.cells #[.slice none 0 0] 38 (0, 0))) := ⟨by simpa using heap_alloc_new (w.alloc (.cells #[.pointer (some ⟨g, 0, none⟩)] 124)) (.cells #[.slice none 0 0] 38)⟩
 go_wp2_with (go_at_call 144; refine (HFN.out _ HB3.out ((HI.out.alloc _).alloc _) (qAi (qAi HB.out _) _)).mono ?_; rintro e w4 ⟨A, c, rfl, hR, hi, hbw, hk⟩; have hv4 : w4.heap[w.heap.size + 1]? = some (.cells #[.slice none 0 0] 38 (0, 0)) := (hk.2 _ (qAM H3.out) (by omega) (by simp)).trans H3.out; have v4 : w4.cell? ⟨w.heap.size + 1, 0, none⟩ = some (.slice none 0 0) := (qAa hv4 0).trans rfl; have z4 := qAc hv4 0; have HI4 := am (hi.behind (p := ⟨w.heap.size + 1, 0, none⟩) (by show g < w.heap.size + 1; omega) (.slice A n c)); have HK4 := am (qCf (j := 0) HB3.out hk (Nat.le_succ _) (.slice A n c)); have HV4 := am hv4; have HB4 := am (qAb (g := w.heap.size + 1) (j := 0) (v := .slice A n c) hbw (Nat.le_trans HB.out.size (Nat.le_succ _))); have HR4 := am (Kd.R_set (Kd.R_lower hR HB3.out.size) hv4 (by decide) 0 (.slice A n c)); clear hi hk hv4 hbw hR)
 refine leaves_cons (f := 168) (args := #[.pointer (some ⟨w.heap.size + 1, 0, none⟩), .pointer (some ⟨w.heap.size, 0, none⟩)]) (by simp) (by simp [go_sem]) ?_
 refine (qEt _ _ _).mono ?_
 rintro e u' w'' ⟨rfl, rfl, rfl⟩
 have hvc : (w4.setCell ⟨w.heap.size + 1, 0, none⟩ (.slice A n c)).heap[w.heap.size + 1]? = some (.cells #[.slice A n c] 38 (0, 0)) := by simpa using qCa HV4.out 0 (.slice A n c)
 have hres := (qAa hvc 0).trans rfl
 exact ⟨.slice A n c, by simp [results, Tryz.results143, go_sem, hres], A, c, rfl, HR4.out, HI4.out, HB4.out, HK4.out⟩
theorem qBU (b1 b2 g : Nat) (f0 : List Int) (p p' : Int) (k : Int) (w0 w : World) (hI : qAo w0 w g f0 p 0) (hB : Below w0.heap.size w0 w)
  (hfn : ∀ W, Below w.heap.size w W → qAo w0 W g f0 p 0 → Below w0.heap.size w0 W → Calls Tryz.prog 144 #[.pointer (some ⟨b1, 0, none⟩), .pointer (some ⟨b2, 0, none⟩)] W fun e w' => e = .panicked [{ v := .iface 214 (.int .i64 k), recovered := false }] ∧ qAo w0 w' g f0 p' 0 ∧ Below w0.heap.size w0 w' ∧ qAn W w' g none) :
  Calls Tryz.prog 143 #[.pointer (some ⟨g, 0, none⟩), .func (.func 144) #[] #[.pointer (some ⟨b1, 0, none⟩), .pointer (some ⟨b2, 0, none⟩)]] w fun e w' => e = .returned (.slice none 0 0) ∧ qAo w0 w' g f0 p' k ∧ Below w0.heap.size w0 w' ∧ qAn w w' g none := by
 have HI := am hI
 have HB := am hB
 have HFN := am hfn
 have hgl := hI.lt
 obtain ⟨_, h1, h2, h3, v, hb, hr⟩ := hI
 have c1 : w.cell? ⟨g, 1, none⟩ = some (.int .i64 0) := (qAa hb 1).trans rfl
 clear hb hr hB h1 h2 h3 hfn
 go_enter_defers Tryz.func143, Tryz.ntmps143
 have HB3 := am (((Below.refl w.heap.size w).alloc (Nat.le_refl _) (.cells #[.pointer (some ⟨g, 0, none⟩)] 124)).alloc (by simp) (.cells #[.slice none 0 0] 38))
 have H2 : qAj (((w.alloc (.cells #[.pointer (some ⟨g, 0, none⟩)] 124)).alloc (.cells #[.slice none 0 0] 38)).heap[w.heap.size]? = some (.cells #[.pointer (some ⟨g, 0, none⟩)] 124 (0, 0))) := ⟨qAe (heap_alloc_new w _) _⟩
 have H3 : qAj (((w.alloc (.cells #[.pointer (some ⟨g, 0, none⟩)] 124)).alloc (.cells #[.slice none 0 0] 38)).heap[w.heap.size + 1]? = some (.cells #[.slice none 0 0] 38 (0, 0))) := ⟨by simpa using heap_alloc_new (w.alloc (.cells #[.pointer (some ⟨g, 0, none⟩)] 124)) (.cells #[.slice none 0 0] 38)⟩
 go_wp2_with (go_at_call 144; refine (HFN.out _ HB3.out ((HI.out.alloc _).alloc _) (qAi (qAi HB.out _) _)).mono ?_; rintro e w4 ⟨rfl, hi, hbw, hk⟩)
 refine leaves_cons (f := 168) (args := #[.pointer (some ⟨w.heap.size + 1, 0, none⟩), .pointer (some ⟨w.heap.size, 0, none⟩)]) (by simp) (by simp [go_sem]) ?_
 have hv4 : w4.heap[w.heap.size + 1]? = some (.cells #[.slice none 0 0] 38 (0, 0)) := (hk.2 _ (qAM H3.out) (by omega) (by simp)).trans H3.out
 have hq4 : w4.heap[w.heap.size]? = some (.cells #[.pointer (some ⟨g, 0, none⟩)] 124 (0, 0)) := (hk.2 _ (qAM H2.out) (by omega) (by simp)).trans H2.out
 obtain ⟨_, _, _, _, v4, hg4, _⟩ := id hi
 refine (qDB (w.heap.size + 1) g w.heap.size (.slice none 0 0) k v4 [] _ ((qAa hv4 0).trans rfl) (qAc hv4 0) ((qAa hq4 0).trans rfl) hg4 (by omega) (by omega)).mono ?_
 rintro e u' w'' ⟨rfl, rfl, rfl⟩
 have HI5 := am ((hi.behind (p := ⟨w.heap.size + 1, 0, none⟩) (by show g < w.heap.size + 1; omega) (.slice none 0 0)).set_e k)
 have HB5 := am (qAb (g := g) (j := 1) (v := .int .i64 k) (qAb (g := w.heap.size + 1) (j := 0) (v := .slice none 0 0) hbw (Nat.le_trans HB.out.size (Nat.le_succ _))) HI.out.ge)
 have HK5 := am (qAn.set_ (qCf (j := 0) HB3.out hk (Nat.le_succ _) (.slice none 0 0)) 1 (.int .i64 k))
 have hvc := qA1 (g := w.heap.size + 1) (p := ⟨g, 1, none⟩) (qCa hv4 0 (.slice none 0 0)) (by show w.heap.size + 1 ≠ g; omega) (.int .i64 k)
 have hres := (qAa hvc 0).trans rfl
 clear hvc
 exact ⟨.slice none 0 0, by simp [results, Tryz.results143, go_sem, hres], rfl, HI5.out, HB5.out, HK5.out⟩
def qA9.f (s0_0 : List Int) (s0_1 : Int) (s0_2 : Int) (a1 : Int) : Option (List Int × Int × Int) :=
 some (if s0_2 ≠ 0 then ([], s0_1, s0_2) else if s0_1 + 4 ≤ s0_0.length then (if num4 s0_0 s0_1 ≤ 2147483647 then (if num4 s0_0 s0_1 ≤ mx a1 0 then (if s0_1 + 4 + num4 s0_0 s0_1 ≤ s0_0.length then ((s0_0.drop (s0_1 + 4).toNat).take (num4 s0_0 s0_1).toNat, s0_1 + 4 + num4 s0_0 s0_1, 0) else ([], s0_1 + 4, 40)) else ([], s0_1 + 4, 3)) else ([], s0_1 + 4, 42)) else ([], s0_1, 40))
theorem qA9.calls (g : Nat) (s0_0 : List Int) (s0_1 : Int) (s0_2 : Int) (a1 : Int) (r1 : List Int) (r2 : Int) (r3 : Int) (w0 w : World) (hI : qAo w0 w g s0_0 s0_1 s0_2) (hB : Below w0.heap.size w0 w) (h : qA9.f s0_0 s0_1 s0_2 a1 = some (r1, r2, r3)) :
  Calls Tryz.prog 89 #[.pointer (some ⟨g, 0, none⟩), .int .i64 a1] w fun e w' => ∃ v0_ : Value, e = .returned (v0_) ∧ Kd.R (Kd.int .u8) 5 w' w.heap.size (fun _ => True) v0_ r1 ∧ qAo w0 w' g s0_0 r2 r3 ∧ Below w0.heap.size w0 w' ∧ qAn w w' g none := by
 have h0 : 0 ≤ s0_1 := hI.2.1
 have hgl := hI.lt
 have HI := am ((hI.alloc (.cells #[.pointer (some ⟨g, 0, none⟩)] 124)).alloc (.cells #[.int .i64 a1] 3))
 have HB := am (qAi (qAi hB (.cells #[.pointer (some ⟨g, 0, none⟩)] 124)) (.cells #[.int .i64 a1] 3))
 have HK := am (qB2 (qB2 (qAn.refl w g none) (.cells #[.pointer (some ⟨g, 0, none⟩)] 124)) (.cells #[.int .i64 a1] 3))
 obtain ⟨W1, hW1⟩ : ∃ W1, W1 = (w.alloc (.cells #[.pointer (some ⟨g, 0, none⟩)] 124)).alloc (.cells #[.int .i64 a1] 3) := ⟨_, rfl⟩
 have hq : W1.cell? ⟨w.heap.size, 0, none⟩ = some (.pointer (some ⟨g, 0, none⟩)) := by rw [hW1]; exact (qAa (qAe (heap_alloc_new w _) _) 0).trans rfl
 have hq2 : W1.cell? ⟨w.heap.size + 1, 0, none⟩ = some (.int .i64 a1) := by rw [hW1]; exact (qAa (by simpa using heap_alloc_new (w.alloc (.cells #[.pointer (some ⟨g, 0, none⟩)] 124)) (.cells #[.int .i64 a1] 3)) 0).trans rfl
 rw [← hW1] at HI HB HK
 have HQ : qAj (∀ W, Below W1.heap.size W1 W → W.cell? ⟨w.heap.size, 0, none⟩ = some (.pointer (some ⟨g, 0, none⟩))) := ⟨fun W hW => (hW.cell (World.block_lt_of_cell? W1 _ hq)).trans hq⟩
 have HQ2 : qAj (∀ W, Below W1.heap.size W1 W → W.cell? ⟨w.heap.size + 1, 0, none⟩ = some (.int .i64 a1)) := ⟨fun W hW => (hW.cell (World.block_lt_of_cell? W1 _ hq2)).trans hq2⟩
 have HW1 := am hW1
 have hs1 : w.heap.size ≤ W1.heap.size := HK.out.1
 clear hq hq2 hW1
 unfold qA9.f at h
 injection h with h
 have HF : qAj (Calls Tryz.prog 143 #[.pointer (some ⟨g, 0, none⟩), .func (.func 144) #[] #[.pointer (some ⟨w.heap.size, 0, none⟩), .pointer (some ⟨w.heap.size + 1, 0, none⟩)]] W1 fun e w' => ∃ v0_ : Value, e = .returned (v0_) ∧ Kd.R (Kd.int .u8) 5 w' w.heap.size (fun _ => True) v0_ r1 ∧ qAo w0 w' g s0_0 r2 r3 ∧ Below w0.heap.size w0 w' ∧ qAn w w' g none) := by
  have lift : ∀ {e : Ending} {w' : World} {q : Int}, (e = .returned (.slice none 0 0) ∧ qAo w0 w' g s0_0 r2 q ∧ Below w0.heap.size w0 w' ∧ qAn W1 w' g none) → r1 = [] → r3 = q → ∃ v0_ : Value, e = .returned (v0_) ∧ Kd.R (Kd.int .u8) 5 w' w.heap.size (fun _ => True) v0_ r1 ∧ qAo w0 w' g s0_0 r2 r3 ∧ Below w0.heap.size w0 w' ∧ qAn w w' g none := by
   rintro e w' q ⟨h1, h2, h3, h4⟩ rfl rfl
   exact ⟨_, h1, Kd.R_nil _ _ _ _ _, h2, h3, HK.out.trans h4 (.inl rfl)⟩
  by_cases he : s0_2 ≠ 0
  ·rw [if_pos he] at h
   simp only [Prod.mk.injEq] at h
   obtain ⟨rfl, rfl, rfl⟩ := h
   exact ⟨(qD6 _ g s0_0 _ _ w0 _ he HI.out HB.out).mono fun e' w' h => lift h rfl rfl⟩
  rw [if_neg he] at h
  simp only [Decidable.not_not] at he
  subst he
  by_cases hlt : s0_1 + 4 ≤ s0_0.length
  rotate_left
  ·rw [if_neg hlt] at h
   simp only [Prod.mk.injEq] at h
   obtain ⟨rfl, rfl, rfl⟩ := h
   exact ⟨(qBU w.heap.size (w.heap.size + 1) g s0_0 _ _ _ w0 _ HI.out HB.out (fun W h1 h2 h3 => qEg _ _ g s0_0 _ _ _ a1 _ w0 W (HQ.out W h1) (HQ2.out W h1) h2 h3 (fun W' k1 k2 => qEo g a1 _ _ W' (qES g s0_0 _ _ w0 W' (by omega) k1 k2)))).mono fun e' w' h => lift h rfl rfl⟩
  rw [if_pos hlt] at h
  by_cases hv : num4 s0_0 s0_1 ≤ 2147483647
  rotate_left
  ·rw [if_neg hv] at h
   simp only [Prod.mk.injEq] at h
   obtain ⟨rfl, rfl, rfl⟩ := h
   exact ⟨(qBU w.heap.size (w.heap.size + 1) g s0_0 _ _ _ w0 _ HI.out HB.out (fun W h1 h2 h3 => qEg _ _ g s0_0 _ _ _ a1 _ w0 W (HQ.out W h1) (HQ2.out W h1) h2 h3 (fun W' k1 k2 => qEo g a1 _ _ W' (rd_int_big g s0_0 _ _ w0 W' hlt (by omega) k1 k2)))).mono fun e' w' h => lift h rfl rfl⟩
  rw [if_pos hv] at h
  by_cases hm : num4 s0_0 s0_1 ≤ mx a1 0
  rotate_left
  ·rw [if_neg hm] at h
   simp only [Prod.mk.injEq] at h
   obtain ⟨rfl, rfl, rfl⟩ := h
   exact ⟨(qBU w.heap.size (w.heap.size + 1) g s0_0 _ _ _ w0 _ HI.out HB.out (fun W h1 h2 h3 => qEg _ _ g s0_0 _ _ _ a1 _ w0 W (HQ.out W h1) (HQ2.out W h1) h2 h3 (fun W' k1 k2 => rd_count_big g s0_0 _ _ a1 w0 W' hlt hv (by omega) k1 k2))).mono fun e' w' h => lift h rfl rfl⟩
  rw [if_pos hm] at h
  have hx0 : 0 ≤ num4 s0_0 s0_1 := qD8 _
  by_cases hle : s0_1 + 4 + num4 s0_0 s0_1 ≤ s0_0.length
  rotate_left
  ·rw [if_neg hle] at h
   simp only [Prod.mk.injEq] at h
   obtain ⟨rfl, rfl, rfl⟩ := h
   exact ⟨(qBU w.heap.size (w.heap.size + 1) g s0_0 _ _ _ w0 _ HI.out HB.out (fun W h1 h2 h3 => raw_fn_short _ _ g (num4 s0_0 s0_1).toNat s0_0 _ _ a1 w0 W (HQ.out W h1) (HQ2.out W h1) (by omega) (by omega) hlt hv hm (by omega) (by omega) h2 h3)).mono fun e' w' h => lift h rfl rfl⟩
  rw [if_pos hle] at h
  simp only [Prod.mk.injEq] at h
  obtain ⟨rfl, rfl, rfl⟩ := h
  have hn : num4 s0_0 s0_1 = ((num4 s0_0 s0_1).toNat : Int) := by omega
  refine ⟨(guarded_raw_ok w.heap.size (w.heap.size + 1) g s0_0 _ (s0_1 + 4 + num4 s0_0 s0_1) (num4 s0_0 s0_1).toNat ((s0_0.drop (s0_1 + 4).toNat).take (num4 s0_0 s0_1).toNat) w0 _ HI.out HB.out (fun W h1 h2 h3 => ?_)).mono fun e' w' ⟨A, c, h1, h2, h3, h4, h5⟩ => ⟨_, h1, Kd.R_lower h2 hs1, h3, h4, HK.out.trans h5 (.inl rfl)⟩⟩
  refine (raw_fn_ok w.heap.size (w.heap.size + 1) g (num4 s0_0 s0_1).toNat s0_0 _ _ a1 w0 W (HQ.out W h1) (HQ2.out W h1) (by omega) (by omega) hlt hv hm hn (by omega) h2 h3).mono ?_
  rintro e w' ⟨A, c, k1, k2, k3, k4⟩
  exact ⟨A, c, k1, k2, by rwa [← hn] at k3, k4⟩
 rw [HW1.out] at HF
 clear h hI hB h0 HQ HQ2 HI HB HK hs1 HW1
 go_enter Tryz.func89, Tryz.ntmps89
 go_wp2_with (go_at_call 143; refine HF.out.mono ?_; rintro e w' ⟨v0, rfl, hR, hi, hb, hk⟩; have HR2 := am hR; have HI2 := am hi; have HB2 := am hb; have HK2 := am hk; clear hR hi hb hk)
 go_ret
 exact ⟨v0, rfl, HR2.out, HI2.out, HB2.out, HK2.out⟩
end Q
end
section
namespace Q
open Go.RowKit PA PC PB
attribute [local go_sem] qAU min2_int qBd min_two max_three min_three max_four min_four
def qA7.f (s0_0 : List Int) (s0_1 : Int) (s0_2 : Int) (a1 : Int) : Option (ByteArray × Int × Int) := (qA9.f s0_0 s0_1 s0_2 a1).bind fun aA => (some (strOfNums aA.1, aA.2.1, aA.2.2))
theorem qA7.calls (g : Nat) (s0_0 : List Int) (s0_1 : Int) (s0_2 : Int) (a1 : Int) (r1 : ByteArray) (r2 : Int) (r3 : Int) (w0 w : World) (hI : qAo w0 w g s0_0 s0_1 s0_2) (hB : Below w0.heap.size w0 w) (h : qA7.f s0_0 s0_1 s0_2 a1 = some (r1, r2, r3)) :
  Calls Tryz.prog 58 #[.pointer (some ⟨g, 0, none⟩), .int .i64 a1] w fun e w' => e = .returned (.string r1) ∧ qAo w0 w' g s0_0 r2 r3 ∧ Below w0.heap.size w0 w' ∧ qAn w w' g none := by
 have aF := am hI
 have HK := am (qAn.refl w g none)
 clear hI
 have HB := am hB
 clear hB
 have H : ((qA9.f s0_0 s0_1 s0_2 a1).bind fun aA => (some (strOfNums aA.1, aA.2.1, aA.2.2))) = some (r1, r2, r3) := h
 clear h
 replace H := bm H
 obtain ⟨⟨aC, aD, aE⟩, aG, H⟩ := H
 replace H : (some (strOfNums aC, aD, aE)) = some (r1, r2, r3) := H
 have A3 := am aG
 clear aG
 simp only [Option.some.injEq, Prod.mk.injEq] at H
 obtain ⟨rfl, rfl, rfl⟩ := H
 go_enter Tryz.func58, Tryz.ntmps58
 go_wp2_with ((with_reducible refine qAv (f := 89) rfl ?_); refine gL 7 Tryz.func89 #[.pointer (some ⟨g, 0, none⟩), .int .i64 a1] ?_; (with_reducible refine (qA9.calls g s0_0 s0_1 s0_2 a1 aC aD aE w0 _ ?side1 ?side2 A3.o).mono ?_); (case side1 => exact aF.o); (case side2 => exact HB.o); rintro e w4 ⟨aI, rfl, aH, hi, hb, hk⟩; refine ⟨_, rfl, ?_⟩; have n_ := a2 (Kd.R_lower aH (qBz (w := w) (g := g) (row := none) HK.o)) (a2 (qAn.trans HK.o hk (.inl rfl)) (a2 (hb) (am (hi)))); clear HK HB aF; obtain ⟨aB, HK, HB, aF⟩ := n_; have hcv5 := own_string (P := Tryz.prog) Tryz.underlying38 Tryz.underlying5 Tryz.underlying9 (Kd.own_of_R aB.o))
 go_ret
 exact ⟨by rfl, by exact aF.o, by exact HB.o, by exact HK.o⟩
end Q
end
end Go.Proofs.YtfjpnjbinbhcfaaGreat
