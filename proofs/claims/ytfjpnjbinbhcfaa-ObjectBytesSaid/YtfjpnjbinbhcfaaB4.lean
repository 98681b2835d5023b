/- object.Unpack of any bytes, where the law ObjectBytes asks: bytes that are read are written again as they were; bytes that are cut or longer are none. Part 4 of 8. -/
import Derived.Test.YtfjpnjbinbhcfaaB3
import Derived.WalkLawsBesides
import Derived.Defers
import Derived.Recover
import Derived.Lib.SliceRun
import Derived.Deep.RegionHeld3
import Derived.RegionDies
set_option maxHeartbeats 8000000
set_option maxRecDepth 100000
set_option linter.unusedVariables false
set_option linter.unusedSimpArgs false
namespace Go.Proofs.Ytfjpnjbinbhcfaa
section
namespace Q
open Go.RowKit PA PB PC
open Val Ins Wr Enc
theorem WK.alloc {wd W : World} {p : Nat} {v : Value} {bs : List Int} (h : WK wd p W v bs) (o : Obj) : WK wd p (W.alloc o) v bs := h.below' ((Below.refl _ _).alloc (Nat.le_refl _) _)
theorem qBn (p : Nat) (W : World) (v : Value) (o : Obj) : qAD p W v (W.alloc o) v := qAD.of_below ((Below.refl _ _).alloc (Nat.le_refl _) _)
theorem WK.box {wd W W' : World} {p : Nat} {v v' : Value} {bs : List Int} {cs : Array Value} {t : TypeId} (h : WK wd p W v bs) (hs : qAD p (W.alloc (.cells cs t)) v W' v') (i : Nat) (x : Value) (hx : cs[i]? = some x) : W'.cell? ⟨W.heap.size, i, none⟩ = some x := by
 rw [hs.cell (a := ⟨W.heap.size, i, none⟩) (by simp) (Nat.ne_of_gt h.plt) (fun e => absurd (h.vlt _ e.symm) (Nat.lt_irrefl _)), World.cell?_alloc_at _ _ _ _ rfl]
 exact hx
def varB (x : S71) : List Int := rawB (qBv x.f0) ++ ([x.f1.f0 % 256] ++ be x.f1.f1 8 8)
def nfnB (x : S80) : List Int := rawB (qBv x.f0) ++ fnB x.f1.f0.f0 x.f1.f0.f1 x.f1.f1 x.f1.f2
def relB (x : S82) : List Int := be x.f0 2 2 ++ (be x.f1 2 2 ++ ([x.f2 % 256] ++ (rawB (qBv x.f3) ++ rawB (qBv x.f4))))
theorem qDH {α : Type} (f : α → List Int) (l : List α) (k : Nat) (x : α) (h : l[k]? = some x) : (l.take (k + 1)).flatMap f = (l.take k).flatMap f ++ f x := by
 obtain ⟨hk, he⟩ := List.getElem?_eq_some_iff.1 h
 rw [List.take_succ_eq_append_getElem hk, List.flatMap_append, he]; simp
theorem qC5 {α : Type} (f : α → List Int) (l : List α) (m : Nat) (h : ∀ x ∈ l, (f x).length ≤ m) : (l.flatMap f).length ≤ l.length * m := by
 induction l with
 | nil => simp
 | cons x l ih =>
  have h1 := h x List.mem_cons_self
  have h2 := ih fun y hy => h y (List.mem_cons_of_mem _ hy)
  rw [List.flatMap_cons, List.length_append, List.length_cons]
  have : (l.length + 1) * m = l.length * m + m := by rw [Nat.add_mul, Nat.one_mul]
  omega
theorem rawB_len (ys : List Int) : (rawB ys).length = 4 + ys.length := by unfold rawB; rw [List.length_append, qA8]
theorem qBC (s : ByteArray) : (rawB (qBv s)).length = 4 + s.size := by rw [rawB_len, qBm]
def qBg (s : ByteArray) : Prop := s.size ≤ 32
theorem varB_len (x : S71) (h : qBg x.f0) : (varB x).length ≤ 45 := by
 unfold qBg at h; unfold varB; rw [List.length_append, qBC, List.length_append, qA8]; simp only [List.length_cons, List.length_nil]; omega
theorem relB_len (x : S82) (h : qBg x.f3) (h4 : qBg x.f4) : (relB x).length ≤ 77 := by
 unfold qBg at h h4; unfold relB
 rw [List.length_append, qA8, List.length_append, qA8, List.length_append, List.length_append, qBC, qBC]; simp only [List.length_cons, List.length_nil]; omega
def okFnS (x : S80) : Prop := x.f1.f0.f0.length ≤ 8 ∧ x.f1.f1.length ≤ 64 ∧ x.f1.f2.length ≤ 4096 ∧ x.f1.f2.all okS = true ∧ x.f1.f2.all u64S = true
theorem fnB_len (l0 : List Int) (a1 : Int) (l2 : List Int) (l3 : List S115) (h0 : l0.length ≤ 8) (h2 : l2.length ≤ 64) (h3 : l3.length ≤ 4096) : (fnB l0 a1 l2 l3).length ≤ 41050 := by
 have := encB_len (l3.map toD)
 rw [List.length_map] at this
 unfold fnB byB
 simp only [List.length_append, List.length_cons, List.length_nil, List.length_map, rawB_len]
 omega
theorem nfnB_len (x : S80) (h : qBg x.f0) (hf : okFnS x) : (nfnB x).length ≤ 41100 := by
 unfold qBg at h; unfold nfnB
 have := fnB_len x.f1.f0.f0 x.f1.f0.f1 x.f1.f1 x.f1.f2 hf.1 hf.2.1 hf.2.2.1
 rw [List.length_append, qBC]; omega
theorem vars_any (p : Nat) (a0 : ByteArray) (A1 : Option Addr) (n1 c1 : Nat) (A2 : Option Addr) (n2 c2 : Nat) (A3 : Option Addr) (n3 c3 : Nat) (l : List S71) (v : Value) (bs : List Int) (wd w : World) (hk : WK wd p w v bs)
  (hn : l.length = n1) (hr : Kd.C k71 wd A1 n1 l) (hl : l.length ≤ 64) (hok : ∀ x ∈ l, qBg x.f0 ∧ 0 ≤ x.f1.f1 ∧ x.f1.f1 < 18446744073709551616) (hb : bs.length ≤ 100000) :
  Calls Try.prog 32 #[.agg #[.pointer (some ⟨p, 0, none⟩)], .agg #[.string a0, .slice A1 n1 c1, .slice A2 n2 c2, .slice A3 n3 c3]] w (qBy p (bs ++ (be l.length 4 4 ++ l.flatMap varB)) w v) := by
 obtain ⟨nn, hnn⟩ : ∃ m, m = n1 := ⟨_, rfl⟩
 obtain ⟨W0, hW0⟩ : ∃ W0, W0 = w.alloc (.cells #[.pointer (some ⟨p, 0, none⟩)] 90) := ⟨_, rfl⟩
 obtain ⟨WA, hWA⟩ : ∃ WA, WA = W0.alloc (.cells #[.string a0, .slice A1 n1 c1, .slice A2 n2 c2, .slice A3 n3 c3] 27) := ⟨_, rfl⟩
 have hK0 : WK wd p W0 v bs := hW0 ▸ hk.alloc _
 have hKA : WK wd p WA v bs := hWA ▸ hK0.alloc _
 have hS0 : qAD p w v W0 v := hW0 ▸ qBn p w v _
 have hSA0 : qAD p W0 v WA v := hWA ▸ qBn p W0 v _
 have hz0 : W0.heap.size = w.heap.size + 1 := by rw [hW0]; simp
 have HB : qAf (∀ W' v', qAD p WA v W' v' → W'.cell? ⟨w.heap.size, 0, none⟩ = some (.pointer (some ⟨p, 0, none⟩)) ∧ W'.cell? ⟨w.heap.size + 1, 1, none⟩ = some (.slice A1 n1 c1)) := ⟨fun W' v' hs => by
   have hs0 := hSA0.trans hs
   rw [hW0] at hs0
   have h2 := hK0.box (hWA ▸ hs) 1 (.slice A1 n1 c1) rfl
   rw [hz0] at h2
   exact ⟨hk.box hs0 0 _ rfl, h2⟩⟩
 have HWA : qAf (WA = (w.alloc (.cells #[.pointer (some ⟨p, 0, none⟩)] 90)).alloc (.cells #[.string a0, .slice A1 n1 c1, .slice A2 n2 c2, .slice A3 n3 c3] 27)) := ⟨by rw [← hW0]; exact hWA⟩
 have HKA := am hKA
 have HSA := am (hS0.trans hSA0)
 have HR := am hr
 have HN := am hn
 have HOK := am hok
 have HBL := am hb
 have hgA : w.heap.size + 1 < WA.heap.size := by rw [hWA]; simp [hz0]
 rw [hn] at hl
 clear hk hr hok hb hK0 hKA hS0 hSA0 hz0 hW0 hWA hnn
 clear hn
 go_enter Try.func32, Try.ntmps32
 go_wp2_with fail
 rw [← HWA.out]
 obtain ⟨q0, q1⟩ := HB.out WA v (qAD.refl _ _ _)
 go_wp2_with fail
 refine (qDN p (n1 : Int) v bs WA HKA.out.st (by omega) (by omega) (by have := HBL.out; omega)).mono ?_
 rintro e w1 ⟨v1, rfl, hst, hs⟩
 have HK1 := am (HKA.out.step hst hs)
 have HS1 := am hs
 clear hst hs q0 q1
 obtain ⟨q0, q1⟩ := HB.out w1 v1 HS1.out
 obtain ⟨b1, hb1⟩ : ∃ b, b = bs ++ be (n1 : Int) 4 4 := ⟨_, rfl⟩
 rw [← hb1] at HK1
 have HB1 := am hb1
 have HL1 : qAf (b1.length ≤ 100004) := ⟨by have := HBL.out; rw [hb1, List.length_append, qA8]; omega⟩
 clear hb1
 go_wp2_with fail
 go_loopg [5, 15] n1 (fun gg _ s15 wr => ∃ (kk : Nat) (v' : Value), kk ≤ n1 ∧ n1 - kk ≤ gg ∧ s15 = .int .i64 kk ∧ qAf (WK wd p wr v' (b1 ++ (l.take kk).flatMap varB)) ∧ qAf (qAD p WA v wr v'))
 case atStart => exact ⟨0, v1, Nat.zero_le _, by omega, rfl, ⟨by rw [List.take_zero]; show WK wd p w1 v1 (b1 ++ []); rw [List.append_nil]; exact HK1.out⟩, HS1⟩
 case round =>
  clear q0 q1 HK1 HS1
  obtain ⟨kk, v', hkk, hg, rfl, HK, HS⟩ := hrel
  by_cases hlt : kk < n1
  rotate_left
  ·have hltz : ¬ (kk : Int) < (n1 : Int) := by omega
   rw [show l.take kk = l from List.take_of_length_le (by have := HN.out; omega)] at HK
   go_wp2
   go_end0
   exact ⟨v', rfl, by rw [HN.out, ← List.append_assoc, ← HB1.out]; exact HK.out.st, HSA.out.trans HS.out⟩
  have hltz : (kk : Int) < (n1 : Int) := by omega
  have h0' : (0 : Int) ≤ (kk : Int) := by omega
  obtain ⟨ad, ea, hx0, hx1, hx2⟩ := at_T71 HR.out (kk : Int) h0' hltz
  subst ea
  rw [Int.toNat_natCast] at hx0 hx1 hx2
  replace hx0 := (HK.out.below.cell (World.block_lt_of_cell? wd _ hx0)).trans hx0
  replace hx1 := (HK.out.below.cell (World.block_lt_of_cell? wd _ hx1)).trans hx1
  replace hx2 := (HK.out.below.cell (World.block_lt_of_cell? wd _ hx2)).trans hx2
  obtain ⟨x, hx⟩ : ∃ x, x = qA6 l (kk : Int) := ⟨_, rfl⟩
  rw [← hx] at hx0 hx1 hx2
  have HX : qAf (l[kk]? = some x) := ⟨by rw [hx]; exact qCk l z71 kk (by have := HN.out; omega)⟩
  have HO := am (HOK.out x (List.mem_of_getElem? HX.out))
  have HLB : qAf ((b1 ++ (l.take kk).flatMap varB).length ≤ 102884) := ⟨by
    have h1 := qC5 varB (l.take kk) 45 (fun y hy => by have hy := HOK.out y (List.mem_of_mem_take hy); exact varB_len y hy.1)
    have h2 := HL1.out
    have h3 : (l.take kk).length ≤ 64 := by have := HN.out; rw [List.length_take]; omega
    rw [List.length_append]; omega⟩
  clear hx
  obtain ⟨q0, q1⟩ := HB.out wr v' HS.out
  obtain ⟨b2, hb2⟩ : ∃ b, b = b1 ++ (l.take kk).flatMap varB := ⟨_, rfl⟩
  rw [← hb2] at HK HLB
  have HB2 := am hb2
  clear hb2
  obtain ⟨WB, hWB⟩ : ∃ WB, WB = wr.alloc (.cells #[.string x.f0, .int .i64 x.f1.f0, .int .u64 x.f1.f1] 71) := ⟨_, rfl⟩
  have HKB : qAf (WK wd p WB v' b2) := ⟨hWB ▸ HK.out.alloc _⟩
  have HSB : qAf (qAD p WA v WB v') := ⟨HS.out.trans (hWB ▸ qBn p wr v' _)⟩
  have hgB : wr.heap.size < WB.heap.size := by rw [hWB]; simp
  have HBX : qAf (∀ W' v'', qAD p WB v' W' v'' → W'.cell? ⟨wr.heap.size, 0, none⟩ = some (.string x.f0) ∧ W'.cell? ⟨wr.heap.size, 1, none⟩ = some (.int .i64 x.f1.f0) ∧ W'.cell? ⟨wr.heap.size, 2, none⟩ = some (.int .u64 x.f1.f1)) := ⟨fun W' v'' hs => ⟨HK.out.box (hWB ▸ hs) 0 _ rfl, HK.out.box (hWB ▸ hs) 1 _ rfl, HK.out.box (hWB ▸ hs) 2 _ rfl⟩⟩
  have HWB := am hWB
  clear hWB
  have hgw : w.heap.size + 1 < wr.heap.size := Nat.lt_of_lt_of_le hgA HS.out.size
  have hgw0 : w.heap.size < wr.heap.size := by omega
  go_wp2_with fail
  rw [← HWB.out]
  clear q0 q1 hx0 hx1 hx2 HK HS hgw hgw0
  refine (qCZ p x.f0 v' _ WB HKB.out.st (by have := HLB.out; omega) (by have := HO.out.1; unfold qBg at this; omega)).mono ?_
  rintro e y0 ⟨u0, rfl, hst, hs⟩
  have HK10 := am (HKB.out.step hst hs)
  have HS10 := am (HSB.out.trans hs)
  have HR10 := am ((qAD.refl p WB v').trans hs)
  clear hst hs
  obtain ⟨q0, q1⟩ := HB.out y0 u0 HS10.out
  obtain ⟨x0, x1, x2⟩ := HBX.out y0 u0 HR10.out
  go_wp2_with fail
  refine (qBt p _ u0 _ y0 HK10.out.st (by have := HLB.out; have hz := HO.out.1; unfold qBg at hz; simp only [List.length_append, qBC]; omega)).mono ?_
  rintro e y1 ⟨u1, rfl, hst, hs⟩
  have HK11 := am (HK10.out.step hst hs)
  have HS11 := am (HS10.out.trans hs)
  have HR11 := am (HR10.out.trans hs)
  clear hst hs q0 q1 x0 x1 x2
  obtain ⟨q0, q1⟩ := HB.out y1 u1 HS11.out
  obtain ⟨x0, x1, x2⟩ := HBX.out y1 u1 HR11.out
  go_wp2_with fail
  refine (long_any p x.f1.f1 u1 _ y1 HK11.out.st HO.out.2.1 (by have := HO.out.2.2; omega) (by have := HLB.out; have hz := HO.out.1; unfold qBg at hz; simp only [List.length_append, List.length_cons, List.length_nil, qBC]; omega)).mono ?_
  rintro e y2 ⟨u2, rfl, hst, hs⟩
  have HK12 := am (HK11.out.step hst hs)
  have HS12 := am (HS11.out.trans hs)
  clear hst hs q0 q1 x0 x1 x2
  have HKN : qAf (WK wd p y2 u2 (b1 ++ (l.take (kk + 1)).flatMap varB)) := ⟨by
    rw [qDH varB l kk x HX.out, ← List.append_assoc, ← HB2.out]; unfold varB; simpa only [List.append_assoc] using HK12.out⟩
  go_wp2
  go_roundg (n1 - (kk + 1))
  case measure => omega
  case rel => exact ⟨kk + 1, u2, by omega, by omega, by go_num, HKN, ⟨HS12.out⟩⟩
theorem fns_any (p : Nat) (a0 : ByteArray) (A1 : Option Addr) (n1 c1 : Nat) (A2 : Option Addr) (n2 c2 : Nat) (A3 : Option Addr) (n3 c3 : Nat) (l : List S80) (v : Value) (bs : List Int) (wd w : World) (hk : WK wd p w v bs)
  (hn : l.length = n2) (hr : Kd.C k80 wd A2 n2 l) (hl : l.length ≤ 64) (hok : ∀ x ∈ l, qBg x.f0 ∧ okFnS x) (hb : bs.length ≤ 200000) :
  Calls Try.prog 33 #[.agg #[.pointer (some ⟨p, 0, none⟩)], .agg #[.string a0, .slice A1 n1 c1, .slice A2 n2 c2, .slice A3 n3 c3]] w (qBy p (bs ++ (be l.length 4 4 ++ l.flatMap nfnB)) w v) := by
 obtain ⟨nn, hnn⟩ : ∃ m, m = n2 := ⟨_, rfl⟩
 obtain ⟨W0, hW0⟩ : ∃ W0, W0 = w.alloc (.cells #[.pointer (some ⟨p, 0, none⟩)] 90) := ⟨_, rfl⟩
 obtain ⟨WA, hWA⟩ : ∃ WA, WA = W0.alloc (.cells #[.string a0, .slice A1 n1 c1, .slice A2 n2 c2, .slice A3 n3 c3] 27) := ⟨_, rfl⟩
 have hK0 : WK wd p W0 v bs := hW0 ▸ hk.alloc _
 have hKA : WK wd p WA v bs := hWA ▸ hK0.alloc _
 have hS0 : qAD p w v W0 v := hW0 ▸ qBn p w v _
 have hSA0 : qAD p W0 v WA v := hWA ▸ qBn p W0 v _
 have hz0 : W0.heap.size = w.heap.size + 1 := by rw [hW0]; simp
 have HB : qAf (∀ W' v', qAD p WA v W' v' → W'.cell? ⟨w.heap.size, 0, none⟩ = some (.pointer (some ⟨p, 0, none⟩)) ∧ W'.cell? ⟨w.heap.size + 1, 2, none⟩ = some (.slice A2 n2 c2)) := ⟨fun W' v' hs => by
   have hs0 := hSA0.trans hs
   rw [hW0] at hs0
   have h2 := hK0.box (hWA ▸ hs) 2 (.slice A2 n2 c2) rfl
   rw [hz0] at h2
   exact ⟨hk.box hs0 0 _ rfl, h2⟩⟩
 have HWA : qAf (WA = (w.alloc (.cells #[.pointer (some ⟨p, 0, none⟩)] 90)).alloc (.cells #[.string a0, .slice A1 n1 c1, .slice A2 n2 c2, .slice A3 n3 c3] 27)) := ⟨by rw [← hW0]; exact hWA⟩
 have HKA := am hKA
 have HSA := am (hS0.trans hSA0)
 have HR := am hr
 have HN := am hn
 have HOK := am hok
 have HBL := am hb
 have hgA : w.heap.size + 1 < WA.heap.size := by rw [hWA]; simp [hz0]
 rw [hn] at hl
 clear hk hr hok hb hK0 hKA hS0 hSA0 hz0 hW0 hWA hnn
 clear hn
 go_enter Try.func33, Try.ntmps33
 go_wp2_with fail
 rw [← HWA.out]
 obtain ⟨q0, q1⟩ := HB.out WA v (qAD.refl _ _ _)
 go_wp2_with fail
 refine (qDN p (n2 : Int) v bs WA HKA.out.st (by omega) (by omega) (by have := HBL.out; omega)).mono ?_
 rintro e w1 ⟨v1, rfl, hst, hs⟩
 have HK1 := am (HKA.out.step hst hs)
 have HS1 := am hs
 clear hst hs q0 q1
 obtain ⟨q0, q1⟩ := HB.out w1 v1 HS1.out
 obtain ⟨b1, hb1⟩ : ∃ b, b = bs ++ be (n2 : Int) 4 4 := ⟨_, rfl⟩
 rw [← hb1] at HK1
 have HB1 := am hb1
 have HL1 : qAf (b1.length ≤ 200004) := ⟨by have := HBL.out; rw [hb1, List.length_append, qA8]; omega⟩
 clear hb1
 go_wp2_with fail
 go_loopg [5, 15] n2 (fun gg _ s15 wr => ∃ (kk : Nat) (v' : Value), kk ≤ n2 ∧ n2 - kk ≤ gg ∧ s15 = .int .i64 kk ∧ qAf (WK wd p wr v' (b1 ++ (l.take kk).flatMap nfnB)) ∧ qAf (qAD p WA v wr v'))
 case atStart => exact ⟨0, v1, Nat.zero_le _, by omega, rfl, ⟨by rw [List.take_zero]; show WK wd p w1 v1 (b1 ++ []); rw [List.append_nil]; exact HK1.out⟩, HS1⟩
 case round =>
  clear q0 q1 HK1 HS1
  obtain ⟨kk, v', hkk, hg, rfl, HK, HS⟩ := hrel
  by_cases hlt : kk < n2
  rotate_left
  ·have hltz : ¬ (kk : Int) < (n2 : Int) := by omega
   rw [show l.take kk = l from List.take_of_length_le (by have := HN.out; omega)] at HK
   go_wp2
   go_end0
   exact ⟨v', rfl, by rw [HN.out, ← List.append_assoc, ← HB1.out]; exact HK.out.st, HSA.out.trans HS.out⟩
  have hltz : (kk : Int) < (n2 : Int) := by omega
  have h0' : (0 : Int) ≤ (kk : Int) := by omega
  obtain ⟨ad, B1, d1, B3, d3, B4, d4, ea, hx0, hx1, hx2, hx3, hx4, hl1, hC1, hl3, hC3, hl4, hC4⟩ := at_T80 HR.out (kk : Int) h0' hltz
  subst ea
  rw [Int.toNat_natCast] at hx0 hx1 hx2 hx3 hx4
  replace hx0 := (HK.out.below.cell (World.block_lt_of_cell? wd _ hx0)).trans hx0
  replace hx1 := (HK.out.below.cell (World.block_lt_of_cell? wd _ hx1)).trans hx1
  replace hx2 := (HK.out.below.cell (World.block_lt_of_cell? wd _ hx2)).trans hx2
  replace hx3 := (HK.out.below.cell (World.block_lt_of_cell? wd _ hx3)).trans hx3
  replace hx4 := (HK.out.below.cell (World.block_lt_of_cell? wd _ hx4)).trans hx4
  obtain ⟨x, hx⟩ : ∃ x, x = qAh l (kk : Int) := ⟨_, rfl⟩
  rw [← hx] at hx0 hx1 hx2 hx3 hx4 hC1 hC3 hC4
  have HC1 := am hC1
  have HC3 := am hC3
  have HC4 := am hC4
  clear hl1 hl3 hl4 hC1 hC3 hC4
  have HX : qAf (l[kk]? = some x) := ⟨by rw [hx]; exact qCk l z80 kk (by have := HN.out; omega)⟩
  have HO := am (HOK.out x (List.mem_of_getElem? HX.out))
  have HLB : qAf ((b1 ++ (l.take kk).flatMap nfnB).length ≤ 2830404) := ⟨by
    have h1 := qC5 nfnB (l.take kk) 41100 (fun y hy => by have hy := HOK.out y (List.mem_of_mem_take hy); exact nfnB_len y hy.1 hy.2)
    have h2 := HL1.out
    have h3 : (l.take kk).length ≤ 64 := by have := HN.out; rw [List.length_take]; omega
    rw [List.length_append]; omega⟩
  clear hx
  obtain ⟨q0, q1⟩ := HB.out wr v' HS.out
  obtain ⟨b2, hb2⟩ : ∃ b, b = b1 ++ (l.take kk).flatMap nfnB := ⟨_, rfl⟩
  rw [← hb2] at HK HLB
  have HB2 := am hb2
  clear hb2
  obtain ⟨WB, hWB⟩ : ∃ WB, WB = wr.alloc (.cells #[.string x.f0, .slice B1 x.f1.f0.f0.length d1, .int .i64 x.f1.f0.f1, .slice B3 x.f1.f1.length d3, .slice B4 x.f1.f2.length d4] 80) := ⟨_, rfl⟩
  have HKB : qAf (WK wd p WB v' b2) := ⟨hWB ▸ HK.out.alloc _⟩
  have HSB : qAf (qAD p WA v WB v') := ⟨HS.out.trans (hWB ▸ qBn p wr v' _)⟩
  have hgB : wr.heap.size < WB.heap.size := by rw [hWB]; simp
  have HBX : qAf (∀ W' v'', qAD p WB v' W' v'' → W'.cell? ⟨wr.heap.size, 0, none⟩ = some (.string x.f0) ∧ W'.cell? ⟨wr.heap.size, 1, none⟩ = some (.slice B1 x.f1.f0.f0.length d1) ∧ W'.cell? ⟨wr.heap.size, 2, none⟩ = some (.int .i64 x.f1.f0.f1) ∧ W'.cell? ⟨wr.heap.size, 3, none⟩ = some (.slice B3 x.f1.f1.length d3) ∧ W'.cell? ⟨wr.heap.size, 4, none⟩ = some (.slice B4 x.f1.f2.length d4)) := ⟨fun W' v'' hs => ⟨HK.out.box (hWB ▸ hs) 0 _ rfl, HK.out.box (hWB ▸ hs) 1 _ rfl, HK.out.box (hWB ▸ hs) 2 _ rfl, HK.out.box (hWB ▸ hs) 3 _ rfl, HK.out.box (hWB ▸ hs) 4 _ rfl⟩⟩
  have HWB := am hWB
  clear hWB
  have hgw : w.heap.size + 1 < wr.heap.size := Nat.lt_of_lt_of_le hgA HS.out.size
  have hgw0 : w.heap.size < wr.heap.size := by omega
  go_wp2_with fail
  rw [← HWB.out]
  clear q0 q1 hx0 hx1 hx2 hx3 hx4 HK HS hgw hgw0
  refine (qCZ p x.f0 v' _ WB HKB.out.st (by have := HLB.out; omega) (by have := HO.out.1; unfold qBg at this; omega)).mono ?_
  rintro e y0 ⟨u0, rfl, hst, hs⟩
  have HK10 := am (HKB.out.step hst hs)
  have HS10 := am (HSB.out.trans hs)
  have HR10 := am ((qAD.refl p WB v').trans hs)
  clear hst hs
  obtain ⟨q0, q1⟩ := HB.out y0 u0 HS10.out
  obtain ⟨x0, x1, x2, x3, x4⟩ := HBX.out y0 u0 HR10.out
  go_wp2_with fail
  refine (fn_any p B1 d1 _ _ B3 d3 _ B4 d4 _ u0 _ wd y0 HK10.out HC1.out HC3.out HC4.out HO.out.2.1 HO.out.2.2.1 HO.out.2.2.2.1 HO.out.2.2.2.2.1 HO.out.2.2.2.2.2 (by have := HLB.out; have hz := HO.out.1; unfold qBg at hz; simp only [List.length_append, qBC]; omega)).mono ?_
  rintro e y1 ⟨u1, rfl, hst, hs⟩
  have HK11 := am (HK10.out.step hst hs)
  have HS11 := am (HS10.out.trans hs)
  clear hst hs q0 q1 x0 x1 x2 x3 x4
  have HKN : qAf (WK wd p y1 u1 (b1 ++ (l.take (kk + 1)).flatMap nfnB)) := ⟨by
    rw [qDH nfnB l kk x HX.out, ← List.append_assoc, ← HB2.out]; unfold nfnB; simpa only [List.append_assoc] using HK11.out⟩
  go_wp2
  go_roundg (n2 - (kk + 1))
  case measure => omega
  case rel => exact ⟨kk + 1, u1, by omega, by omega, by go_num, HKN, ⟨HS11.out⟩⟩
theorem rels_any (p : Nat) (a0 : ByteArray) (A1 : Option Addr) (n1 c1 : Nat) (A2 : Option Addr) (n2 c2 : Nat) (A3 : Option Addr) (n3 c3 : Nat) (l : List S82) (v : Value) (bs : List Int) (wd w : World) (hk : WK wd p w v bs)
  (hn : l.length = n3) (hr : Kd.C k82 wd A3 n3 l) (hl : l.length ≤ 262144) (hok : ∀ x ∈ l, qBg x.f3 ∧ qBg x.f4 ∧ 0 ≤ x.f0 ∧ x.f0 ≤ 9223372036854775807 ∧ 0 ≤ x.f1 ∧ x.f1 ≤ 9223372036854775807) (hb : bs.length ≤ 100000000) :
  Calls Try.prog 34 #[.agg #[.pointer (some ⟨p, 0, none⟩)], .agg #[.string a0, .slice A1 n1 c1, .slice A2 n2 c2, .slice A3 n3 c3]] w (qBy p (bs ++ (be l.length 4 4 ++ l.flatMap relB)) w v) := by
 obtain ⟨nn, hnn⟩ : ∃ m, m = n3 := ⟨_, rfl⟩
 obtain ⟨W0, hW0⟩ : ∃ W0, W0 = w.alloc (.cells #[.pointer (some ⟨p, 0, none⟩)] 90) := ⟨_, rfl⟩
 obtain ⟨WA, hWA⟩ : ∃ WA, WA = W0.alloc (.cells #[.string a0, .slice A1 n1 c1, .slice A2 n2 c2, .slice A3 n3 c3] 27) := ⟨_, rfl⟩
 have hK0 : WK wd p W0 v bs := hW0 ▸ hk.alloc _
 have hKA : WK wd p WA v bs := hWA ▸ hK0.alloc _
 have hS0 : qAD p w v W0 v := hW0 ▸ qBn p w v _
 have hSA0 : qAD p W0 v WA v := hWA ▸ qBn p W0 v _
 have hz0 : W0.heap.size = w.heap.size + 1 := by rw [hW0]; simp
 have HB : qAf (∀ W' v', qAD p WA v W' v' → W'.cell? ⟨w.heap.size, 0, none⟩ = some (.pointer (some ⟨p, 0, none⟩)) ∧ W'.cell? ⟨w.heap.size + 1, 3, none⟩ = some (.slice A3 n3 c3)) := ⟨fun W' v' hs => by
   have hs0 := hSA0.trans hs
   rw [hW0] at hs0
   have h2 := hK0.box (hWA ▸ hs) 3 (.slice A3 n3 c3) rfl
   rw [hz0] at h2
   exact ⟨hk.box hs0 0 _ rfl, h2⟩⟩
 have HWA : qAf (WA = (w.alloc (.cells #[.pointer (some ⟨p, 0, none⟩)] 90)).alloc (.cells #[.string a0, .slice A1 n1 c1, .slice A2 n2 c2, .slice A3 n3 c3] 27)) := ⟨by rw [← hW0]; exact hWA⟩
 have HKA := am hKA
 have HSA := am (hS0.trans hSA0)
 have HR := am hr
 have HN := am hn
 have HOK := am hok
 have HBL := am hb
 have hgA : w.heap.size + 1 < WA.heap.size := by rw [hWA]; simp [hz0]
 rw [hn] at hl
 clear hk hr hok hb hK0 hKA hS0 hSA0 hz0 hW0 hWA hnn
 clear hn
 go_enter Try.func34, Try.ntmps34
 go_wp2_with fail
 rw [← HWA.out]
 obtain ⟨q0, q1⟩ := HB.out WA v (qAD.refl _ _ _)
 go_wp2_with fail
 refine (qDN p (n3 : Int) v bs WA HKA.out.st (by omega) (by omega) (by have := HBL.out; omega)).mono ?_
 rintro e w1 ⟨v1, rfl, hst, hs⟩
 have HK1 := am (HKA.out.step hst hs)
 have HS1 := am hs
 clear hst hs q0 q1
 obtain ⟨q0, q1⟩ := HB.out w1 v1 HS1.out
 obtain ⟨b1, hb1⟩ : ∃ b, b = bs ++ be (n3 : Int) 4 4 := ⟨_, rfl⟩
 rw [← hb1] at HK1
 have HB1 := am hb1
 have HL1 : qAf (b1.length ≤ 100000004) := ⟨by have := HBL.out; rw [hb1, List.length_append, qA8]; omega⟩
 clear hb1
 go_wp2_with fail
 go_loopg [5, 15] n3 (fun gg _ s15 wr => ∃ (kk : Nat) (v' : Value), kk ≤ n3 ∧ n3 - kk ≤ gg ∧ s15 = .int .i64 kk ∧ qAf (WK wd p wr v' (b1 ++ (l.take kk).flatMap relB)) ∧ qAf (qAD p WA v wr v'))
 case atStart => exact ⟨0, v1, Nat.zero_le _, by omega, rfl, ⟨by rw [List.take_zero]; show WK wd p w1 v1 (b1 ++ []); rw [List.append_nil]; exact HK1.out⟩, HS1⟩
 case round =>
  clear q0 q1 HK1 HS1
  obtain ⟨kk, v', hkk, hg, rfl, HK, HS⟩ := hrel
  by_cases hlt : kk < n3
  rotate_left
  ·have hltz : ¬ (kk : Int) < (n3 : Int) := by omega
   rw [show l.take kk = l from List.take_of_length_le (by have := HN.out; omega)] at HK
   go_wp2
   go_end0
   exact ⟨v', rfl, by rw [HN.out, ← List.append_assoc, ← HB1.out]; exact HK.out.st, HSA.out.trans HS.out⟩
  have hltz : (kk : Int) < (n3 : Int) := by omega
  have h0' : (0 : Int) ≤ (kk : Int) := by omega
  obtain ⟨ad, ea, hx0, hx1, hx2, hx3, hx4⟩ := at_T82 HR.out (kk : Int) h0' hltz
  subst ea
  rw [Int.toNat_natCast] at hx0 hx1 hx2 hx3 hx4
  replace hx0 := (HK.out.below.cell (World.block_lt_of_cell? wd _ hx0)).trans hx0
  replace hx1 := (HK.out.below.cell (World.block_lt_of_cell? wd _ hx1)).trans hx1
  replace hx2 := (HK.out.below.cell (World.block_lt_of_cell? wd _ hx2)).trans hx2
  replace hx3 := (HK.out.below.cell (World.block_lt_of_cell? wd _ hx3)).trans hx3
  replace hx4 := (HK.out.below.cell (World.block_lt_of_cell? wd _ hx4)).trans hx4
  obtain ⟨x, hx⟩ : ∃ x, x = qCw l (kk : Int) := ⟨_, rfl⟩
  rw [← hx] at hx0 hx1 hx2 hx3 hx4
  have HX : qAf (l[kk]? = some x) := ⟨by rw [hx]; exact qCk l z82 kk (by have := HN.out; omega)⟩
  have HO := am (HOK.out x (List.mem_of_getElem? HX.out))
  have HLB : qAf ((b1 ++ (l.take kk).flatMap relB).length ≤ 120185092) := ⟨by
    have h1 := qC5 relB (l.take kk) 77 (fun y hy => by have hy := HOK.out y (List.mem_of_mem_take hy); exact relB_len y hy.1 hy.2.1)
    have h2 := HL1.out
    have h3 : (l.take kk).length ≤ 262144 := by have := HN.out; rw [List.length_take]; omega
    rw [List.length_append]; omega⟩
  clear hx
  obtain ⟨q0, q1⟩ := HB.out wr v' HS.out
  obtain ⟨b2, hb2⟩ : ∃ b, b = b1 ++ (l.take kk).flatMap relB := ⟨_, rfl⟩
  rw [← hb2] at HK HLB
  have HB2 := am hb2
  clear hb2
  obtain ⟨WB, hWB⟩ : ∃ WB, WB = wr.alloc (.cells #[.int .i64 x.f0, .int .i64 x.f1, .int .i64 x.f2, .string x.f3, .string x.f4] 82) := ⟨_, rfl⟩
  have HKB : qAf (WK wd p WB v' b2) := ⟨hWB ▸ HK.out.alloc _⟩
  have HSB : qAf (qAD p WA v WB v') := ⟨HS.out.trans (hWB ▸ qBn p wr v' _)⟩
  have hgB : wr.heap.size < WB.heap.size := by rw [hWB]; simp
  have HBX : qAf (∀ W' v'', qAD p WB v' W' v'' → W'.cell? ⟨wr.heap.size, 0, none⟩ = some (.int .i64 x.f0) ∧ W'.cell? ⟨wr.heap.size, 1, none⟩ = some (.int .i64 x.f1) ∧ W'.cell? ⟨wr.heap.size, 2, none⟩ = some (.int .i64 x.f2) ∧ W'.cell? ⟨wr.heap.size, 3, none⟩ = some (.string x.f3) ∧ W'.cell? ⟨wr.heap.size, 4, none⟩ = some (.string x.f4)) := ⟨fun W' v'' hs => ⟨HK.out.box (hWB ▸ hs) 0 _ rfl, HK.out.box (hWB ▸ hs) 1 _ rfl, HK.out.box (hWB ▸ hs) 2 _ rfl, HK.out.box (hWB ▸ hs) 3 _ rfl, HK.out.box (hWB ▸ hs) 4 _ rfl⟩⟩
  have HWB := am hWB
  clear hWB
  have hgw : w.heap.size + 1 < wr.heap.size := Nat.lt_of_lt_of_le hgA HS.out.size
  have hgw0 : w.heap.size < wr.heap.size := by omega
  go_wp2_with fail
  rw [← HWB.out]
  clear q0 q1 hx0 hx1 hx2 hx3 hx4 HK HS hgw hgw0
  refine (short_any p x.f0 v' _ WB HKB.out.st HO.out.2.2.1 HO.out.2.2.2.1 (by have := HLB.out; omega)).mono ?_
  rintro e y0 ⟨u0, rfl, hst, hs⟩
  have HK10 := am (HKB.out.step hst hs)
  have HS10 := am (HSB.out.trans hs)
  have HR10 := am ((qAD.refl p WB v').trans hs)
  clear hst hs
  obtain ⟨q0, q1⟩ := HB.out y0 u0 HS10.out
  obtain ⟨x0, x1, x2, x3, x4⟩ := HBX.out y0 u0 HR10.out
  go_wp2_with fail
  refine (short_any p x.f1 u0 _ y0 HK10.out.st HO.out.2.2.2.2.1 HO.out.2.2.2.2.2 (by have := HLB.out; have hz := HO.out.1; have hz2 := HO.out.2.1; unfold qBg at hz hz2; simp only [List.length_append, qA8]; omega)).mono ?_
  rintro e y1 ⟨u1, rfl, hst, hs⟩
  have HK11 := am (HK10.out.step hst hs)
  have HS11 := am (HS10.out.trans hs)
  have HR11 := am (HR10.out.trans hs)
  clear hst hs q0 q1 x0 x1 x2 x3 x4
  obtain ⟨q0, q1⟩ := HB.out y1 u1 HS11.out
  obtain ⟨x0, x1, x2, x3, x4⟩ := HBX.out y1 u1 HR11.out
  go_wp2_with fail
  refine (qBt p _ u1 _ y1 HK11.out.st (by have := HLB.out; have hz := HO.out.1; have hz2 := HO.out.2.1; unfold qBg at hz hz2; simp only [List.length_append, qA8]; omega)).mono ?_
  rintro e y2 ⟨u2, rfl, hst, hs⟩
  have HK12 := am (HK11.out.step hst hs)
  have HS12 := am (HS11.out.trans hs)
  have HR12 := am (HR11.out.trans hs)
  clear hst hs q0 q1 x0 x1 x2 x3 x4
  obtain ⟨q0, q1⟩ := HB.out y2 u2 HS12.out
  obtain ⟨x0, x1, x2, x3, x4⟩ := HBX.out y2 u2 HR12.out
  go_wp2_with fail
  refine (qCZ p x.f3 u2 _ y2 HK12.out.st (by have := HLB.out; have hz := HO.out.1; have hz2 := HO.out.2.1; unfold qBg at hz hz2; simp only [List.length_append, List.length_cons, List.length_nil, qA8]; omega) (by have := HO.out.1; unfold qBg at this; omega)).mono ?_
  rintro e y3 ⟨u3, rfl, hst, hs⟩
  have HK13 := am (HK12.out.step hst hs)
  have HS13 := am (HS12.out.trans hs)
  have HR13 := am (HR12.out.trans hs)
  clear hst hs q0 q1 x0 x1 x2 x3 x4
  obtain ⟨q0, q1⟩ := HB.out y3 u3 HS13.out
  obtain ⟨x0, x1, x2, x3, x4⟩ := HBX.out y3 u3 HR13.out
  go_wp2_with fail
  refine (qCZ p x.f4 u3 _ y3 HK13.out.st (by have := HLB.out; have hz := HO.out.1; have hz2 := HO.out.2.1; unfold qBg at hz hz2; simp only [List.length_append, List.length_cons, List.length_nil, qA8, qBC]; omega) (by have := HO.out.2.1; unfold qBg at this; omega)).mono ?_
  rintro e y4 ⟨u4, rfl, hst, hs⟩
  have HK14 := am (HK13.out.step hst hs)
  have HS14 := am (HS13.out.trans hs)
  clear hst hs q0 q1 x0 x1 x2 x3 x4
  have HKN : qAf (WK wd p y4 u4 (b1 ++ (l.take (kk + 1)).flatMap relB)) := ⟨by
    rw [qDH relB l kk x HX.out, ← List.append_assoc, ← HB2.out]; unfold relB; simpa only [List.append_assoc] using HK14.out⟩
  go_wp2
  go_roundg (n3 - (kk + 1))
  case measure => omega
  case rel => exact ⟨kk + 1, u4, by omega, by omega, by go_num, HKN, ⟨HS14.out⟩⟩
def qBX (m : ByteArray) (vars : List S71) (fns : List S80) (rels : List S82) : List Int :=
 [102, 111, 98, 106] ++ (rawB (qBv m) ++ ((be vars.length 4 4 ++ vars.flatMap varB) ++ ((be fns.length 4 4 ++ fns.flatMap nfnB) ++ (be rels.length 4 4 ++ rels.flatMap relB))))
theorem qDt {s : ByteArray} {l : List ByteArray} (h : qBr s l = 0) : Names.nameE s = 0 ∧ hasB l s = false := by
 unfold qBr at h
 split at h
 ·rename_i h1; exact absurd h h1
 rename_i h1
 split at h
 ·cases h
 rename_i h2; exact ⟨Decidable.not_not.mp h1, by simpa using h2⟩
theorem varsE_ok : ∀ (l : List S71) (ahead : List ByteArray), varsE ahead l = 0 → ∀ x ∈ l, Names.nameE x.f0 = 0 ∧ okV x.f1.f0 x.f1.f1 = true
 | [], _, _, x, hx => by cases hx
 | v :: vs, ahead, h, x, hx => by
  simp only [varsE] at h
  split at h
  ·rename_i h1; exact absurd h h1
  rename_i h1
  split at h
  ·cases h
  rename_i h2
  rcases List.mem_cons.1 hx with e | hx
  ·rw [e]; exact ⟨(qDt (Decidable.not_not.mp h1)).1, by simpa using h2⟩
  exact varsE_ok vs _ h x hx
theorem fnsE_ok : ∀ (l : List S80) (ahead : List ByteArray), fnsE ahead l = 0 → ∀ x ∈ l, Names.nameE x.f0 = 0 ∧ fnOk x = true
 | [], _, _, x, hx => by cases hx
 | v :: vs, ahead, h, x, hx => by
  simp only [fnsE] at h
  split at h
  ·rename_i h1; exact absurd h h1
  rename_i h1
  split at h
  ·cases h
  rename_i h2
  rcases List.mem_cons.1 hx with e | hx
  ·rw [e]; exact ⟨(qDt (Decidable.not_not.mp h1)).1, by simpa using h2⟩
  exact fnsE_ok vs _ h x hx
theorem qDW : ∀ (l : List S82), qBa l = 0 → ∀ x ∈ l, Names.nameE x.f3 = 0 ∧ Names.nameE x.f4 = 0
 | [], _, x, hx => by cases hx
 | r :: rs, h, x, hx => by
  simp only [qBa] at h
  split at h
  ·rename_i h1; exact absurd h h1
  rename_i h1
  split at h
  ·rename_i h2; exact absurd h h2
  rename_i h2
  rcases List.mem_cons.1 hx with e | hx
  ·rw [e]; exact ⟨Decidable.not_not.mp h1, Decidable.not_not.mp h2⟩
  exact qDW rs h x hx
theorem eqBare_get : ∀ (a b : List S82), qB4 a b = true → ∀ x ∈ a, ∃ y ∈ b, bareB x y = true
 | [], _, _, x, hx => by cases hx
 | x :: xs, [], h, _, _ => by simp [qB4] at h
 | x :: xs, y :: ys, h, z, hz => by
  simp only [qB4, Bool.and_eq_true] at h
  rcases List.mem_cons.1 hz with e | hz
  ·exact ⟨y, List.mem_cons_self, e ▸ h.1⟩
  obtain ⟨u, hu, hb⟩ := eqBare_get xs ys h.2 z hz
  exact ⟨u, List.mem_cons_of_mem _ hu, hb⟩
structure qD9 (m : ByteArray) (vars : List S71) (fns : List S80) (rels : List S82) : Prop where
 m : Names.nameE m = 0
 n : vars.length + fns.length ≤ 64
 v : ∀ x ∈ vars, Names.nameE x.f0 = 0 ∧ okV x.f1.f0 x.f1.f1 = true
 f : ∀ x ∈ fns, Names.nameE x.f0 = 0 ∧ fnOk x = true
 e : qB4 rels (qAY fns) = true
 r : ∀ x ∈ rels, Names.nameE x.f3 = 0 ∧ Names.nameE x.f4 = 0
theorem qD9.of {m : ByteArray} {vars : List S71} {fns : List S80} {rels : List S82} (h : qBH m vars fns rels = 0) : qD9 m vars fns rels := by
 unfold qBH at h
 split at h
 ·rename_i h1; exact absurd h h1
 rename_i h1
 split at h
 ·cases h
 rename_i h2
 split at h
 ·rename_i h3; exact absurd h h3
 rename_i h3
 split at h
 ·rename_i h4; exact absurd h h4
 rename_i h4
 unfold qCV at h
 split at h
 ·cases h
 rename_i h5
 split at h
 ·cases h
 rename_i h6
 split at h
 ·rename_i h7; exact absurd h h7
 rename_i h7
 exact ⟨Decidable.not_not.mp h1, by omega, varsE_ok _ _ (Decidable.not_not.mp h3), fnsE_ok _ _ (Decidable.not_not.mp h4), by simpa using h5, qDW _ (Decidable.not_not.mp h7)⟩
theorem qD9.rels {m : ByteArray} {vars : List S71} {fns : List S80} {rels : List S82} (h : qD9 m vars fns rels) : rels.length ≤ 262144 := by
 rw [qDg _ _ h.e]
 have := fnsP_len fns 0 fun x hx => (qD6 (h.f x hx).2).2.2.1
 have := h.n
 unfold qAY; omega
theorem bareB_eq {x y : S82} (h : bareB x y = true) : x.f0 = y.f0 ∧ x.f1 = y.f1 ∧ x.f2 = y.f2 := by
 unfold bareB at h; simpa using h
theorem qD9.at_ {m : ByteArray} {vars : List S71} {fns : List S80} {rels : List S82} (h : qD9 m vars fns rels) : ∀ x ∈ rels, 0 ≤ x.f0 ∧ x.f0 < 64 ∧ 0 ≤ x.f1 ∧ x.f1 < 4096 := fun x hx => by
 obtain ⟨y, hy, hb⟩ := eqBare_get _ _ h.e x hx
 obtain ⟨e0, e1, _⟩ := bareB_eq hb
 obtain ⟨g0, g1, g2, g3⟩ := placesL_in fns y hy
 have hm := getD_mem fns z80 y.f0 g0 g1
 have := (qD6 (h.f _ hm).2).2.2.1
 have : (qAh fns y.f0).f1.f2.length ≤ 4096 := this
 have := h.n
 rw [e0, e1]; omega
instance (m : ByteArray) (vars : List S71) (fns : List S80) (rels : List S82) : Decidable (GoodO m vars fns rels) :=
 decidable_of_iff (m.size ≤ 140737488351232 ∧ vars.length ≤ 2305843009213693952 ∧ (∀ x ∈ vars, x.f0.size ≤ 140737488351232 ∧ 0 ≤ x.f1.f1 ∧ x.f1.f1 < 18446744073709551616) ∧ fns.length ≤ 2305843009213693952 ∧
   (∀ x ∈ fns, x.f0.size ≤ 140737488351232 ∧ x.f1.f0.f0.length ≤ 4611686018427387904 ∧ x.f1.f1.length ≤ 4611686018427387904 ∧ x.f1.f2.length ≤ 4611686018427387904 ∧ x.f1.f2.all u64S = true) ∧ rels.length ≤ 4611686018427387904 ∧ (∀ x ∈ rels, x.f3.size ≤ 140737488351232 ∧ x.f4.size ≤ 140737488351232))
  ⟨fun ⟨a, b, c, d, e, f, g⟩ => ⟨a, b, c, d, e, f, g⟩, fun ⟨a, b, c, d, e, f, g⟩ => ⟨a, b, c, d, e, f, g⟩⟩
def qA7.f (a0_0 : ByteArray) (l0_1 : List (S71)) (l0_2 : List (S80)) (l0_3 : List (S82)) : Option (List Int × Int) :=
 if GoodO a0_0 l0_1 l0_2 l0_3 then (if qBH a0_0 l0_1 l0_2 l0_3 ≠ 0 then some ([], qBH a0_0 l0_1 l0_2 l0_3) else if 16384 < (qBX a0_0 l0_1 l0_2 l0_3).length then some ([], 3) else some (qBX a0_0 l0_1 l0_2 l0_3, 0)) else none
end Q
end
section
namespace Q
open Go.RowKit PA PB PC
open Val Ins Wr Enc Wr2 Clone
def accP (b5 : List Int) (vars : List S71) (fns : List S80) (rels : List S82) : Nat → List Int
 | 0 => b5
 | 1 => b5 ++ (be vars.length 4 4 ++ vars.flatMap varB)
 | 2 => b5 ++ (be vars.length 4 4 ++ vars.flatMap varB) ++ (be fns.length 4 4 ++ fns.flatMap nfnB)
 | _ => b5 ++ (be vars.length 4 4 ++ vars.flatMap varB) ++ (be fns.length 4 4 ++ fns.flatMap nfnB) ++ (be rels.length 4 4 ++ rels.flatMap relB)
theorem idx3_0 (f0 f1 f2 : Value) (w : World) : (Instr.index 92 (.agg #[f0, f1, f2]) (.int .i64 0)).run Try.prog w = .ok f0 w := by kernel_rfl
theorem idx3_1 (f0 f1 f2 : Value) (w : World) : (Instr.index 92 (.agg #[f0, f1, f2]) (.int .i64 1)).run Try.prog w = .ok f1 w := by kernel_rfl
theorem idx3_2 (f0 f1 f2 : Value) (w : World) : (Instr.index 92 (.agg #[f0, f1, f2]) (.int .i64 2)).run Try.prog w = .ok f2 w := by kernel_rfl
theorem conv_mark (W : World) (g n c : Nat) (cur : Array Value) (hg : W.heap[g]? = some (.cells cur 5 (0, 0))) (hs : cur.size = n) :
  (convert 22 22 (.slice (some ⟨g, 0, none⟩) n c)).run Try.prog W = .ok (.slice (some ⟨g, 0, none⟩) n c) (W.freeze ⟨g, n, none⟩ 1) := by
 have hsh : W.shape? g = some (5, cur.size) := by unfold World.shape?; rw [hg]
 subst hs
 simp [convert, run_underlying Try.underlying22, run_underlying Try.underlying5, markStringish, hsh]
theorem freeze_at (W : World) (g n : Nat) (cur : Array Value) (hg : W.heap[g]? = some (.cells cur 5 (0, 0))) : (W.freeze ⟨g, n, none⟩ 1).heap[g]? = some (.cells cur 5 (n, n + 1)) := by
 unfold World.freeze
 simp [Array.getElem?_modify, hg]
theorem qDI (W : World) (a : Addr) (n : Nat) : (W.freeze a n).heap.size = W.heap.size := by unfold World.freeze; split <;> simp
theorem freeze_below {B : Nat} {a W : World} (h : Below B a W) (p : Addr) (n : Nat) (hp : B ≤ p.block) : Below B a (W.freeze p n) :=
 ⟨by have := h.os; unfold World.freeze; split <;> simpa using this, by have := h.tape; unfold World.freeze; split <;> simpa using this, by have := h.output; unfold World.freeze; split <;> simpa using this, by rw [qDI]; exact h.size, fun k hk => (qCI W p n k (by omega)).trans (h.block k hk)⟩
theorem qA7.calls (a0_0 : ByteArray) (A0_1 : Option Addr) (c0_1 : Nat) (l0_1 : List (S71)) (A0_2 : Option Addr) (c0_2 : Nat) (l0_2 : List (S80)) (A0_3 : Option Addr) (c0_3 : Nat) (l0_3 : List (S82)) (r1 : List Int) (r2 : Int) (w : World) (hr0_1 : Kd.C k71 w A0_1 l0_1.length l0_1) (hc0_1 : l0_1.length ≤ c0_1) (hr0_2 : Kd.C k80 w A0_2 l0_2.length l0_2) (hc0_2 : l0_2.length ≤ c0_2) (hr0_3 : Kd.C k82 w A0_3 l0_3.length l0_3) (hc0_3 : l0_3.length ≤ c0_3) (h : qA7.f a0_0 l0_1 l0_2 l0_3 = some (r1, r2)) :
  Calls Try.prog 9 #[.agg #[.string a0_0, .slice A0_1 l0_1.length c0_1, .slice A0_2 l0_2.length c0_2, .slice A0_3 l0_3.length c0_3]] w fun e w' => ∃ v0_ : Value, e = .returned (.tuple #[v0_, .int .i64 r2]) ∧ Kd.R (Kd.int .u8) 5 w' w.heap.size (fun _ => True) v0_ r1 ∧ Below w.heap.size w w' := by
 unfold qA7.f at h
 split at h
 case isFalse => cases h
 rename_i hg
 obtain ⟨kr, hkr⟩ := (right_ev a0_0 l0_1 l0_2 l0_3 hg).rounds
 obtain ⟨n1, hn1⟩ : ∃ n, n = l0_1.length := ⟨_, rfl⟩
 obtain ⟨n2, hn2⟩ : ∃ n, n = l0_2.length := ⟨_, rfl⟩
 obtain ⟨n3, hn3⟩ : ∃ n, n = l0_3.length := ⟨_, rfl⟩
 obtain ⟨OV, hOV⟩ : ∃ OV : Array Value, OV = #[.string a0_0, .slice A0_1 n1 c0_1, .slice A0_2 n2 c0_2, .slice A0_3 n3 c0_3] := ⟨_, rfl⟩
 obtain ⟨WA, hWA⟩ : ∃ WA, WA = w.alloc (.cells OV 27) := ⟨_, rfl⟩
 have hBA : Below w.heap.size w WA := hWA ▸ (Below.refl _ _).alloc (Nat.le_refl _) _
 have hgA : w.heap.size < WA.heap.size := by rw [hWA]; simp
 have k0 : WA.cell? ⟨w.heap.size, 0, none⟩ = some (.string a0_0) := by rw [hWA, World.cell?_alloc_at _ _ _ _ rfl, hOV]; rfl
 have k1 : WA.cell? ⟨w.heap.size, 1, none⟩ = some (.slice A0_1 n1 c0_1) := by rw [hWA, World.cell?_alloc_at _ _ _ _ rfl, hOV]; rfl
 have k2 : WA.cell? ⟨w.heap.size, 2, none⟩ = some (.slice A0_2 n2 c0_2) := by rw [hWA, World.cell?_alloc_at _ _ _ _ rfl, hOV]; rfl
 have k3 : WA.cell? ⟨w.heap.size, 3, none⟩ = some (.slice A0_3 n3 c0_3) := by rw [hWA, World.cell?_alloc_at _ _ _ _ rfl, hOV]; rfl
 have HBX : qAf (∀ W, Below WA.heap.size WA W → W.cell? ⟨w.heap.size, 0, none⟩ = some (.string a0_0) ∧ W.cell? ⟨w.heap.size, 1, none⟩ = some (.slice A0_1 n1 c0_1) ∧ W.cell? ⟨w.heap.size, 2, none⟩ = some (.slice A0_2 n2 c0_2) ∧ W.cell? ⟨w.heap.size, 3, none⟩ = some (.slice A0_3 n3 c0_3)) := ⟨fun W hW =>
   ⟨(hW.cell (p := ⟨w.heap.size, 0, none⟩) hgA).trans k0, (hW.cell (p := ⟨w.heap.size, 1, none⟩) hgA).trans k1, (hW.cell (p := ⟨w.heap.size, 2, none⟩) hgA).trans k2, (hW.cell (p := ⟨w.heap.size, 3, none⟩) hgA).trans k3⟩⟩
 have HRT : qAf (Calls Try.prog 11 #[.agg #[.string a0_0, .slice A0_1 n1 c0_1, .slice A0_2 n2 c0_2, .slice A0_3 n3 c0_3]] WA fun e w' => e = .returned (.int .i64 (qBH a0_0 l0_1 l0_2 l0_3)) ∧ Below WA.heap.size WA w') :=
  ⟨by rw [hn1, hn2, hn3]; exact qAn.calls kr a0_0 A0_1 c0_1 l0_1 A0_2 c0_2 l0_2 A0_3 c0_3 l0_3 _ WA (Kd.C_below hr0_1 hBA) hc0_1 (Kd.C_below hr0_2 hBA) hc0_2 (Kd.C_below hr0_3 hBA) hc0_3 hkr⟩
 have HBA := am hBA
 have HC1 : qAf (Kd.C k71 WA A0_1 n1 l0_1) := ⟨hn1 ▸ Kd.C_below hr0_1 hBA⟩
 have HC2 : qAf (Kd.C k80 WA A0_2 n2 l0_2) := ⟨hn2 ▸ Kd.C_below hr0_2 hBA⟩
 have HC3 : qAf (Kd.C k82 WA A0_3 n3 l0_3) := ⟨hn3 ▸ Kd.C_below hr0_3 hBA⟩
 rw [← hn1, ← hn2, ← hn3]
 have HN1 := am hn1
 have HN2 := am hn2
 have HN3 := am hn3
 have HG := am hg
 obtain ⟨er, her⟩ : ∃ z, z = qBH a0_0 l0_1 l0_2 l0_3 := ⟨_, rfl⟩
 rw [← her] at HRT h
 have HER := am her
 rw [hOV] at hWA
 have HWA := am hWA
 clear hr0_1 hr0_2 hr0_3 hc0_1 hc0_2 hc0_3 hkr hBA k0 k1 k2 k3 hn1 hn2 hn3 hg her hWA hOV
 by_cases hz : er = 0
 case neg =>
  rw [if_pos hz] at h
  have h := Option.some.inj h
  obtain ⟨rfl, rfl⟩ : [] = r1 ∧ er = r2 := ⟨congrArg Prod.fst h, congrArg Prod.snd h⟩
  have hz' : (er != 0) = true := bne_iff_ne.mpr hz
  clear h hz
  go_enter Try.func9, Try.ntmps9
  go_wp2_with fail
  rw [← HWA.out]
  go_wp2_with fail
  refine HRT.out.mono ?_
  rintro e w1 ⟨rfl, hb⟩
  have HB1 := am hb
  clear hb
  go_wp2
  go_ret2
  exact ⟨_, rfl, Kd.R_nil _ _ _ _ _, qAw HBA.out HBA.out.size HB1.out⟩
 rw [if_neg (fun hh => hh hz)] at h
 have HRO := am (qD9.of (m := a0_0) (vars := l0_1) (fns := l0_2) (rels := l0_3) (HER.out.symm.trans hz))
 have HH := am h
 subst hz
 clear h
 go_enter Try.func9, Try.ntmps9
 go_wp2_with fail
 rw [← HWA.out]
 go_wp2_with fail
 refine HRT.out.mono ?_
 rintro e w1 ⟨rfl, hb⟩
 have HB1 := am hb
 clear hb
 obtain ⟨WM, hWM⟩ : ∃ WM, WM = (w1.alloc (.cells #[.slice none 0 0] 86)).alloc (.cells #[.int .u8 102, .int .u8 111, .int .u8 98, .int .u8 106] 5) := ⟨_, rfl⟩
 have hsM : WM.heap.size = w1.heap.size + 2 := by rw [hWM]; simp
 have hlM : WM.heap[w1.heap.size + 1]? = some (.cells #[.int .u8 102, .int .u8 111, .int .u8 98, .int .u8 106] 5 (0, 0)) := by
  rw [hWM]; simpa using heap_alloc_new (w1.alloc (.cells #[.slice none 0 0] 86)) (.cells #[.int .u8 102, .int .u8 111, .int .u8 98, .int .u8 106] 5)
 have hpM : WM.heap[w1.heap.size]? = some (.cells #[.slice none 0 0] 86 (0, 0)) := by
  rw [hWM]; exact qAR (heap_alloc_new w1 _) _
 have hcv := conv_mark WM (w1.heap.size + 1) 4 4 _ hlM rfl
 obtain ⟨WF, hWF⟩ : ∃ WF, WF = WM.freeze ⟨w1.heap.size + 1, 4, none⟩ 1 := ⟨_, rfl⟩
 have hsF : WF.heap.size = w1.heap.size + 2 := by rw [hWF, qDI]; exact hsM
 have hlF : WF.heap[w1.heap.size + 1]? = some (.cells #[.int .u8 102, .int .u8 111, .int .u8 98, .int .u8 106] 5 (4, 5)) := hWF ▸ freeze_at WM _ 4 _ hlM
 have hpF : WF.heap[w1.heap.size]? = some (.cells #[.slice none 0 0] 86 (0, 0)) := by
  rw [hWF, qCI _ _ _ _ (by show w1.heap.size ≠ w1.heap.size + 1; omega)]; exact hpM
 have hBF : Below WA.heap.size WA WF := by
  rw [hWF, hWM]
  exact freeze_below ((HB1.out.alloc HB1.out.size _).alloc (by have := HB1.out.size; simp; omega) _) _ _ (by have := HB1.out.size; show WA.heap.size ≤ w1.heap.size + 1; omega)
 have HKF : qAf (WK WA w1.heap.size WF (.slice none 0 0) []) := ⟨⟨⟨(qAb hpF 0).trans rfl, qAc hpF 0, World.ownsRow_nil _ _ _ _, fun k hk => by cases hk⟩, hBF, HB1.out.size, fun k hk => by cases hk⟩⟩
 have HLF : qAf (∀ W' v', qAD w1.heap.size WF (.slice none 0 0) W' v' → W'.cell? ⟨w1.heap.size + 1, 0, none⟩ = some (.int .u8 102) ∧ W'.cell? ⟨w1.heap.size + 1, 1, none⟩ = some (.int .u8 111) ∧ W'.cell? ⟨w1.heap.size + 1, 2, none⟩ = some (.int .u8 98) ∧ W'.cell? ⟨w1.heap.size + 1, 3, none⟩ = some (.int .u8 106)) := ⟨fun W' v' hs => by
   have g : ∀ i, W'.cell? ⟨w1.heap.size + 1, i, none⟩ = WF.cell? ⟨w1.heap.size + 1, i, none⟩ := fun i => hs.cell (a := ⟨w1.heap.size + 1, i, none⟩) (by rw [hsF]; exact Nat.lt_succ_self _) (Nat.succ_ne_self _) (by simp [Value.ownBlock])
   exact ⟨by rw [g 0]; simp [World.cell?, hlF], by rw [g 1]; simp [World.cell?, hlF], by rw [g 2]; simp [World.cell?, hlF], by rw [g 3]; simp [World.cell?, hlF]⟩⟩
 have HWM := am hWM
 have HWF := am hWF
 rw [← hWF, hWM] at hcv
 clear hsM hlM hpM hWF hsF hlF hpF hBF hWM HRT
 go_wp2_with fail
 go_loopg [7, 21] 4 (fun gg _ s21 wr => ∃ (kk : Nat) (v' : Value), kk ≤ 4 ∧ 4 - kk ≤ gg ∧ s21 = .int .i64 kk ∧ qAf (WK WA w1.heap.size wr v' (([102, 111, 98, 106] : List Int).take kk)) ∧ qAf (qAD w1.heap.size WF (.slice none 0 0) wr v'))
 case atStart => exact ⟨0, .slice none 0 0, by omega, by omega, rfl, HKF, ⟨qAD.refl _ _ _⟩⟩
 case round =>
  clear hcv
  obtain ⟨kk, v', hkk, hg, rfl, HK, HS⟩ := hrel
  have hcase : kk = 0 ∨ kk = 1 ∨ kk = 2 ∨ kk = 3 ∨ kk = 4 := by omega
  rcases hcase with rfl | rfl | rfl | rfl | rfl
  ·obtain ⟨z0, z1, z2, z3⟩ := HLF.out wr v' HS.out
   go_wp2_with fail
   refine (qBt w1.heap.size 102 v' _ wr HK.out.st (by simp)).mono ?_
   rintro e w2 ⟨v2, rfl, hst, hs⟩
   have HK2 : qAf (WK WA w1.heap.size w2 v2 (([102, 111, 98, 106] : List Int).take 1)) := ⟨HK.out.step hst hs⟩
   have HS2 := am (HS.out.trans hs)
   clear hst hs z0 z1 z2 z3
   go_wp2
   go_roundg (4 - 1)
   case measure => omega
   case rel => exact ⟨1, v2, by omega, by omega, rfl, HK2, HS2⟩
  ·obtain ⟨z0, z1, z2, z3⟩ := HLF.out wr v' HS.out
   go_wp2_with fail
   refine (qBt w1.heap.size 111 v' _ wr HK.out.st (by simp)).mono ?_
   rintro e w2 ⟨v2, rfl, hst, hs⟩
   have HK2 : qAf (WK WA w1.heap.size w2 v2 (([102, 111, 98, 106] : List Int).take 2)) := ⟨HK.out.step hst hs⟩
   have HS2 := am (HS.out.trans hs)
   clear hst hs z0 z1 z2 z3
   go_wp2
   go_roundg (4 - 2)
   case measure => omega
   case rel => exact ⟨2, v2, by omega, by omega, rfl, HK2, HS2⟩
  ·obtain ⟨z0, z1, z2, z3⟩ := HLF.out wr v' HS.out
   go_wp2_with fail
   refine (qBt w1.heap.size 98 v' _ wr HK.out.st (by simp)).mono ?_
   rintro e w2 ⟨v2, rfl, hst, hs⟩
   have HK2 : qAf (WK WA w1.heap.size w2 v2 (([102, 111, 98, 106] : List Int).take 3)) := ⟨HK.out.step hst hs⟩
   have HS2 := am (HS.out.trans hs)
   clear hst hs z0 z1 z2 z3
   go_wp2
   go_roundg (4 - 3)
   case measure => omega
   case rel => exact ⟨3, v2, by omega, by omega, rfl, HK2, HS2⟩
  ·obtain ⟨z0, z1, z2, z3⟩ := HLF.out wr v' HS.out
   go_wp2_with fail
   refine (qBt w1.heap.size 106 v' _ wr HK.out.st (by simp)).mono ?_
   rintro e w2 ⟨v2, rfl, hst, hs⟩
   have HK2 : qAf (WK WA w1.heap.size w2 v2 (([102, 111, 98, 106] : List Int).take 4)) := ⟨HK.out.step hst hs⟩
   have HS2 := am (HS.out.trans hs)
   clear hst hs z0 z1 z2 z3
   go_wp2
   go_roundg (4 - 4)
   case measure => omega
   case rel => exact ⟨4, v2, by omega, by omega, rfl, HK2, HS2⟩
  have HK4 : qAf (WK WA w1.heap.size wr v' [102, 111, 98, 106]) := ⟨HK.out⟩
  clear HK HS HKF HLF hg hkk
  obtain ⟨q0, q1, q2, q3⟩ := HBX.out wr HK4.out.below
  have hmS : a0_0.size ≤ 32 := Names.size_le_of_ok HRO.out.m
  go_wp2_with fail
  refine (qCZ w1.heap.size a0_0 v' _ wr HK4.out.st (by simp) (by omega)).mono ?_
  rintro e w5 ⟨v5, rfl, hst, hs⟩
  have HK5 := am (HK4.out.step hst hs)
  obtain ⟨b5, hb5⟩ : ∃ b : List Int, b = [102, 111, 98, 106] ++ rawB (qBv a0_0) := ⟨_, rfl⟩
  rw [← hb5] at HK5
  have HB5 := am hb5
  have HL5 : qAf (b5.length ≤ 40) := ⟨by rw [hb5, List.length_append, qBC]; simp; omega⟩
  clear hst hs q0 q1 q2 q3 hb5 HK4
  have HV : qAf (∀ x ∈ l0_1, qBg x.f0 ∧ 0 ≤ x.f1.f1 ∧ x.f1.f1 < 18446744073709551616) := ⟨fun x hx => ⟨Names.size_le_of_ok (HRO.out.v x hx).1, (HG.out.v x hx).2⟩⟩
  have HF : qAf (∀ x ∈ l0_2, qBg x.f0 ∧ okFnS x) := ⟨fun x hx => ⟨Names.size_le_of_ok (HRO.out.f x hx).1, by
    obtain ⟨g1, g2, g3, g4⟩ := qD6 (HRO.out.f x hx).2
    exact ⟨g1, g2, g3, g4, (HG.out.f x hx).2.2.2.2⟩⟩⟩
  have HRL : qAf (∀ x ∈ l0_3, qBg x.f3 ∧ qBg x.f4 ∧ 0 ≤ x.f0 ∧ x.f0 ≤ 9223372036854775807 ∧ 0 ≤ x.f1 ∧ x.f1 ≤ 9223372036854775807) := ⟨fun x hx => by
    obtain ⟨g0, g1, g2, g3⟩ := HRO.out.at_ x hx
    exact ⟨Names.size_le_of_ok (HRO.out.r x hx).1, Names.size_le_of_ok (HRO.out.r x hx).2, g0, by omega, g2, by omega⟩⟩
  have HNV : qAf (l0_1.length ≤ 64 ∧ l0_2.length ≤ 64 ∧ l0_3.length ≤ 262144) := ⟨by have := HRO.out.n; omega, by have := HRO.out.n; omega, HRO.out.rels⟩
  have HLV : qAf ((be l0_1.length 4 4 ++ l0_1.flatMap varB).length ≤ 2884) := ⟨by
    have h1 := qC5 varB l0_1 45 fun y hy => varB_len y (HV.out y hy).1
    have := HNV.out.1
    rw [List.length_append, qA8]; omega⟩
  have HLF2 : qAf ((be l0_2.length 4 4 ++ l0_2.flatMap nfnB).length ≤ 2630404) := ⟨by
    have h1 := qC5 nfnB l0_2 41100 fun y hy => nfnB_len y (HF.out y hy).1 (HF.out y hy).2
    have := HNV.out.2.1
    rw [List.length_append, qA8]; omega⟩
  have HLR : qAf ((be l0_3.length 4 4 ++ l0_3.flatMap relB).length ≤ 20185092) := ⟨by
    have h1 := qC5 relB l0_3 77 fun y hy => relB_len y (HRL.out y hy).1 (HRL.out y hy).2.1
    have := HNV.out.2.2
    rw [List.length_append, qA8]; omega⟩
  go_wp2_with fail
  go_loopg [10, 42] 3 (fun gg _ s42 wr => ∃ (kk : Nat) (v' : Value), kk ≤ 3 ∧ 3 - kk ≤ gg ∧ s42 = .int .i64 kk ∧ qAf (WK WA w1.heap.size wr v' (accP b5 l0_1 l0_2 l0_3 kk)))
  case atStart => exact ⟨0, v5, by omega, by omega, rfl, ⟨HK5.out.alloc _⟩⟩
  case round =>
   clear HK5
   obtain ⟨kk, v', hkk, hg, rfl, HK⟩ := hrel
   have hcase : kk = 0 ∨ kk = 1 ∨ kk = 2 ∨ kk = 3 := by omega
   rcases hcase with rfl | rfl | rfl | rfl
   ·have hix := idx3_0 (.func (.func 32) #[.agg #[.pointer (some ⟨w1.heap.size, 0, none⟩)]] #[]) (.func (.func 33) #[.agg #[.pointer (some ⟨w1.heap.size, 0, none⟩)]] #[]) (.func (.func 34) #[.agg #[.pointer (some ⟨w1.heap.size, 0, none⟩)]] #[]) wr
    replace HK : qAf (WK WA w1.heap.size wr v' (b5)) := HK
    obtain ⟨q0, q1, q2, q3⟩ := HBX.out wr HK.out.below
    go_wp2_with fail
    refine (vars_any w1.heap.size a0_0 A0_1 n1 c0_1 A0_2 n2 c0_2 A0_3 n3 c0_3 l0_1 v' _ WA wr HK.out HN1.out.symm HC1.out HNV.out.1 HV.out (by have := HL5.out; omega)).mono ?_
    rintro e w2 ⟨v2, rfl, hst, hs⟩
    have HK2 : qAf (WK WA w1.heap.size w2 v2 (accP b5 l0_1 l0_2 l0_3 1)) := ⟨HK.out.step hst hs⟩
    clear hst hs q0 q1 q2 q3
    go_wp2
    go_roundg (3 - 1)
    case measure => omega
    case rel => exact ⟨1, v2, by omega, by omega, rfl, HK2⟩
   ·have hix := idx3_1 (.func (.func 32) #[.agg #[.pointer (some ⟨w1.heap.size, 0, none⟩)]] #[]) (.func (.func 33) #[.agg #[.pointer (some ⟨w1.heap.size, 0, none⟩)]] #[]) (.func (.func 34) #[.agg #[.pointer (some ⟨w1.heap.size, 0, none⟩)]] #[]) wr
    replace HK : qAf (WK WA w1.heap.size wr v' (b5 ++ (be l0_1.length 4 4 ++ l0_1.flatMap varB))) := HK
    obtain ⟨q0, q1, q2, q3⟩ := HBX.out wr HK.out.below
    go_wp2_with fail
    refine (fns_any w1.heap.size a0_0 A0_1 n1 c0_1 A0_2 n2 c0_2 A0_3 n3 c0_3 l0_2 v' _ WA wr HK.out HN2.out.symm HC2.out HNV.out.2.1 HF.out (by have := HL5.out; have := HLV.out; rw [List.length_append]; omega)).mono ?_
    rintro e w2 ⟨v2, rfl, hst, hs⟩
    have HK2 : qAf (WK WA w1.heap.size w2 v2 (accP b5 l0_1 l0_2 l0_3 2)) := ⟨HK.out.step hst hs⟩
    clear hst hs q0 q1 q2 q3
    go_wp2
    go_roundg (3 - 2)
    case measure => omega
    case rel => exact ⟨2, v2, by omega, by omega, rfl, HK2⟩
   ·have hix := idx3_2 (.func (.func 32) #[.agg #[.pointer (some ⟨w1.heap.size, 0, none⟩)]] #[]) (.func (.func 33) #[.agg #[.pointer (some ⟨w1.heap.size, 0, none⟩)]] #[]) (.func (.func 34) #[.agg #[.pointer (some ⟨w1.heap.size, 0, none⟩)]] #[]) wr
    replace HK : qAf (WK WA w1.heap.size wr v' (b5 ++ (be l0_1.length 4 4 ++ l0_1.flatMap varB) ++ (be l0_2.length 4 4 ++ l0_2.flatMap nfnB))) := HK
    obtain ⟨q0, q1, q2, q3⟩ := HBX.out wr HK.out.below
    go_wp2_with fail
    refine (rels_any w1.heap.size a0_0 A0_1 n1 c0_1 A0_2 n2 c0_2 A0_3 n3 c0_3 l0_3 v' _ WA wr HK.out HN3.out.symm HC3.out HNV.out.2.2 HRL.out (by have := HL5.out; have := HLV.out; have := HLF2.out; rw [List.length_append, List.length_append]; omega)).mono ?_
    rintro e w2 ⟨v2, rfl, hst, hs⟩
    have HK2 : qAf (WK WA w1.heap.size w2 v2 (accP b5 l0_1 l0_2 l0_3 3)) := ⟨HK.out.step hst hs⟩
    clear hst hs q0 q1 q2 q3
    go_wp2
    go_roundg (3 - 3)
    case measure => omega
    case rel => exact ⟨3, v2, by omega, by omega, rfl, HK2⟩
   have HP : qAf (WK WA w1.heap.size wr v' (qBX a0_0 l0_1 l0_2 l0_3)) := ⟨by
     have e : qBX a0_0 l0_1 l0_2 l0_3 = accP b5 l0_1 l0_2 l0_3 3 := by
       show _ = b5 ++ (be l0_1.length 4 4 ++ l0_1.flatMap varB) ++ (be l0_2.length 4 4 ++ l0_2.flatMap nfnB) ++ (be l0_3.length 4 4 ++ l0_3.flatMap relB)
       rw [HB5.out]; unfold qBX; simp only [List.append_assoc]
     rw [e]; exact HK.out⟩
   have HPL : qAf ((qBX a0_0 l0_1 l0_2 l0_3).length ≤ 30000000) := ⟨by
     have e : qBX a0_0 l0_1 l0_2 l0_3 = b5 ++ (be l0_1.length 4 4 ++ l0_1.flatMap varB) ++ (be l0_2.length 4 4 ++ l0_2.flatMap nfnB) ++ (be l0_3.length 4 4 ++ l0_3.flatMap relB) := by
       rw [HB5.out]; unfold qBX; simp only [List.append_assoc]
     have := HL5.out; have := HLV.out; have := HLF2.out; have := HLR.out
     rw [e, List.length_append, List.length_append, List.length_append]; omega⟩
   clear HK hg hkk
   obtain ⟨pb, hpb⟩ : ∃ pb, pb = qBX a0_0 l0_1 l0_2 l0_3 := ⟨_, rfl⟩
   rw [← hpb] at HP HPL HH
   clear hpb
   go_wp2_with fail
   refine (len_any w1.heap.size v' _ wr HP.out.st).mono ?_
   rintro e w6 ⟨rfl, rfl⟩
   by_cases hbig : 16384 < pb.length
   ·have hbig' : decide (16384 < (pb.length : Int)) = true := decide_eq_true (by omega)
    have H2 := HH.out
    rw [if_pos hbig] at H2
    have H2 := Option.some.inj H2
    obtain ⟨rfl, rfl⟩ : [] = r1 ∧ 3 = r2 := ⟨congrArg Prod.fst H2, congrArg Prod.snd H2⟩
    clear H2 HH
    go_wp2
    go_ret2
    exact ⟨_, rfl, Kd.R_nil _ _ _ _ _, qAw HBA.out HBA.out.size HP.out.below⟩
   have hbig' : decide (16384 < (pb.length : Int)) = false := decide_eq_false (by omega)
   have H2 := HH.out
   rw [if_neg hbig] at H2
   have H2 := Option.some.inj H2
   obtain ⟨rfl, rfl⟩ : pb = r1 ∧ 0 = r2 := ⟨congrArg Prod.fst H2, congrArg Prod.snd H2⟩
   clear H2 HH
   go_wp2_with fail
   refine (bytes_any w1.heap.size v' _ wr HP.out.st (by have := HPL.out; omega)).mono ?_
   rintro e w7 ⟨x, rfl, hown, hb⟩
   have HOW := am hown
   have HB7 := am hb
   clear hown hb
   go_wp2
   go_ret2
   exact ⟨x, rfl, Kd.R_lower (Kd.R_of_own HOW.out (fun _ _ => trivial)) (Nat.le_trans HBA.out.size HP.out.below.size), qAw HBA.out HBA.out.size (qAw HP.out.below HP.out.below.size HB7.out)⟩
end Q
end
section
namespace Q
open Go.RowKit PA PB PC
theorem RdB.form {W : World} {b0 g : Nat} {bs : List Int} {v : Value} (h : RdB W b0 g bs v) : ∃ A c, v = .slice A bs.length c := by
 rcases h with ⟨rfl, A, c, rfl⟩ | ⟨gb, o, c, _, _, _, rfl, _⟩
 ·exact ⟨A, c, rfl⟩
 exact ⟨_, c, rfl⟩
def qAL.f (s0_0 : List Int) (s0_1 : Int) (s0_2 : Int) : Option (Int × Int × Int) := some (if s0_2 = 0 then s0_0.length - s0_1 else 0, s0_1, s0_2)
theorem qAL.calls (g : Nat) (s0_0 : List Int) (s0_1 : Int) (s0_2 : Int) (r1 : Int) (r2 : Int) (r3 : Int) (w0 w : World) (hI : qAe w0 w g s0_0 s0_1 s0_2) (hB : Below w0.heap.size w0 w) (h : qAL.f s0_0 s0_1 s0_2 = some (r1, r2, r3)) :
  Calls Try.prog 78 #[.pointer (some ⟨g, 0, none⟩)] w fun e w' => e = .returned (.int .i64 r1) ∧ qAe w0 w' g s0_0 r2 r3 ∧ Below w0.heap.size w0 w' ∧ qAd w w' g none := by
 unfold qAL.f at h
 simp only [Option.some.injEq, Prod.mk.injEq] at h
 obtain ⟨rfl, rfl, rfl⟩ := h
 have HI := am hI
 have HB := am hB
 obtain ⟨_, h1, h2, h3, v, hb, hr⟩ := hI
 obtain ⟨A, c, rfl⟩ := hr.form
 have c0 : w.cell? ⟨g, 0, none⟩ = some _ := (qAb hb 0).trans rfl
 have c1 : w.cell? ⟨g, 1, none⟩ = some _ := (qAb hb 1).trans rfl
 have hl : ((s0_0.drop s0_1.toNat).length : Int) = s0_0.length - s0_1 := by rw [List.length_drop]; omega
 have HL := am hl
 clear hl hr hb hB h1 h2 h3
 by_cases he : s0_2 = 0
 ·subst he
  go_enter Try.func78, Try.ntmps78
  go_wp2
  go_ret
  exact ⟨(by have hl := HL.out; rw [List.length_drop] at hl; exact congrArg (fun x : Int => Ending.returned (.int .i64 x)) hl), HI.out, HB.out, qAd.refl _ _ _⟩
 ·have hb0 : (s0_2 != 0) = true := bne_iff_ne.mpr he
  rw [if_neg he]
  clear he
  go_enter Try.func78, Try.ntmps78
  go_wp2
  go_ret
  exact ⟨rfl, HI.out, HB.out, qAd.refl _ _ _⟩
def qAv.f (_ : List Int) (s0_1 : Int) (s0_2 : Int) : Option (Int × Int × Int) := some (s0_2, s0_1, s0_2)
theorem qAv.calls (g : Nat) (s0_0 : List Int) (s0_1 : Int) (s0_2 : Int) (r1 : Int) (r2 : Int) (r3 : Int) (w0 w : World) (hI : qAe w0 w g s0_0 s0_1 s0_2) (hB : Below w0.heap.size w0 w) (h : qAv.f s0_0 s0_1 s0_2 = some (r1, r2, r3)) :
  Calls Try.prog 24 #[.pointer (some ⟨g, 0, none⟩)] w fun e w' => e = .returned (.int .i64 r1) ∧ qAe w0 w' g s0_0 r2 r3 ∧ Below w0.heap.size w0 w' ∧ qAd w w' g none := by
 unfold qAv.f at h
 simp only [Option.some.injEq, Prod.mk.injEq] at h
 obtain ⟨rfl, rfl, rfl⟩ := h
 have HI := am hI
 have HB := am hB
 obtain ⟨_, h1, h2, h3, v, hb, hr⟩ := hI
 have c1 : w.cell? ⟨g, 1, none⟩ = some _ := (qAb hb 1).trans rfl
 clear hr hb hB h1 h2 h3
 go_enter Try.func24, Try.ntmps24
 go_wp2
 go_ret
 exact ⟨rfl, HI.out, HB.out, qAd.refl _ _ _⟩
theorem qAe.set_e {w0 W : World} {g : Nat} {f0 : List Int} {f1 f2 : Int} (h : qAe w0 W g f0 f1 f2) (x : Int) : qAe w0 (W.setCell ⟨g, 1, none⟩ (.int .i64 x)) g f0 f1 x := by
 obtain ⟨h0, h1, h2, h3, v, hb, hr⟩ := h
 refine ⟨h0, h1, h2, h3, v, by simpa using qB5 hb 1 (.int .i64 x), hr.move fun gb cells hc => Below.heap_setCell W _ _ gb ?_⟩
 rintro rfl
 rw [hb] at hc
 injection hc with hc
 injection hc with _ hc
 exact absurd hc (by decide)
def qAy.f (_ : List Int) (s0_1 : Int) (s0_2 : Int) (a1 : Int) : Option (Int × Int) := some (s0_1, if s0_2 = 0 then a1 else s0_2)
theorem qAy.calls (g : Nat) (s0_0 : List Int) (s0_1 : Int) (s0_2 : Int) (a1 : Int) (r1 : Int) (r2 : Int) (w0 w : World) (hI : qAe w0 w g s0_0 s0_1 s0_2) (hB : Below w0.heap.size w0 w) (h : qAy.f s0_0 s0_1 s0_2 a1 = some (r1, r2)) :
  Calls Try.prog 21 #[.pointer (some ⟨g, 0, none⟩), .int .i64 a1] w fun e w' => e = .returned (.tuple #[]) ∧ qAe w0 w' g s0_0 r1 r2 ∧ Below w0.heap.size w0 w' ∧ qAd w w' g none := by
 unfold qAy.f at h
 simp only [Option.some.injEq, Prod.mk.injEq] at h
 obtain ⟨rfl, rfl⟩ := h
 have HI := am hI
 have HB := am hB
 obtain ⟨_, h1, h2, h3, v, hb, hr⟩ := hI
 have c1 : w.cell? ⟨g, 1, none⟩ = some _ := (qAb hb 1).trans rfl
 have f1 := qAc hb 1
 clear hr hb hB h1 h2 h3
 by_cases he : s0_2 = 0
 ·subst he
  go_enter Try.func21, Try.ntmps21
  go_wp2
  go_end0
  exact ⟨rfl, by simpa using HI.out.set_e a1, qAq HB.out HI.out.ge, qAd.set_ (qAd.refl _ _ _) _ _⟩
 ·have hb0 : (s0_2 == 0) = false := beq_eq_false_iff_ne.mpr he
  rw [if_neg he]
  clear he
  go_enter Try.func21, Try.ntmps21
  go_wp2
  go_end0
  exact ⟨rfl, HI.out, HB.out, qAd.refl _ _ _⟩
theorem RdB.some_ {W : World} {b0 g : Nat} {bs : List Int} {v : Value} (h : RdB W b0 g bs v) (hn : 0 < bs.length) :
  ∃ (gb o c : Nat) (cells : Array Value), b0 ≤ gb ∧ gb < g ∧ v = .slice (some ⟨gb, o, none⟩) bs.length c ∧ bs.length ≤ c ∧ W.heap[gb]? = some (.cells cells 5 (0, 0)) ∧ (∀ (j : Nat) (y : Int), bs[j]? = some y → cells[o + j]? = some (Value.int .u8 y)) := by
 rcases h with ⟨rfl, _⟩ | ⟨gb, o, c, cells, h1, h1', h2, _, h3, h4, h5⟩
 ·simp at hn
 ·exact ⟨gb, o, c, cells, h1, h1', h2, h3, h4, h5⟩
theorem qAe.set_b {w0 W : World} {g : Nat} {f0 : List Int} {f1 f2 f1' : Int} {v : Value} (h : qAe w0 W g f0 f1 f2) (h0 : 0 ≤ f1') (h1 : f1' ≤ f0.length) (hr : RdB W w0.heap.size g (f0.drop f1'.toNat) v) : qAe w0 (W.setCell ⟨g, 0, none⟩ v) g f0 f1' f2 := by
 obtain ⟨hg, _, _, h3, u, hb, _⟩ := h
 refine ⟨hg, h0, h1, h3, v, by simpa using qB5 hb 0 v, hr.move fun gb cells hc => Below.heap_setCell W _ _ gb ?_⟩
 rintro rfl
 rw [hb] at hc
 injection hc with hc
 injection hc with _ hc
 exact absurd hc (by decide)
theorem qBE (g : Nat) (f0 : List Int) (p e : Int) (n : Nat) (w0 w : World) (hn : 0 < n) (hle : p + n ≤ f0.length) (hI : qAe w0 w g f0 p e) :
  Calls Try.prog 69 #[.pointer (some ⟨g, 0, none⟩), .int .i64 n] w fun e' w' => ∃ A c v, e' = .returned (.slice A n c) ∧ n ≤ c ∧ Kd.C (Kd.int .u8) w' A n ((f0.drop p.toNat).take n) ∧ qAe w0 w' g f0 (p + n) e ∧ w' = w.setCell ⟨g, 0, none⟩ v := by
 have HI := am hI
 obtain ⟨_, h1, h2, h3, v, hb, hr⟩ := hI
 have hlen : (f0.drop p.toNat).length = f0.length - p.toNat := List.length_drop
 obtain ⟨gb, o, c, cells, hb0, hbg, rfl, hc, hcb, hcells⟩ := hr.some_ (by omega)
 have hgb : g ≠ gb := by
  rintro rfl
  rw [hb] at hcb
  injection hcb with hcb
  injection hcb with _ hcb
  exact absurd hcb (by decide)
 have c0 : w.cell? ⟨g, 0, none⟩ = some _ := (qAb hb 0).trans rfl
 have f0z := qAc hb 0
 obtain ⟨m, hm⟩ : ∃ m, m = (f0.drop p.toNat).length := ⟨_, rfl⟩
 have hnm : n ≤ m := by omega
 have hml : m ≤ 9223372036854775807 := by omega
 rw [← hm] at c0 hc
 have hC : ∀ v, Kd.C (Kd.int .u8) (w.setCell ⟨g, 0, none⟩ v) (some ⟨gb, o, none⟩) n ((f0.drop p.toNat).take n) := fun v => by
  have hb' : (w.setCell ⟨g, 0, none⟩ v).heap[gb]? = some (.cells cells 5 (0, 0)) := qA4 hcb (Ne.symm hgb) v
  refine ⟨by rw [List.length_take]; omega, by omega, fun _ => ⟨_, rfl, fun j y hj => ⟨[.int .u8 y], rfl, rfl, fun i u hu => ?_⟩⟩⟩
  have hjn : (f0.drop p.toNat)[j]? = some y := by
   rw [List.getElem?_take] at hj
   split at hj
   ·exact hj
   cases hj
  match i, hu with
  | 0, hu =>
   injection hu with hu; subst hu
   have hadd : (⟨gb, o, none⟩ : Addr).add (j * (Kd.int .u8).sz + 0) = ⟨gb, o + j, none⟩ := by
    rw [show j * (Kd.int .u8).sz + 0 = j from Nat.mul_one j]; unfold Addr.add; split <;> simp_all
   rw [hadd, qAb hb']
   exact hcells j y hjn
 have hdrop : f0.drop (p + n).toNat = (f0.drop p.toNat).drop n := by rw [List.drop_drop]; congr 1; omega
 have hS : ∀ o' c', (n < m → o' = o + n ∧ c' = c - n) → qAe w0 (w.setCell ⟨g, 0, none⟩ (.slice (some ⟨gb, o', none⟩) (m - n) c')) g f0 (p + n) e := fun o' c' ho => by
  refine HI.out.set_b (by omega) hle ?_
  rw [hdrop]
  have hdl : ((f0.drop p.toNat).drop n).length = m - n := by rw [List.length_drop, ← hm]
  by_cases hlt : n < m
  rotate_left
  ·refine .inl ⟨List.length_eq_zero_iff.1 (by omega), some ⟨gb, o', none⟩, c', ?_⟩
   rw [show m - n = 0 by omega]
  obtain ⟨rfl, rfl⟩ := ho hlt
  refine .inr ⟨gb, o + n, c - n, cells, hb0, hbg, by rw [hdl], by omega, by omega, hcb, fun j y hj => ?_⟩
  rw [List.getElem?_drop] at hj
  rw [Nat.add_assoc]; exact hcells _ y hj
 have HC := am hC
 have HS := am hS
 have hx1 : decide ((m : Int) < (n : Int)) = false := by simp; omega
 clear hC hS hr hcells hlen hdrop hcb hb hm
 by_cases hcn : c = n
 ·subst hcn
  obtain rfl : m = c := by omega
  go_enter Try.func69, Try.ntmps69
  go_wp2
  go_ret
  exact ⟨some ⟨gb, o, none⟩, m, _, rfl, Nat.le_refl _, HC.out _, by simpa using HS.out o 0 (fun h => absurd h (Nat.lt_irrefl _)), rfl⟩
 ·go_enter Try.func69, Try.ntmps69
  go_wp2
  go_ret
  exact ⟨some ⟨gb, o, none⟩, c, _, rfl, by omega, HC.out _, HS.out _ _ (fun _ => ⟨rfl, rfl⟩), rfl⟩
theorem qB7 (g : Nat) (f0 : List Int) (p e : Int) (n : Nat) (w0 w : World) (hle : f0.length < p + n) (hI : qAe w0 w g f0 p e) :
  Calls Try.prog 69 #[.pointer (some ⟨g, 0, none⟩), .int .i64 n] w fun e' w' => e' = .panicked [{ v := .iface 179 (.int .i64 40), recovered := false }] ∧ w' = w := by
 obtain ⟨_, h1, h2, h3, v, hb, hr⟩ := hI
 obtain ⟨A, c, rfl⟩ := hr.form
 have c0 : w.cell? ⟨g, 0, none⟩ = some _ := (qAb hb 0).trans rfl
 have hlen : (f0.drop p.toNat).length = f0.length - p.toNat := List.length_drop
 obtain ⟨m, hm⟩ : ∃ m, m = (f0.drop p.toNat).length := ⟨_, rfl⟩
 rw [← hm] at c0 hlen
 have hx1 : decide (m < n) = true := by simp; omega
 clear hm hlen hr hb hle h1 h2 h3
 go_enter Try.func69, Try.ntmps69
 go_wp2
 exact ⟨rfl, rfl, rfl⟩
theorem qBN {P : Program} {c : Code} {Q : Exit → Act → World → Prop} {a : Act} {w : World} (h : ∀ Q' : Exit → Act → World → Prop, (∀ e a w, Q e a w → Q' e a w) → c.wp P Q' a w) : c.wp P Q a w := h Q (fun _ _ _ h => h)
theorem qDD (p q : Addr) (w : World) :
  CallsD Try.prog 107 #[.pointer (some p), .pointer (some q)] .returning w fun e u' w' => e = .returned (.tuple #[]) ∧ u' = .returning ∧ w' = w := by
 refine callsD_of_wpS Try.func107 rfl fun c₀ cs hu => ?_
 apply wpS_seq
 apply wpS_region
 simp [wpOpsS, go_sem, recoverD, hu, Try.ntmps107, Exit.thenS]
 refine wpS_of_wp (qBN fun Q' hQ => ?_)
 have HQ := am hQ
 clear hQ
 rw [show ((#[Value.pointer (some p), Value.pointer (some q)] : Array Value) ++ (Array.replicate 15 undef).setIfInBounds 4 Value.nilIface) = #[.pointer (some p), .pointer (some q), undef, undef, undef, undef, .nilIface, undef, undef, undef, undef, undef, undef, undef, undef, undef, undef] from rfl]
 go_wp2
 refine HQ.out _ _ _ ?_
 cases c₀
 simp_all [bodyPostS, results, Try.results107]
theorem qDf (bv g bq : Nat) (x k : Int) (v : Value) (older : List PanicEntry) (w : World) (hp : w.cell? ⟨bv, 0, none⟩ = some (.int .u8 x)) (hz : w.frozen? ⟨bv, 0, none⟩ = false) (hq : w.cell? ⟨bq, 0, none⟩ = some (.pointer (some ⟨g, 0, none⟩))) (hg : w.heap[g]? = some (.cells #[v, .int .i64 0] 144 (0, 0))) (hpg : bv ≠ g) (hpq : bv ≠ bq) :
  CallsD Try.prog 107 #[.pointer (some ⟨bv, 0, none⟩), .pointer (some ⟨bq, 0, none⟩)] (.panicking ({ v := .iface 179 (.int .i64 k), recovered := false } :: older)) w fun e u' w' =>
   e = .returned (.tuple #[]) ∧ u' = .panicking ({ v := .iface 179 (.int .i64 k), recovered := true } :: older) ∧ w' = (w.setCell ⟨bv, 0, none⟩ (.int .u8 0)).setCell ⟨g, 1, none⟩ (.int .i64 k) := by
 have hta : ∀ (v : Value) (W : World), (Instr.typeAssert (.iface 179 v) 20 179 true).run Try.prog W = .ok (.tuple #[v, .bool true]) W := fun v W => by rfl
 have c1 : (w.setCell ⟨bv, 0, none⟩ (.int .u8 0)).cell? ⟨g, 1, none⟩ = some (.int .i64 0) := (World.cell?_setCell_other _ _ _ _ (by intro e; injection e with e; exact hpg e)).trans ((qAb hg 1).trans rfl)
 have f1 : (w.setCell ⟨bv, 0, none⟩ (.int .u8 0)).frozen? ⟨g, 1, none⟩ = false := (World.frozen?_setCell _ _ _ _).trans (qAc hg 1)
 have q1 : (w.setCell ⟨bv, 0, none⟩ (.int .u8 0)).cell? ⟨bq, 0, none⟩ = some (.pointer (some ⟨g, 0, none⟩)) := (World.cell?_setCell_other _ _ _ _ (by intro e; injection e with e; exact hpq e)).trans hq
 refine callsD_of_wpS Try.func107 rfl fun c₀ cs hu => ?_
 apply wpS_seq
 apply wpS_region
 simp [wpOpsS, go_sem, recoverD, hu, Try.ntmps107, Exit.thenS]
 refine wpS_of_wp (qBN fun Q' hQ => ?_)
 have HQ := am hQ
 clear hQ
 rw [show ((#[Value.pointer (some ⟨bv, 0, none⟩), Value.pointer (some ⟨bq, 0, none⟩)] : Array Value) ++ (Array.replicate 15 undef).setIfInBounds 4 (Value.iface 179 (.int .i64 k))) = #[.pointer (some ⟨bv, 0, none⟩), .pointer (some ⟨bq, 0, none⟩), undef, undef, undef, undef, .iface 179 (.int .i64 k), undef, undef, undef, undef, undef, undef, undef, undef, undef, undef] from rfl]
 go_wp2
 refine HQ.out _ _ _ ?_
 cases c₀
 simp_all [bodyPostS, results, Try.results107]
theorem qB9 {w W1 w4 : World} {g b j : Nat} (h1 : Below w.heap.size w W1) (hk : qAd W1 w4 g none) (hb : w.heap.size ≤ b) (u : Value) : qAd w (w4.setCell ⟨b, j, none⟩ u) g none := by
 refine ⟨?_, fun i hi hne _ => ?_⟩
 ·have := h1.size; have := hk.1; simp; omega
 rw [Below.heap_setCell _ _ _ i (by show i ≠ b; omega), hk.2 i (by have := h1.size; omega) hne (by simp)]
 exact h1.block i hi
theorem add_zero_ (ad : Addr) : ad.add (0 : Int).toNat = ad := by unfold Addr.add; cases ad; simp
theorem byte_fn_ok (b1 g : Nat) (f0 : List Int) (p e : Int) (w0 w : World) (hq : w.cell? ⟨b1, 0, none⟩ = some (.pointer (some ⟨g, 0, none⟩))) (hlt : p < f0.length) (hI : qAe w0 w g f0 p e) (hB : Below w0.heap.size w0 w) :
  Calls Try.prog 68 #[.pointer (some ⟨b1, 0, none⟩)] w fun e' w' => e' = .returned (.int .u8 (f0.getD p.toNat 0)) ∧ qAe w0 w' g f0 (p + 1) e ∧ Below w0.heap.size w0 w' ∧ qAd w w' g none := by
 have HI := am hI
 have HB := am hB
 clear hI hB
 go_enter Try.func68, Try.ntmps68
 have hv : rd ((f0.drop p.toNat).take 1) 0 = f0.getD p.toNat 0 := by
  unfold rd
  rw [List.getD_eq_getElem?_getD, List.getD_eq_getElem?_getD, List.getElem?_take, List.getElem?_drop]
  simp
 have HV := am hv
 clear hv
 go_wp2_with (go_at_call 69; refine (qBE g f0 p e 1 w0 w (by omega) (by omega) HI.out).mono ?_; rintro e' w' ⟨A, c, v, rfl, hc, hC, hi, hw⟩; have hk := hw ▸ qAd.set_ (qAd.refl w g none) 0 v; have HK := am hk; have HN := am hi; have HBN := am (hw ▸ qAq (g := g) (j := 0) (v := v) HB.out HI.out.ge); obtain ⟨ad, rfl, hx⟩ := Kd.at_int hC 0 (by omega) (by omega); have hx' := add_zero_ ad ▸ hx; clear hk hi hw hC hx)
 go_ret
 exact ⟨by rw [HV.out]; rfl, HN.out, HBN.out, HK.out⟩
theorem byte_fn_bad (b1 g : Nat) (f0 : List Int) (p e : Int) (w0 w : World) (hq : w.cell? ⟨b1, 0, none⟩ = some (.pointer (some ⟨g, 0, none⟩))) (hlt : f0.length ≤ p) (hI : qAe w0 w g f0 p e) :
  Calls Try.prog 68 #[.pointer (some ⟨b1, 0, none⟩)] w fun e' w' => e' = .panicked [{ v := .iface 179 (.int .i64 40), recovered := false }] ∧ w' = w := by
 have HI := am hI
 clear hI
 go_enter Try.func68, Try.ntmps68
 go_wp2_with (go_at_call 69; refine (qB7 g f0 p e 1 w0 w (by omega) HI.out).mono ?_; rintro e' w' ⟨rfl, rfl⟩)
 exact ⟨rfl, rfl, rfl⟩
theorem qDK (b1 g : Nat) (f0 : List Int) (p : Int) (w0 w : World) (hq : w.cell? ⟨b1, 0, none⟩ = some (.pointer (some ⟨g, 0, none⟩))) (hlt : p < f0.length) (hI : qAe w0 w g f0 p 0) (hB : Below w0.heap.size w0 w) :
  Calls Try.prog 67 #[.pointer (some ⟨g, 0, none⟩), .func (.func 68) #[] #[.pointer (some ⟨b1, 0, none⟩)]] w fun e w' => e = .returned (.int .u8 (f0.getD p.toNat 0)) ∧ qAe w0 w' g f0 (p + 1) 0 ∧ Below w0.heap.size w0 w' ∧ qAd w w' g none := by
 have HI := am hI
 have HB := am hB
 have HLT := am hlt
 have hgl := hI.lt
 have hb1 := World.block_lt_of_cell? w _ hq
 obtain ⟨_, h1, h2, h3, v, hb, hr⟩ := hI
 have c1 : w.cell? ⟨g, 1, none⟩ = some (.int .i64 0) := (qAb hb 1).trans rfl
 clear hb hr hB h1 h2 h3 hlt
 go_enter_defers Try.func67, Try.ntmps67
 have HB3 := am (((Below.refl w.heap.size w).alloc (Nat.le_refl _) (.cells #[.pointer (some ⟨g, 0, none⟩)] 59)).alloc (by simp) (.cells #[.int .u8 0] 5))
 have H3 : qAf (((w.alloc (.cells #[.pointer (some ⟨g, 0, none⟩)] 59)).alloc (.cells #[.int .u8 0] 5)).heap[w.heap.size + 1]? = some (.cells #[.int .u8 0] 5 (0, 0))) := ⟨by simpa using heap_alloc_new (w.alloc (.cells #[.pointer (some ⟨g, 0, none⟩)] 59)) (.cells #[.int .u8 0] 5)⟩
 obtain ⟨x, hx⟩ : ∃ x, x = f0.getD p.toNat 0 := ⟨_, rfl⟩
 have hfn := fun W (h1 : W.cell? ⟨b1, 0, none⟩ = some (.pointer (some ⟨g, 0, none⟩))) (h2 : qAe w0 W g f0 p 0) (h3 : Below w0.heap.size w0 W) => hx ▸ byte_fn_ok b1 g f0 p 0 w0 W h1 HLT.out h2 h3
 have HFN := am hfn
 rw [← hx]
 clear hx hfn
 go_wp2_with (go_at_call 68; refine (HFN.out _ ((HB3.out.cell (p := ⟨b1, 0, none⟩) hb1).trans hq) ((HI.out.alloc _).alloc _) (qAu (qAu HB.out _) _)).mono ?_; rintro e w4 ⟨rfl, hi, hbw, hk⟩; have hv4 : w4.heap[w.heap.size + 1]? = some (.cells #[.int .u8 0] 5 (0, 0)) := (hk.2 _ (qAO H3.out) (by omega) (by simp)).trans H3.out; have v4 : w4.cell? ⟨w.heap.size + 1, 0, none⟩ = some (.int .u8 0) := (qAb hv4 0).trans rfl; have z4 := qAc hv4 0; have HI4 := am (hi.behind (p := ⟨w.heap.size + 1, 0, none⟩) (by show g < w.heap.size + 1; omega) (.int .u8 x)); have HK4 := am (qB9 (j := 0) HB3.out hk (Nat.le_succ _) (.int .u8 x)); have HV4 := am hv4; have HB4 := am (qAq (g := w.heap.size + 1) (j := 0) (v := .int .u8 x) hbw (Nat.le_trans HB.out.size (Nat.le_succ _))); clear hi hk hv4 hbw)
 refine leaves_cons (f := 107) (args := #[.pointer (some ⟨w.heap.size + 1, 0, none⟩), .pointer (some ⟨w.heap.size, 0, none⟩)]) (by simp) (by simp [go_sem]) ?_
 refine (qDD _ _ _).mono ?_
 rintro e u' w'' ⟨rfl, rfl, rfl⟩
 have hvc : (w4.setCell ⟨w.heap.size + 1, 0, none⟩ (.int .u8 x)).heap[w.heap.size + 1]? = some (.cells #[.int .u8 x] 5 (0, 0)) := by simpa using qB5 HV4.out 0 (.int .u8 x)
 have hres := (qAb hvc 0).trans rfl
 exact ⟨.int .u8 x, by simp [results, Try.results67, go_sem, hres], rfl, HI4.out, HB4.out, HK4.out⟩
theorem qDz (b1 g : Nat) (f0 : List Int) (p : Int) (w0 w : World) (hq : w.cell? ⟨b1, 0, none⟩ = some (.pointer (some ⟨g, 0, none⟩))) (hlt : f0.length ≤ p) (hI : qAe w0 w g f0 p 0) (hB : Below w0.heap.size w0 w) :
  Calls Try.prog 67 #[.pointer (some ⟨g, 0, none⟩), .func (.func 68) #[] #[.pointer (some ⟨b1, 0, none⟩)]] w fun e w' => e = .returned (.int .u8 0) ∧ qAe w0 w' g f0 p 40 ∧ Below w0.heap.size w0 w' ∧ qAd w w' g none := by
 have HI := am hI
 have HB := am hB
 have HLT := am hlt
 have hgl := hI.lt
 have hb1 := World.block_lt_of_cell? w _ hq
 obtain ⟨_, h1, h2, h3, v, hb, hr⟩ := hI
 have c1 : w.cell? ⟨g, 1, none⟩ = some (.int .i64 0) := (qAb hb 1).trans rfl
 have HG := am hb
 clear hb hr hB h1 h2 h3 hlt
 go_enter_defers Try.func67, Try.ntmps67
 have HB3 := am (((Below.refl w.heap.size w).alloc (Nat.le_refl _) (.cells #[.pointer (some ⟨g, 0, none⟩)] 59)).alloc (by simp) (.cells #[.int .u8 0] 5))
 have H2 : qAf (((w.alloc (.cells #[.pointer (some ⟨g, 0, none⟩)] 59)).alloc (.cells #[.int .u8 0] 5)).heap[w.heap.size]? = some (.cells #[.pointer (some ⟨g, 0, none⟩)] 59 (0, 0))) := ⟨qAR (heap_alloc_new w _) _⟩
 have H3 : qAf (((w.alloc (.cells #[.pointer (some ⟨g, 0, none⟩)] 59)).alloc (.cells #[.int .u8 0] 5)).heap[w.heap.size + 1]? = some (.cells #[.int .u8 0] 5 (0, 0))) := ⟨by simpa using heap_alloc_new (w.alloc (.cells #[.pointer (some ⟨g, 0, none⟩)] 59)) (.cells #[.int .u8 0] 5)⟩
 have HFN := am (fun W (h1 : W.cell? ⟨b1, 0, none⟩ = some (.pointer (some ⟨g, 0, none⟩))) (h2 : qAe w0 W g f0 p 0) => byte_fn_bad b1 g f0 p 0 w0 W h1 HLT.out h2)
 go_wp2_with (go_at_call 68; refine (HFN.out _ ((HB3.out.cell (p := ⟨b1, 0, none⟩) hb1).trans hq) ((HI.out.alloc _).alloc _)).mono ?_; rintro e w4 ⟨rfl, rfl⟩)
 refine leaves_cons (f := 107) (args := #[.pointer (some ⟨w.heap.size + 1, 0, none⟩), .pointer (some ⟨w.heap.size, 0, none⟩)]) (by simp) (by simp [go_sem]) ?_
 have hg3 : ((w.alloc (.cells #[.pointer (some ⟨g, 0, none⟩)] 59)).alloc (.cells #[.int .u8 0] 5)).heap[g]? = some (.cells #[v, .int .i64 0] 144 (0, 0)) := (HB3.out.block g hgl).trans HG.out
 refine (qDf (w.heap.size + 1) g w.heap.size 0 40 v [] _ ((qAb H3.out 0).trans rfl) (qAc H3.out 0) ((qAb H2.out 0).trans rfl) hg3 (by omega) (by omega)).mono ?_
 rintro e u' w'' ⟨rfl, rfl, rfl⟩
 have HI5 := am ((((HI.out.alloc (.cells #[.pointer (some ⟨g, 0, none⟩)] 59)).alloc (.cells #[.int .u8 0] 5)).behind (p := ⟨w.heap.size + 1, 0, none⟩) (by show g < w.heap.size + 1; omega) (.int .u8 0)).set_e 40)
 have HB5 := am (qAq (g := g) (j := 1) (v := .int .i64 40) (qAq (g := w.heap.size + 1) (j := 0) (v := .int .u8 0) (qAu (qAu HB.out (.cells #[.pointer (some ⟨g, 0, none⟩)] 59)) (.cells #[.int .u8 0] 5)) (Nat.le_trans HB.out.size (Nat.le_succ _))) HI.out.ge)
 have HK5 := am (qAd.set_ (qB9 (j := 0) HB3.out (qAd.refl _ g none) (Nat.le_succ _) (.int .u8 0)) 1 (.int .i64 40))
 have hvc := qA4 (g := w.heap.size + 1) (p := ⟨g, 1, none⟩) (qB5 H3.out 0 (.int .u8 0)) (by show w.heap.size + 1 ≠ g; omega) (.int .i64 40)
 clear hvc
 exact ⟨.int .u8 0, by simp [results, Try.results67, go_sem], rfl, HI5.out, HB5.out, HK5.out⟩
theorem qCS (F : Value) (g : Nat) (f0 : List Int) (p e : Int) (w0 w : World) (he : e ≠ 0) (hI : qAe w0 w g f0 p e) (hB : Below w0.heap.size w0 w) :
  Calls Try.prog 67 #[.pointer (some ⟨g, 0, none⟩), F] w fun e' w' => e' = .returned (.int .u8 0) ∧ qAe w0 w' g f0 p e ∧ Below w0.heap.size w0 w' ∧ qAd w w' g none := by
 have HI := am hI
 have HB := am hB
 have hgl := hI.lt
 obtain ⟨_, h1, h2, h3, v, hb, hr⟩ := hI
 have c1 : w.cell? ⟨g, 1, none⟩ = some (.int .i64 e) := (qAb hb 1).trans rfl
 have hb0 : (e != 0) = true := bne_iff_ne.mpr he
 clear hb hr hB h1 h2 h3 he
 go_enter_defers Try.func67, Try.ntmps67
 go_wp2
 exact ⟨.int .u8 0, by simp [results, Try.results67, go_sem], rfl, (HI.out.alloc _).alloc _, qAu (qAu HB.out _) _, qAV (qAV (qAd.refl _ _ _) _) _⟩
def qAg.f (s0_0 : List Int) (s0_1 : Int) (s0_2 : Int) : Option (Int × Int × Int) :=
 some (if s0_2 ≠ 0 then (0, s0_1, s0_2) else if s0_1 < s0_0.length then (s0_0.getD s0_1.toNat 0, s0_1 + 1, 0) else (0, s0_1, 40))
theorem qAg.calls (g : Nat) (s0_0 : List Int) (s0_1 : Int) (s0_2 : Int) (r1 : Int) (r2 : Int) (r3 : Int) (w0 w : World) (hI : qAe w0 w g s0_0 s0_1 s0_2) (hB : Below w0.heap.size w0 w) (h : qAg.f s0_0 s0_1 s0_2 = some (r1, r2, r3)) :
  Calls Try.prog 20 #[.pointer (some ⟨g, 0, none⟩)] w fun e w' => e = .returned (.int .u8 r1) ∧ qAe w0 w' g s0_0 r2 r3 ∧ Below w0.heap.size w0 w' ∧ qAd w w' g none := by
 have HI := am (hI.alloc (.cells #[.pointer (some ⟨g, 0, none⟩)] 59))
 have HB := am (qAu hB (.cells #[.pointer (some ⟨g, 0, none⟩)] 59))
 have HK := am (qAV (qAd.refl w g none) (.cells #[.pointer (some ⟨g, 0, none⟩)] 59))
 have hq : (w.alloc (.cells #[.pointer (some ⟨g, 0, none⟩)] 59)).cell? ⟨w.heap.size, 0, none⟩ = some (.pointer (some ⟨g, 0, none⟩)) := (qAb (heap_alloc_new w _) 0).trans rfl
 have HQ := am hq
 clear hq
 unfold qAg.f at h
 injection h with h
 have HF : qAf (Calls Try.prog 67 #[.pointer (some ⟨g, 0, none⟩), .func (.func 68) #[] #[.pointer (some ⟨w.heap.size, 0, none⟩)]] (w.alloc (.cells #[.pointer (some ⟨g, 0, none⟩)] 59)) fun e w' => e = .returned (.int .u8 r1) ∧ qAe w0 w' g s0_0 r2 r3 ∧ Below w0.heap.size w0 w' ∧ qAd w w' g none) := by
  by_cases he : s0_2 ≠ 0
  ·rw [if_pos he] at h
   simp only [Prod.mk.injEq] at h
   obtain ⟨rfl, rfl, rfl⟩ := h
   exact ⟨(qCS _ g s0_0 _ _ w0 _ he HI.out HB.out).mono fun e' w' ⟨h1, h2, h3, h4⟩ => ⟨h1, h2, h3, HK.out.trans h4 (.inl rfl)⟩⟩
  rw [if_neg he] at h
  simp only [Decidable.not_not] at he
  subst he
  by_cases hlt : s0_1 < s0_0.length
  ·rw [if_pos hlt] at h
   simp only [Prod.mk.injEq] at h
   obtain ⟨rfl, rfl, rfl⟩ := h
   exact ⟨(qDK _ g s0_0 _ w0 _ HQ.out hlt HI.out HB.out).mono fun e' w' ⟨h1, h2, h3, h4⟩ => ⟨h1, h2, h3, HK.out.trans h4 (.inl rfl)⟩⟩
  rw [if_neg hlt] at h
  simp only [Prod.mk.injEq] at h
  obtain ⟨rfl, rfl, rfl⟩ := h
  exact ⟨(qDz _ g s0_0 _ w0 _ HQ.out (by omega) HI.out HB.out).mono fun e' w' ⟨h1, h2, h3, h4⟩ => ⟨h1, h2, h3, HK.out.trans h4 (.inl rfl)⟩⟩
 clear h hI hB
 go_enter Try.func20, Try.ntmps20
 go_wp2_with (go_at_call 67; refine HF.out.mono ?_; rintro e w' ⟨rfl, hi, hb, hk⟩; have HI2 := am hi; have HB2 := am hb; have HK2 := am hk; clear hi hb hk)
 go_ret
 exact ⟨rfl, HI2.out, HB2.out, HK2.out⟩
end Q
end
section
namespace Q
open Go.RowKit PA PB PC
attribute [local go_sem] qBd min2_int qBp min_two max_three min_three max_four min_four
def qAS.l0 : Nat → Int → List Int → Int → Int → Option (Int)
 | 0, _, _, _, _ => none
 | k + 1, x3, x6, x7, x8 => if x8 < x7 then (if 0 ≤ x8 then (if x8 < (x6.length : Int) then (qAS.l0 k (Go.bits .or .u64 (IntKind.u64.wrap (x3 * 256)) (IntKind.u64.wrap (rd x6 x8))) x6 x7 (wrap64 (x8 + 1))) else (none)) else (none)) else (some x3)
def qAS.f (k : Nat) (l0 : List Int) : Option (Int) := qAS.l0 k 0 l0 (l0.length : Int) 0
theorem qAS.calls (k : Nat) (A0 : Option Addr) (c0 : Nat) (l0 : List Int) (r : Int) (w : World) (hr0 : Kd.C (Kd.int .u8) w A0 l0.length l0) (hc0 : l0.length ≤ c0) (h : qAS.f k l0 = some r) :
  Calls Try.prog 75 #[.slice A0 l0.length c0] w fun e w' => e = .returned (.int .u64 r) ∧ qAH w w' := by
 have aJ := am hr0
 clear hr0 hc0
 have H : (qAS.l0 k 0 l0 (l0.length : Int) 0) = some r := h
 clear h
 have H' := am H
 clear H
 go_enter Try.func75, Try.ntmps75
 go_wp2
 go_loopg [3, 8] k (fun kq v3 v8 w' => ∃ (aB : Int) (aA : Int), v3 = .int .u64 aB ∧ v8 = .int .i64 aA ∧ qAf (qAS.l0 kq aB l0 (l0.length : Int) aA = some r) ∧ qAf (kq ≤ k) ∧ qAH w w')
 case atStart => exact ⟨(0), (0), (by rfl), (by rfl), H', ⟨Nat.le_refl _⟩, by exact qAH.refl _⟩
 case round =>
  clear H'
  obtain ⟨aB, aA, rfl, rfl, HA, aH, ⟨m1, rfl⟩⟩ := hrel
  cases gk with
  | zero => exact absurd HA.o (by simp [qAS.l0])
  | succ k1 =>
   have H := HA.o
   clear HA
   simp only [qAS.l0] at H
   by_cases c2 : aA < (l0.length : Int)
   rotate_left
   ·rw [if_neg c2] at H
    replace c2 := d0 c2
    obtain rfl := Option.some.inj H
    go_wp2
    go_ret
    exact ⟨by rfl, by repeat (first | exact qAH.refl _ | apply qAH.step)⟩
   rw [if_pos c2] at H
   replace c2 := d1 c2
   obtain ⟨c3, H⟩ := gd H
   replace c3 := d1 c3
   obtain ⟨c4, H⟩ := gd H
   replace c4 := d1 c4
   have H' := am H
   clear H
   have aC : 0 ≤ aA := od (by assumption)
   have aD : aA < (l0.length : Int) := od (by assumption)
   obtain ⟨aI, aG, aE⟩ := Kd.at_int aJ.o aA aC aD
   cases aG
   replace aC := eq_true aC
   replace aD := eq_true aD
   go_wp2
   go_roundg k1
   case measure => have := aH.o; omega
   case rel => exact ⟨(Go.bits .or .u64 (IntKind.u64.wrap (aB * 256)) (IntKind.u64.wrap (rd l0 aA))), (wrap64 (aA + 1)), (by rfl), (by rfl), H', ⟨by have := aH.o; omega⟩, by repeat (first | exact qAH.refl _ | apply qAH.step)⟩
end Q
end
section
namespace Q
open Go.RowKit PA PB PC
def qCv (n x : Int) : Int := Go.bits .or .u64 (IntKind.u64.wrap (n * 256)) (IntKind.u64.wrap x)
def numF (l : List Int) : Int := l.foldl qCv 0
theorem number_l0 (l : List Int) (hl : l.length ≤ 9223372036854775806) (d : Nat) : ∀ (k : Nat) (i n : Int), 0 ≤ i → (l.length : Int) - i = d → d < k → qAS.l0 k n l (l.length : Int) i = some ((l.drop i.toNat).foldl qCv n) := by
 induction d with
 | zero =>
  intro k i n h0 hd hk
  obtain ⟨k, rfl⟩ : ∃ m, k = m + 1 := ⟨k - 1, by omega⟩
  simp only [qAS.l0]
  rw [if_neg (by omega), List.drop_of_length_le (by omega)]
  rfl
 | succ d ih =>
  intro k i n h0 hd hk
  obtain ⟨k, rfl⟩ : ∃ m, k = m + 1 := ⟨k - 1, by omega⟩
  simp only [qAS.l0]
  have hw : wrap64 (i + 1) = i + 1 := by unfold wrap64; omega
  have hi : i.toNat < l.length := by omega
  have hrd : rd l i = l[i.toNat] := by unfold rd; rw [List.getD_eq_getElem?_getD, List.getElem?_eq_getElem hi]; rfl
  rw [if_pos (by omega), if_pos h0, if_pos (by omega), hw, ih k (i + 1) _ (by omega) (by omega) (by omega), List.drop_eq_getElem_cons hi, List.foldl_cons, hrd, show (i + 1).toNat = i.toNat + 1 by omega]
  rfl
theorem qBw (A : Option Addr) (c : Nat) (l : List Int) (w : World) (hr : Kd.C (Kd.int .u8) w A l.length l) (hc : l.length ≤ c) (hl : l.length ≤ 9223372036854775806) :
  Calls Try.prog 75 #[.slice A l.length c] w fun e w' => e = .returned (.int .u64 (numF l)) ∧ qAH w w' :=
 qAS.calls (l.length + 1) A c l (numF l) w hr hc (by
   unfold qAS.f
   rw [number_l0 l hl l.length (l.length + 1) 0 0 (by omega) (by omega) (by omega)]
   rfl)
theorem qCC (p q : Addr) (w : World) :
  CallsD Try.prog 108 #[.pointer (some p), .pointer (some q)] .returning w fun e u' w' => e = .returned (.tuple #[]) ∧ u' = .returning ∧ w' = w := by
 refine callsD_of_wpS Try.func108 rfl fun c₀ cs hu => ?_
 apply wpS_seq
 apply wpS_region
 simp [wpOpsS, go_sem, recoverD, hu, Try.ntmps108, Exit.thenS]
 refine wpS_of_wp (qBN fun Q' hQ => ?_)
 have HQ := am hQ
 clear hQ
 rw [show ((#[Value.pointer (some p), Value.pointer (some q)] : Array Value) ++ (Array.replicate 15 undef).setIfInBounds 4 Value.nilIface) = #[.pointer (some p), .pointer (some q), undef, undef, undef, undef, .nilIface, undef, undef, undef, undef, undef, undef, undef, undef, undef, undef] from rfl]
 go_wp2
 refine HQ.out _ _ _ ?_
 cases c₀
 simp_all [bodyPostS, results, Try.results108]
theorem qCi (bv g bq : Nat) (x : Value) (k : Int) (v : Value) (older : List PanicEntry) (w : World) (hp : w.cell? ⟨bv, 0, none⟩ = some x) (hz : w.frozen? ⟨bv, 0, none⟩ = false) (hq : w.cell? ⟨bq, 0, none⟩ = some (.pointer (some ⟨g, 0, none⟩))) (hg : w.heap[g]? = some (.cells #[v, .int .i64 0] 144 (0, 0))) (hpg : bv ≠ g) (hpq : bv ≠ bq) :
  CallsD Try.prog 108 #[.pointer (some ⟨bv, 0, none⟩), .pointer (some ⟨bq, 0, none⟩)] (.panicking ({ v := .iface 179 (.int .i64 k), recovered := false } :: older)) w fun e u' w' =>
   e = .returned (.tuple #[]) ∧ u' = .panicking ({ v := .iface 179 (.int .i64 k), recovered := true } :: older) ∧ w' = (w.setCell ⟨bv, 0, none⟩ (.int .i64 0)).setCell ⟨g, 1, none⟩ (.int .i64 k) := by
 have hta : ∀ (v : Value) (W : World), (Instr.typeAssert (.iface 179 v) 20 179 true).run Try.prog W = .ok (.tuple #[v, .bool true]) W := fun v W => by rfl
 have c1 : (w.setCell ⟨bv, 0, none⟩ (.int .i64 0)).cell? ⟨g, 1, none⟩ = some (.int .i64 0) := (World.cell?_setCell_other _ _ _ _ (by intro e; injection e with e; exact hpg e)).trans ((qAb hg 1).trans rfl)
 have f1 : (w.setCell ⟨bv, 0, none⟩ (.int .i64 0)).frozen? ⟨g, 1, none⟩ = false := (World.frozen?_setCell _ _ _ _).trans (qAc hg 1)
 have q1 : (w.setCell ⟨bv, 0, none⟩ (.int .i64 0)).cell? ⟨bq, 0, none⟩ = some (.pointer (some ⟨g, 0, none⟩)) := (World.cell?_setCell_other _ _ _ _ (by intro e; injection e with e; exact hpq e)).trans hq
 refine callsD_of_wpS Try.func108 rfl fun c₀ cs hu => ?_
 apply wpS_seq
 apply wpS_region
 simp [wpOpsS, go_sem, recoverD, hu, Try.ntmps108, Exit.thenS]
 refine wpS_of_wp (qBN fun Q' hQ => ?_)
 have HQ := am hQ
 clear hQ
 rw [show ((#[Value.pointer (some ⟨bv, 0, none⟩), Value.pointer (some ⟨bq, 0, none⟩)] : Array Value) ++ (Array.replicate 15 undef).setIfInBounds 4 (Value.iface 179 (.int .i64 k))) = #[.pointer (some ⟨bv, 0, none⟩), .pointer (some ⟨bq, 0, none⟩), undef, undef, undef, undef, .iface 179 (.int .i64 k), undef, undef, undef, undef, undef, undef, undef, undef, undef, undef] from rfl]
 go_wp2
 refine HQ.out _ _ _ ?_
 cases c₀
 simp_all [bodyPostS, results, Try.results108]
theorem qBW (F : Value) (g : Nat) (f0 : List Int) (p e : Int) (w0 w : World) (he : e ≠ 0) (hI : qAe w0 w g f0 p e) (hB : Below w0.heap.size w0 w) :
  Calls Try.prog 70 #[.pointer (some ⟨g, 0, none⟩), F] w fun e' w' => e' = .returned (.int .i64 0) ∧ qAe w0 w' g f0 p e ∧ Below w0.heap.size w0 w' ∧ qAd w w' g none := by
 have HI := am hI
 have HB := am hB
 have hgl := hI.lt
 obtain ⟨_, h1, h2, h3, v, hb, hr⟩ := hI
 have c1 : w.cell? ⟨g, 1, none⟩ = some (.int .i64 e) := (qAb hb 1).trans rfl
 have hb0 : (e != 0) = true := bne_iff_ne.mpr he
 clear hb hr hB h1 h2 h3 he
 go_enter_defers Try.func70, Try.ntmps70
 go_wp2
 exact ⟨.int .i64 0, by simp [results, Try.results70, go_sem], rfl, (HI.out.alloc _).alloc _, qAu (qAu HB.out _) _, qAV (qAV (qAd.refl _ _ _) _) _⟩
theorem catch_u64_idle (p q : Addr) (w : World) :
  CallsD Try.prog 109 #[.pointer (some p), .pointer (some q)] .returning w fun e u' w' => e = .returned (.tuple #[]) ∧ u' = .returning ∧ w' = w := by
 refine callsD_of_wpS Try.func109 rfl fun c₀ cs hu => ?_
 apply wpS_seq
 apply wpS_region
 simp [wpOpsS, go_sem, recoverD, hu, Try.ntmps109, Exit.thenS]
 refine wpS_of_wp (qBN fun Q' hQ => ?_)
 have HQ := am hQ
 clear hQ
 rw [show ((#[Value.pointer (some p), Value.pointer (some q)] : Array Value) ++ (Array.replicate 15 undef).setIfInBounds 4 Value.nilIface) = #[.pointer (some p), .pointer (some q), undef, undef, undef, undef, .nilIface, undef, undef, undef, undef, undef, undef, undef, undef, undef, undef] from rfl]
 go_wp2
 refine HQ.out _ _ _ ?_
 cases c₀
 simp_all [bodyPostS, results, Try.results109]
theorem qDy (bv g bq : Nat) (x : Value) (k : Int) (v : Value) (older : List PanicEntry) (w : World) (hp : w.cell? ⟨bv, 0, none⟩ = some x) (hz : w.frozen? ⟨bv, 0, none⟩ = false) (hq : w.cell? ⟨bq, 0, none⟩ = some (.pointer (some ⟨g, 0, none⟩))) (hg : w.heap[g]? = some (.cells #[v, .int .i64 0] 144 (0, 0))) (hpg : bv ≠ g) (hpq : bv ≠ bq) :
  CallsD Try.prog 109 #[.pointer (some ⟨bv, 0, none⟩), .pointer (some ⟨bq, 0, none⟩)] (.panicking ({ v := .iface 179 (.int .i64 k), recovered := false } :: older)) w fun e u' w' =>
   e = .returned (.tuple #[]) ∧ u' = .panicking ({ v := .iface 179 (.int .i64 k), recovered := true } :: older) ∧ w' = (w.setCell ⟨bv, 0, none⟩ (.int .u64 0)).setCell ⟨g, 1, none⟩ (.int .i64 k) := by
 have hta : ∀ (v : Value) (W : World), (Instr.typeAssert (.iface 179 v) 20 179 true).run Try.prog W = .ok (.tuple #[v, .bool true]) W := fun v W => by rfl
 have c1 : (w.setCell ⟨bv, 0, none⟩ (.int .u64 0)).cell? ⟨g, 1, none⟩ = some (.int .i64 0) := (World.cell?_setCell_other _ _ _ _ (by intro e; injection e with e; exact hpg e)).trans ((qAb hg 1).trans rfl)
 have f1 : (w.setCell ⟨bv, 0, none⟩ (.int .u64 0)).frozen? ⟨g, 1, none⟩ = false := (World.frozen?_setCell _ _ _ _).trans (qAc hg 1)
 have q1 : (w.setCell ⟨bv, 0, none⟩ (.int .u64 0)).cell? ⟨bq, 0, none⟩ = some (.pointer (some ⟨g, 0, none⟩)) := (World.cell?_setCell_other _ _ _ _ (by intro e; injection e with e; exact hpq e)).trans hq
 refine callsD_of_wpS Try.func109 rfl fun c₀ cs hu => ?_
 apply wpS_seq
 apply wpS_region
 simp [wpOpsS, go_sem, recoverD, hu, Try.ntmps109, Exit.thenS]
 refine wpS_of_wp (qBN fun Q' hQ => ?_)
 have HQ := am hQ
 clear hQ
 rw [show ((#[Value.pointer (some ⟨bv, 0, none⟩), Value.pointer (some ⟨bq, 0, none⟩)] : Array Value) ++ (Array.replicate 15 undef).setIfInBounds 4 (Value.iface 179 (.int .i64 k))) = #[.pointer (some ⟨bv, 0, none⟩), .pointer (some ⟨bq, 0, none⟩), undef, undef, undef, undef, .iface 179 (.int .i64 k), undef, undef, undef, undef, undef, undef, undef, undef, undef, undef] from rfl]
 go_wp2
 refine HQ.out _ _ _ ?_
 cases c₀
 simp_all [bodyPostS, results, Try.results109]
theorem qDi (F : Value) (g : Nat) (f0 : List Int) (p e : Int) (w0 w : World) (he : e ≠ 0) (hI : qAe w0 w g f0 p e) (hB : Below w0.heap.size w0 w) :
  Calls Try.prog 73 #[.pointer (some ⟨g, 0, none⟩), F] w fun e' w' => e' = .returned (.int .u64 0) ∧ qAe w0 w' g f0 p e ∧ Below w0.heap.size w0 w' ∧ qAd w w' g none := by
 have HI := am hI
 have HB := am hB
 have hgl := hI.lt
 obtain ⟨_, h1, h2, h3, v, hb, hr⟩ := hI
 have c1 : w.cell? ⟨g, 1, none⟩ = some (.int .i64 e) := (qAb hb 1).trans rfl
 have hb0 : (e != 0) = true := bne_iff_ne.mpr he
 clear hb hr hB h1 h2 h3 he
 go_enter_defers Try.func73, Try.ntmps73
 go_wp2
 exact ⟨.int .u64 0, by simp [results, Try.results73, go_sem], rfl, (HI.out.alloc _).alloc _, qAu (qAu HB.out _) _, qAV (qAV (qAd.refl _ _ _) _) _⟩
theorem short_fn_ok (b1 g : Nat) (f0 : List Int) (p e : Int) (w0 w : World) (hq : w.cell? ⟨b1, 0, none⟩ = some (.pointer (some ⟨g, 0, none⟩))) (hlt : p + 2 ≤ f0.length) (hI : qAe w0 w g f0 p e) (hB : Below w0.heap.size w0 w) :
  Calls Try.prog 77 #[.pointer (some ⟨b1, 0, none⟩)] w fun e' w' => e' = .returned (.int .i64 (wrap64 (numF ((f0.drop p.toNat).take 2)))) ∧ qAe w0 w' g f0 (p + 2) e ∧ Below w0.heap.size w0 w' ∧ qAd w w' g none := by
 have HI := am hI
 have HB := am hB
 have h0 := hI.2.1
 clear hI hB
 have hl : ((f0.drop p.toNat).take 2).length = 2 := by rw [List.length_take, List.length_drop]; omega
 have HL := am hl
 clear hl
 go_enter Try.func77, Try.ntmps77
 go_wp2_with (first | (go_at_call 69; refine (qBE g f0 p e 2 w0 w (by omega) (by omega) HI.out).mono ?_; rintro e' w' ⟨A, c, v, rfl, hc, hC, hi, hw⟩; have hk := hw ▸ qAd.set_ (qAd.refl w g none) 0 v; have HK := am hk; have HN := am hi; have HBN := am (hw ▸ qAq (g := g) (j := 0) (v := v) HB.out HI.out.ge); have hnum := qBw A c ((f0.drop p.toNat).take 2) w' (by rw [HL.out]; exact hC) (by rw [HL.out]; exact hc) (by rw [HL.out]; decide); rw [HL.out] at hnum; have HNM := am hnum; clear hk hi hw hC hnum) | (go_at_call 75; refine HNM.out.mono ?_; rintro e' w'' ⟨rfl, hd⟩; obtain ⟨m, rfl⟩ := hd.out))
 go_ret
 exact ⟨rfl, HN.out.drewN m, qA1 HBN.out m, qC6 HK.out m⟩
theorem short_fn_bad (b1 g : Nat) (f0 : List Int) (p e : Int) (w0 w : World) (hq : w.cell? ⟨b1, 0, none⟩ = some (.pointer (some ⟨g, 0, none⟩))) (hlt : f0.length < p + 2) (hI : qAe w0 w g f0 p e) (hB : Below w0.heap.size w0 w) :
  Calls Try.prog 77 #[.pointer (some ⟨b1, 0, none⟩)] w fun e' w' => e' = .panicked [{ v := .iface 179 (.int .i64 40), recovered := false }] ∧ qAe w0 w' g f0 p e ∧ Below w0.heap.size w0 w' ∧ qAd w w' g none := by
 have HI := am hI
 have HB := am hB
 clear hI hB
 go_enter Try.func77, Try.ntmps77
 go_wp2_with (go_at_call 69; refine (qB7 g f0 p e 2 w0 w (by omega) HI.out).mono ?_; rintro e' w' ⟨rfl, rfl⟩)
 exact ⟨rfl, rfl, HI.out, HB.out, qAd.refl _ _ _⟩
theorem qD1 (b1 g : Nat) (f0 : List Int) (p p' : Int) (x : Int) (w0 w : World) (hI : qAe w0 w g f0 p 0) (hB : Below w0.heap.size w0 w)
  (hfn : ∀ W, Below w.heap.size w W → qAe w0 W g f0 p 0 → Below w0.heap.size w0 W → Calls Try.prog 77 #[.pointer (some ⟨b1, 0, none⟩)] W fun e w' => e = .returned (.int .i64 x) ∧ qAe w0 w' g f0 p' 0 ∧ Below w0.heap.size w0 w' ∧ qAd W w' g none) :
  Calls Try.prog 70 #[.pointer (some ⟨g, 0, none⟩), .func (.func 77) #[] #[.pointer (some ⟨b1, 0, none⟩)]] w fun e w' => e = .returned (.int .i64 x) ∧ qAe w0 w' g f0 p' 0 ∧ Below w0.heap.size w0 w' ∧ qAd w w' g none := by
 have HI := am hI
 have HB := am hB
 have HFN := am hfn
 have hgl := hI.lt
 obtain ⟨_, h1, h2, h3, v, hb, hr⟩ := hI
 have c1 : w.cell? ⟨g, 1, none⟩ = some (.int .i64 0) := (qAb hb 1).trans rfl
 clear hb hr hB h1 h2 h3 hfn
 go_enter_defers Try.func70, Try.ntmps70
 have HB3 := am (((Below.refl w.heap.size w).alloc (Nat.le_refl _) (.cells #[.pointer (some ⟨g, 0, none⟩)] 59)).alloc (by simp) (.cells #[.int .i64 0] 3))
 have H3 : qAf (((w.alloc (.cells #[.pointer (some ⟨g, 0, none⟩)] 59)).alloc (.cells #[.int .i64 0] 3)).heap[w.heap.size + 1]? = some (.cells #[.int .i64 0] 3 (0, 0))) := ⟨by simpa using heap_alloc_new (w.alloc (.cells #[.pointer (some ⟨g, 0, none⟩)] 59)) (.cells #[.int .i64 0] 3)⟩
 go_wp2_with (go_at_call 77; refine (HFN.out _ HB3.out ((HI.out.alloc _).alloc _) (qAu (qAu HB.out _) _)).mono ?_; rintro e w4 ⟨rfl, hi, hbw, hk⟩; have hv4 : w4.heap[w.heap.size + 1]? = some (.cells #[.int .i64 0] 3 (0, 0)) := (hk.2 _ (qAO H3.out) (by omega) (by simp)).trans H3.out; have v4 : w4.cell? ⟨w.heap.size + 1, 0, none⟩ = some (.int .i64 0) := (qAb hv4 0).trans rfl; have z4 := qAc hv4 0; have HI4 := am (hi.behind (p := ⟨w.heap.size + 1, 0, none⟩) (by show g < w.heap.size + 1; omega) (.int .i64 x)); have HK4 := am (qB9 (j := 0) HB3.out hk (Nat.le_succ _) (.int .i64 x)); have HV4 := am hv4; have HB4 := am (qAq (g := w.heap.size + 1) (j := 0) (v := .int .i64 x) hbw (Nat.le_trans HB.out.size (Nat.le_succ _))); clear hi hk hv4 hbw)
 refine leaves_cons (f := 108) (args := #[.pointer (some ⟨w.heap.size + 1, 0, none⟩), .pointer (some ⟨w.heap.size, 0, none⟩)]) (by simp) (by simp [go_sem]) ?_
 refine (qCC _ _ _).mono ?_
 rintro e u' w'' ⟨rfl, rfl, rfl⟩
 have hvc : (w4.setCell ⟨w.heap.size + 1, 0, none⟩ (.int .i64 x)).heap[w.heap.size + 1]? = some (.cells #[.int .i64 x] 3 (0, 0)) := by simpa using qB5 HV4.out 0 (.int .i64 x)
 have hres := (qAb hvc 0).trans rfl
 exact ⟨.int .i64 x, by simp [results, Try.results70, go_sem, hres], rfl, HI4.out, HB4.out, HK4.out⟩
theorem qDh (b1 g : Nat) (f0 : List Int) (p p' : Int) (k : Int) (w0 w : World) (hI : qAe w0 w g f0 p 0) (hB : Below w0.heap.size w0 w)
  (hfn : ∀ W, Below w.heap.size w W → qAe w0 W g f0 p 0 → Below w0.heap.size w0 W → Calls Try.prog 77 #[.pointer (some ⟨b1, 0, none⟩)] W fun e w' => e = .panicked [{ v := .iface 179 (.int .i64 k), recovered := false }] ∧ qAe w0 w' g f0 p' 0 ∧ Below w0.heap.size w0 w' ∧ qAd W w' g none) :
  Calls Try.prog 70 #[.pointer (some ⟨g, 0, none⟩), .func (.func 77) #[] #[.pointer (some ⟨b1, 0, none⟩)]] w fun e w' => e = .returned (.int .i64 0) ∧ qAe w0 w' g f0 p' k ∧ Below w0.heap.size w0 w' ∧ qAd w w' g none := by
 have HI := am hI
 have HB := am hB
 have HFN := am hfn
 have hgl := hI.lt
 obtain ⟨_, h1, h2, h3, v, hb, hr⟩ := hI
 have c1 : w.cell? ⟨g, 1, none⟩ = some (.int .i64 0) := (qAb hb 1).trans rfl
 clear hb hr hB h1 h2 h3 hfn
 go_enter_defers Try.func70, Try.ntmps70
 have HB3 := am (((Below.refl w.heap.size w).alloc (Nat.le_refl _) (.cells #[.pointer (some ⟨g, 0, none⟩)] 59)).alloc (by simp) (.cells #[.int .i64 0] 3))
 have H2 : qAf (((w.alloc (.cells #[.pointer (some ⟨g, 0, none⟩)] 59)).alloc (.cells #[.int .i64 0] 3)).heap[w.heap.size]? = some (.cells #[.pointer (some ⟨g, 0, none⟩)] 59 (0, 0))) := ⟨qAR (heap_alloc_new w _) _⟩
 have H3 : qAf (((w.alloc (.cells #[.pointer (some ⟨g, 0, none⟩)] 59)).alloc (.cells #[.int .i64 0] 3)).heap[w.heap.size + 1]? = some (.cells #[.int .i64 0] 3 (0, 0))) := ⟨by simpa using heap_alloc_new (w.alloc (.cells #[.pointer (some ⟨g, 0, none⟩)] 59)) (.cells #[.int .i64 0] 3)⟩
 go_wp2_with (go_at_call 77; refine (HFN.out _ HB3.out ((HI.out.alloc _).alloc _) (qAu (qAu HB.out _) _)).mono ?_; rintro e w4 ⟨rfl, hi, hbw, hk⟩)
 refine leaves_cons (f := 108) (args := #[.pointer (some ⟨w.heap.size + 1, 0, none⟩), .pointer (some ⟨w.heap.size, 0, none⟩)]) (by simp) (by simp [go_sem]) ?_
 have hv4 : w4.heap[w.heap.size + 1]? = some (.cells #[.int .i64 0] 3 (0, 0)) := (hk.2 _ (qAO H3.out) (by omega) (by simp)).trans H3.out
 have hq4 : w4.heap[w.heap.size]? = some (.cells #[.pointer (some ⟨g, 0, none⟩)] 59 (0, 0)) := (hk.2 _ (qAO H2.out) (by omega) (by simp)).trans H2.out
 obtain ⟨_, _, _, _, v4, hg4, _⟩ := id hi
 refine (qCi (w.heap.size + 1) g w.heap.size (.int .i64 0) k v4 [] _ ((qAb hv4 0).trans rfl) (qAc hv4 0) ((qAb hq4 0).trans rfl) hg4 (by omega) (by omega)).mono ?_
 rintro e u' w'' ⟨rfl, rfl, rfl⟩
 have HI5 := am ((hi.behind (p := ⟨w.heap.size + 1, 0, none⟩) (by show g < w.heap.size + 1; omega) (.int .i64 0)).set_e k)
 have HB5 := am (qAq (g := g) (j := 1) (v := .int .i64 k) (qAq (g := w.heap.size + 1) (j := 0) (v := .int .i64 0) hbw (Nat.le_trans HB.out.size (Nat.le_succ _))) HI.out.ge)
 have HK5 := am (qAd.set_ (qB9 (j := 0) HB3.out hk (Nat.le_succ _) (.int .i64 0)) 1 (.int .i64 k))
 have hvc := qA4 (g := w.heap.size + 1) (p := ⟨g, 1, none⟩) (qB5 hv4 0 (.int .i64 0)) (by show w.heap.size + 1 ≠ g; omega) (.int .i64 k)
 have hres := (qAb hvc 0).trans rfl
 clear hvc
 exact ⟨.int .i64 0, by simp [results, Try.results70, go_sem, hres], rfl, HI5.out, HB5.out, HK5.out⟩
theorem long_fn_ok (b1 g : Nat) (f0 : List Int) (p e : Int) (w0 w : World) (hq : w.cell? ⟨b1, 0, none⟩ = some (.pointer (some ⟨g, 0, none⟩))) (hlt : p + 8 ≤ f0.length) (hI : qAe w0 w g f0 p e) (hB : Below w0.heap.size w0 w) :
  Calls Try.prog 74 #[.pointer (some ⟨b1, 0, none⟩)] w fun e' w' => e' = .returned (.int .u64 (numF ((f0.drop p.toNat).take 8))) ∧ qAe w0 w' g f0 (p + 8) e ∧ Below w0.heap.size w0 w' ∧ qAd w w' g none := by
 have HI := am hI
 have HB := am hB
 have h0 := hI.2.1
 clear hI hB
 have hl : ((f0.drop p.toNat).take 8).length = 8 := by rw [List.length_take, List.length_drop]; omega
 have HL := am hl
 clear hl
 go_enter Try.func74, Try.ntmps74
 go_wp2_with (first | (go_at_call 69; refine (qBE g f0 p e 8 w0 w (by omega) (by omega) HI.out).mono ?_; rintro e' w' ⟨A, c, v, rfl, hc, hC, hi, hw⟩; have hk := hw ▸ qAd.set_ (qAd.refl w g none) 0 v; have HK := am hk; have HN := am hi; have HBN := am (hw ▸ qAq (g := g) (j := 0) (v := v) HB.out HI.out.ge); have hnum := qBw A c ((f0.drop p.toNat).take 8) w' (by rw [HL.out]; exact hC) (by rw [HL.out]; exact hc) (by rw [HL.out]; decide); rw [HL.out] at hnum; have HNM := am hnum; clear hk hi hw hC hnum) | (go_at_call 75; refine HNM.out.mono ?_; rintro e' w'' ⟨rfl, hd⟩; obtain ⟨m, rfl⟩ := hd.out))
 go_ret
 exact ⟨rfl, HN.out.drewN m, qA1 HBN.out m, qC6 HK.out m⟩
theorem long_fn_bad (b1 g : Nat) (f0 : List Int) (p e : Int) (w0 w : World) (hq : w.cell? ⟨b1, 0, none⟩ = some (.pointer (some ⟨g, 0, none⟩))) (hlt : f0.length < p + 8) (hI : qAe w0 w g f0 p e) (hB : Below w0.heap.size w0 w) :
  Calls Try.prog 74 #[.pointer (some ⟨b1, 0, none⟩)] w fun e' w' => e' = .panicked [{ v := .iface 179 (.int .i64 40), recovered := false }] ∧ qAe w0 w' g f0 p e ∧ Below w0.heap.size w0 w' ∧ qAd w w' g none := by
 have HI := am hI
 have HB := am hB
 clear hI hB
 go_enter Try.func74, Try.ntmps74
 go_wp2_with (go_at_call 69; refine (qB7 g f0 p e 8 w0 w (by omega) HI.out).mono ?_; rintro e' w' ⟨rfl, rfl⟩)
 exact ⟨rfl, rfl, HI.out, HB.out, qAd.refl _ _ _⟩
theorem qDL (b1 g : Nat) (f0 : List Int) (p p' : Int) (x : Int) (w0 w : World) (hI : qAe w0 w g f0 p 0) (hB : Below w0.heap.size w0 w)
  (hfn : ∀ W, Below w.heap.size w W → qAe w0 W g f0 p 0 → Below w0.heap.size w0 W → Calls Try.prog 74 #[.pointer (some ⟨b1, 0, none⟩)] W fun e w' => e = .returned (.int .u64 x) ∧ qAe w0 w' g f0 p' 0 ∧ Below w0.heap.size w0 w' ∧ qAd W w' g none) :
  Calls Try.prog 73 #[.pointer (some ⟨g, 0, none⟩), .func (.func 74) #[] #[.pointer (some ⟨b1, 0, none⟩)]] w fun e w' => e = .returned (.int .u64 x) ∧ qAe w0 w' g f0 p' 0 ∧ Below w0.heap.size w0 w' ∧ qAd w w' g none := by
 have HI := am hI
 have HB := am hB
 have HFN := am hfn
 have hgl := hI.lt
 obtain ⟨_, h1, h2, h3, v, hb, hr⟩ := hI
 have c1 : w.cell? ⟨g, 1, none⟩ = some (.int .i64 0) := (qAb hb 1).trans rfl
 clear hb hr hB h1 h2 h3 hfn
 go_enter_defers Try.func73, Try.ntmps73
 have HB3 := am (((Below.refl w.heap.size w).alloc (Nat.le_refl _) (.cells #[.pointer (some ⟨g, 0, none⟩)] 59)).alloc (by simp) (.cells #[.int .u64 0] 66))
 have H3 : qAf (((w.alloc (.cells #[.pointer (some ⟨g, 0, none⟩)] 59)).alloc (.cells #[.int .u64 0] 66)).heap[w.heap.size + 1]? = some (.cells #[.int .u64 0] 66 (0, 0))) := ⟨by simpa using heap_alloc_new (w.alloc (.cells #[.pointer (some ⟨g, 0, none⟩)] 59)) (.cells #[.int .u64 0] 66)⟩
 go_wp2_with (go_at_call 74; refine (HFN.out _ HB3.out ((HI.out.alloc _).alloc _) (qAu (qAu HB.out _) _)).mono ?_; rintro e w4 ⟨rfl, hi, hbw, hk⟩; have hv4 : w4.heap[w.heap.size + 1]? = some (.cells #[.int .u64 0] 66 (0, 0)) := (hk.2 _ (qAO H3.out) (by omega) (by simp)).trans H3.out; have v4 : w4.cell? ⟨w.heap.size + 1, 0, none⟩ = some (.int .u64 0) := (qAb hv4 0).trans rfl; have z4 := qAc hv4 0; have HI4 := am (hi.behind (p := ⟨w.heap.size + 1, 0, none⟩) (by show g < w.heap.size + 1; omega) (.int .u64 x)); have HK4 := am (qB9 (j := 0) HB3.out hk (Nat.le_succ _) (.int .u64 x)); have HV4 := am hv4; have HB4 := am (qAq (g := w.heap.size + 1) (j := 0) (v := .int .u64 x) hbw (Nat.le_trans HB.out.size (Nat.le_succ _))); clear hi hk hv4 hbw)
 refine leaves_cons (f := 109) (args := #[.pointer (some ⟨w.heap.size + 1, 0, none⟩), .pointer (some ⟨w.heap.size, 0, none⟩)]) (by simp) (by simp [go_sem]) ?_
 refine (catch_u64_idle _ _ _).mono ?_
 rintro e u' w'' ⟨rfl, rfl, rfl⟩
 have hvc : (w4.setCell ⟨w.heap.size + 1, 0, none⟩ (.int .u64 x)).heap[w.heap.size + 1]? = some (.cells #[.int .u64 x] 66 (0, 0)) := by simpa using qB5 HV4.out 0 (.int .u64 x)
 have hres := (qAb hvc 0).trans rfl
 exact ⟨.int .u64 x, by simp [results, Try.results73, go_sem, hres], rfl, HI4.out, HB4.out, HK4.out⟩
theorem qD0 (b1 g : Nat) (f0 : List Int) (p p' : Int) (k : Int) (w0 w : World) (hI : qAe w0 w g f0 p 0) (hB : Below w0.heap.size w0 w)
  (hfn : ∀ W, Below w.heap.size w W → qAe w0 W g f0 p 0 → Below w0.heap.size w0 W → Calls Try.prog 74 #[.pointer (some ⟨b1, 0, none⟩)] W fun e w' => e = .panicked [{ v := .iface 179 (.int .i64 k), recovered := false }] ∧ qAe w0 w' g f0 p' 0 ∧ Below w0.heap.size w0 w' ∧ qAd W w' g none) :
  Calls Try.prog 73 #[.pointer (some ⟨g, 0, none⟩), .func (.func 74) #[] #[.pointer (some ⟨b1, 0, none⟩)]] w fun e w' => e = .returned (.int .u64 0) ∧ qAe w0 w' g f0 p' k ∧ Below w0.heap.size w0 w' ∧ qAd w w' g none := by
 have HI := am hI
 have HB := am hB
 have HFN := am hfn
 have hgl := hI.lt
 obtain ⟨_, h1, h2, h3, v, hb, hr⟩ := hI
 have c1 : w.cell? ⟨g, 1, none⟩ = some (.int .i64 0) := (qAb hb 1).trans rfl
 clear hb hr hB h1 h2 h3 hfn
 go_enter_defers Try.func73, Try.ntmps73
 have HB3 := am (((Below.refl w.heap.size w).alloc (Nat.le_refl _) (.cells #[.pointer (some ⟨g, 0, none⟩)] 59)).alloc (by simp) (.cells #[.int .u64 0] 66))
 have H2 : qAf (((w.alloc (.cells #[.pointer (some ⟨g, 0, none⟩)] 59)).alloc (.cells #[.int .u64 0] 66)).heap[w.heap.size]? = some (.cells #[.pointer (some ⟨g, 0, none⟩)] 59 (0, 0))) := ⟨qAR (heap_alloc_new w _) _⟩
 have H3 : qAf (((w.alloc (.cells #[.pointer (some ⟨g, 0, none⟩)] 59)).alloc (.cells #[.int .u64 0] 66)).heap[w.heap.size + 1]? = some (.cells #[.int .u64 0] 66 (0, 0))) := ⟨by simpa using heap_alloc_new (w.alloc (.cells #[.pointer (some ⟨g, 0, none⟩)] 59)) (.cells #[.int .u64 0] 66)⟩
 go_wp2_with (go_at_call 74; refine (HFN.out _ HB3.out ((HI.out.alloc _).alloc _) (qAu (qAu HB.out _) _)).mono ?_; rintro e w4 ⟨rfl, hi, hbw, hk⟩)
 refine leaves_cons (f := 109) (args := #[.pointer (some ⟨w.heap.size + 1, 0, none⟩), .pointer (some ⟨w.heap.size, 0, none⟩)]) (by simp) (by simp [go_sem]) ?_
 have hv4 : w4.heap[w.heap.size + 1]? = some (.cells #[.int .u64 0] 66 (0, 0)) := (hk.2 _ (qAO H3.out) (by omega) (by simp)).trans H3.out
 have hq4 : w4.heap[w.heap.size]? = some (.cells #[.pointer (some ⟨g, 0, none⟩)] 59 (0, 0)) := (hk.2 _ (qAO H2.out) (by omega) (by simp)).trans H2.out
 obtain ⟨_, _, _, _, v4, hg4, _⟩ := id hi
 refine (qDy (w.heap.size + 1) g w.heap.size (.int .u64 0) k v4 [] _ ((qAb hv4 0).trans rfl) (qAc hv4 0) ((qAb hq4 0).trans rfl) hg4 (by omega) (by omega)).mono ?_
 rintro e u' w'' ⟨rfl, rfl, rfl⟩
 have HI5 := am ((hi.behind (p := ⟨w.heap.size + 1, 0, none⟩) (by show g < w.heap.size + 1; omega) (.int .u64 0)).set_e k)
 have HB5 := am (qAq (g := g) (j := 1) (v := .int .i64 k) (qAq (g := w.heap.size + 1) (j := 0) (v := .int .u64 0) hbw (Nat.le_trans HB.out.size (Nat.le_succ _))) HI.out.ge)
 have HK5 := am (qAd.set_ (qB9 (j := 0) HB3.out hk (Nat.le_succ _) (.int .u64 0)) 1 (.int .i64 k))
 have hvc := qA4 (g := w.heap.size + 1) (p := ⟨g, 1, none⟩) (qB5 hv4 0 (.int .u64 0)) (by show w.heap.size + 1 ≠ g; omega) (.int .i64 k)
 have hres := (qAb hvc 0).trans rfl
 clear hvc
 exact ⟨.int .u64 0, by simp [results, Try.results73, go_sem, hres], rfl, HI5.out, HB5.out, HK5.out⟩
def qA3.f (s0_0 : List Int) (s0_1 : Int) (s0_2 : Int) : Option (Int × Int × Int) :=
 some (if s0_2 ≠ 0 then (0, s0_1, s0_2) else if s0_1 + 2 ≤ s0_0.length then (wrap64 (numF ((s0_0.drop s0_1.toNat).take 2)), s0_1 + 2, 0) else (0, s0_1, 40))
theorem qA3.calls (g : Nat) (s0_0 : List Int) (s0_1 : Int) (s0_2 : Int) (r1 : Int) (r2 : Int) (r3 : Int) (w0 w : World) (hI : qAe w0 w g s0_0 s0_1 s0_2) (hB : Below w0.heap.size w0 w) (h : qA3.f s0_0 s0_1 s0_2 = some (r1, r2, r3)) :
  Calls Try.prog 27 #[.pointer (some ⟨g, 0, none⟩)] w fun e w' => e = .returned (.int .i64 r1) ∧ qAe w0 w' g s0_0 r2 r3 ∧ Below w0.heap.size w0 w' ∧ qAd w w' g none := by
 have HI := am (hI.alloc (.cells #[.pointer (some ⟨g, 0, none⟩)] 59))
 have HB := am (qAu hB (.cells #[.pointer (some ⟨g, 0, none⟩)] 59))
 have HK := am (qAV (qAd.refl w g none) (.cells #[.pointer (some ⟨g, 0, none⟩)] 59))
 have hq : (w.alloc (.cells #[.pointer (some ⟨g, 0, none⟩)] 59)).cell? ⟨w.heap.size, 0, none⟩ = some (.pointer (some ⟨g, 0, none⟩)) := (qAb (heap_alloc_new w _) 0).trans rfl
 have HQ : qAf (∀ W, Below (w.alloc (.cells #[.pointer (some ⟨g, 0, none⟩)] 59)).heap.size (w.alloc (.cells #[.pointer (some ⟨g, 0, none⟩)] 59)) W → W.cell? ⟨w.heap.size, 0, none⟩ = some (.pointer (some ⟨g, 0, none⟩))) := ⟨fun W hW => (hW.cell (p := ⟨w.heap.size, 0, none⟩) (by simp)).trans hq⟩
 clear hq
 have h0 : 0 ≤ s0_1 := hI.2.1
 unfold qA3.f at h
 injection h with h
 have HF : qAf (Calls Try.prog 70 #[.pointer (some ⟨g, 0, none⟩), .func (.func 77) #[] #[.pointer (some ⟨w.heap.size, 0, none⟩)]] (w.alloc (.cells #[.pointer (some ⟨g, 0, none⟩)] 59)) fun e w' => e = .returned (.int .i64 r1) ∧ qAe w0 w' g s0_0 r2 r3 ∧ Below w0.heap.size w0 w' ∧ qAd w w' g none) := by
  by_cases he : s0_2 ≠ 0
  ·rw [if_pos he] at h
   simp only [Prod.mk.injEq] at h
   obtain ⟨rfl, rfl, rfl⟩ := h
   exact ⟨(qBW _ g s0_0 _ _ w0 _ he HI.out HB.out).mono fun e' w' ⟨h1, h2, h3, h4⟩ => ⟨h1, h2, h3, HK.out.trans h4 (.inl rfl)⟩⟩
  rw [if_neg he] at h
  simp only [Decidable.not_not] at he
  subst he
  by_cases hlt : s0_1 + 2 ≤ s0_0.length
  ·rw [if_pos hlt] at h
   simp only [Prod.mk.injEq] at h
   obtain ⟨rfl, rfl, rfl⟩ := h
   exact ⟨(qD1 w.heap.size g s0_0 _ _ _ w0 _ HI.out HB.out (fun W h1 h2 h3 => short_fn_ok _ g s0_0 _ _ w0 W (HQ.out W h1) hlt h2 h3)).mono fun e' w' ⟨h1, h2, h3, h4⟩ => ⟨h1, h2, h3, HK.out.trans h4 (.inl rfl)⟩⟩
  rw [if_neg hlt] at h
  simp only [Prod.mk.injEq] at h
  obtain ⟨rfl, rfl, rfl⟩ := h
  exact ⟨(qDh w.heap.size g s0_0 _ _ _ w0 _ HI.out HB.out (fun W h1 h2 h3 => short_fn_bad _ g s0_0 _ _ w0 W (HQ.out W h1) (by omega) h2 h3)).mono fun e' w' ⟨h1, h2, h3, h4⟩ => ⟨h1, h2, h3, HK.out.trans h4 (.inl rfl)⟩⟩
 clear h hI hB h0
 go_enter Try.func27, Try.ntmps27
 go_wp2_with (go_at_call 70; refine HF.out.mono ?_; rintro e w' ⟨rfl, hi, hb, hk⟩; have HI2 := am hi; have HB2 := am hb; have HK2 := am hk; clear hi hb hk)
 go_ret
 exact ⟨rfl, HI2.out, HB2.out, HK2.out⟩
def qAB.f (s0_0 : List Int) (s0_1 : Int) (s0_2 : Int) : Option (Int × Int × Int) :=
 some (if s0_2 ≠ 0 then (0, s0_1, s0_2) else if s0_1 + 8 ≤ s0_0.length then (numF ((s0_0.drop s0_1.toNat).take 8), s0_1 + 8, 0) else (0, s0_1, 40))
theorem qAB.calls (g : Nat) (s0_0 : List Int) (s0_1 : Int) (s0_2 : Int) (r1 : Int) (r2 : Int) (r3 : Int) (w0 w : World) (hI : qAe w0 w g s0_0 s0_1 s0_2) (hB : Below w0.heap.size w0 w) (h : qAB.f s0_0 s0_1 s0_2 = some (r1, r2, r3)) :
  Calls Try.prog 25 #[.pointer (some ⟨g, 0, none⟩)] w fun e w' => e = .returned (.int .u64 r1) ∧ qAe w0 w' g s0_0 r2 r3 ∧ Below w0.heap.size w0 w' ∧ qAd w w' g none := by
 have HI := am (hI.alloc (.cells #[.pointer (some ⟨g, 0, none⟩)] 59))
 have HB := am (qAu hB (.cells #[.pointer (some ⟨g, 0, none⟩)] 59))
 have HK := am (qAV (qAd.refl w g none) (.cells #[.pointer (some ⟨g, 0, none⟩)] 59))
 have hq : (w.alloc (.cells #[.pointer (some ⟨g, 0, none⟩)] 59)).cell? ⟨w.heap.size, 0, none⟩ = some (.pointer (some ⟨g, 0, none⟩)) := (qAb (heap_alloc_new w _) 0).trans rfl
 have HQ : qAf (∀ W, Below (w.alloc (.cells #[.pointer (some ⟨g, 0, none⟩)] 59)).heap.size (w.alloc (.cells #[.pointer (some ⟨g, 0, none⟩)] 59)) W → W.cell? ⟨w.heap.size, 0, none⟩ = some (.pointer (some ⟨g, 0, none⟩))) := ⟨fun W hW => (hW.cell (p := ⟨w.heap.size, 0, none⟩) (by simp)).trans hq⟩
 clear hq
 have h0 : 0 ≤ s0_1 := hI.2.1
 unfold qAB.f at h
 injection h with h
 have HF : qAf (Calls Try.prog 73 #[.pointer (some ⟨g, 0, none⟩), .func (.func 74) #[] #[.pointer (some ⟨w.heap.size, 0, none⟩)]] (w.alloc (.cells #[.pointer (some ⟨g, 0, none⟩)] 59)) fun e w' => e = .returned (.int .u64 r1) ∧ qAe w0 w' g s0_0 r2 r3 ∧ Below w0.heap.size w0 w' ∧ qAd w w' g none) := by
  by_cases he : s0_2 ≠ 0
  ·rw [if_pos he] at h
   simp only [Prod.mk.injEq] at h
   obtain ⟨rfl, rfl, rfl⟩ := h
   exact ⟨(qDi _ g s0_0 _ _ w0 _ he HI.out HB.out).mono fun e' w' ⟨h1, h2, h3, h4⟩ => ⟨h1, h2, h3, HK.out.trans h4 (.inl rfl)⟩⟩
  rw [if_neg he] at h
  simp only [Decidable.not_not] at he
  subst he
  by_cases hlt : s0_1 + 8 ≤ s0_0.length
  ·rw [if_pos hlt] at h
   simp only [Prod.mk.injEq] at h
   obtain ⟨rfl, rfl, rfl⟩ := h
   exact ⟨(qDL w.heap.size g s0_0 _ _ _ w0 _ HI.out HB.out (fun W h1 h2 h3 => long_fn_ok _ g s0_0 _ _ w0 W (HQ.out W h1) hlt h2 h3)).mono fun e' w' ⟨h1, h2, h3, h4⟩ => ⟨h1, h2, h3, HK.out.trans h4 (.inl rfl)⟩⟩
  rw [if_neg hlt] at h
  simp only [Prod.mk.injEq] at h
  obtain ⟨rfl, rfl, rfl⟩ := h
  exact ⟨(qD0 w.heap.size g s0_0 _ _ _ w0 _ HI.out HB.out (fun W h1 h2 h3 => long_fn_bad _ g s0_0 _ _ w0 W (HQ.out W h1) (by omega) h2 h3)).mono fun e' w' ⟨h1, h2, h3, h4⟩ => ⟨h1, h2, h3, HK.out.trans h4 (.inl rfl)⟩⟩
 clear h hI hB h0
 go_enter Try.func25, Try.ntmps25
 go_wp2_with (go_at_call 73; refine HF.out.mono ?_; rintro e w' ⟨rfl, hi, hb, hk⟩; have HI2 := am hi; have HB2 := am hb; have HK2 := am hk; clear hi hb hk)
 go_ret
 exact ⟨rfl, HI2.out, HB2.out, HK2.out⟩
theorem numStep_nonneg (n x : Int) : 0 ≤ qCv n x := by
 unfold qCv Go.bits
 simp only [IntKind.wrap, IntKind.bits, IntKind.signed]
 have : ∀ a : Int, 0 ≤ a % (2 : Int) ^ 64 := fun a => Int.emod_nonneg _ (by decide)
 simp
 try omega
theorem qCJ (l : List Int) : 0 ≤ numF l := by
 unfold numF
 have : ∀ (l : List Int) (n : Int), 0 ≤ n → 0 ≤ l.foldl qCv n := by
  intro l
  induction l with
  | nil => intro n h; exact h
  | cons x l ih => intro n _; exact ih _ (numStep_nonneg n x)
 exact this l 0 (Int.le_refl 0)
def num4 (f0 : List Int) (p : Int) : Int := numF ((f0.drop p.toNat).take 4)
theorem qDU (g : Nat) (f0 : List Int) (p e : Int) (w0 w : World) (hlt : p + 4 ≤ f0.length) (hv : num4 f0 p ≤ 2147483647) (hI : qAe w0 w g f0 p e) (hB : Below w0.heap.size w0 w) :
  Calls Try.prog 72 #[.pointer (some ⟨g, 0, none⟩)] w fun e' w' => e' = .returned (.int .i64 (num4 f0 p)) ∧ qAe w0 w' g f0 (p + 4) e ∧ Below w0.heap.size w0 w' ∧ qAd w w' g none := by
 have HI := am hI
 have HB := am hB
 have h0 := hI.2.1
 have hx0 : 0 ≤ num4 f0 p := qCJ _
 obtain ⟨x, hx⟩ : ∃ x, x = num4 f0 p := ⟨_, rfl⟩
 have HX : qAf (x = numF ((f0.drop p.toNat).take 4)) := ⟨hx⟩
 rw [← hx] at hx0 hv ⊢
 clear hI hB hx
 have hl : ((f0.drop p.toNat).take 4).length = 4 := by rw [List.length_take, List.length_drop]; omega
 have HL := am hl
 clear hl
 go_enter Try.func72, Try.ntmps72
 go_wp2_with (first | (go_at_call 69; refine (qBE g f0 p e 4 w0 w (by omega) (by omega) HI.out).mono ?_; rintro e' w' ⟨A, c, v, rfl, hc, hC, hi, hw⟩; have hk := hw ▸ qAd.set_ (qAd.refl w g none) 0 v; have HK := am hk; have HN := am hi; have HBN := am (hw ▸ qAq (g := g) (j := 0) (v := v) HB.out HI.out.ge); have hnum := qBw A c ((f0.drop p.toNat).take 4) w' (by rw [HL.out]; exact hC) (by rw [HL.out]; exact hc) (by rw [HL.out]; decide); rw [HL.out, ← HX.out] at hnum; have HNM := am hnum; clear hk hi hw hC hnum) | (go_at_call 75; refine HNM.out.mono ?_; rintro e' w'' ⟨rfl, hd⟩; obtain ⟨m, rfl⟩ := hd.out))
 go_ret
 exact ⟨rfl, HN.out.drewN m, qA1 HBN.out m, qC6 HK.out m⟩
theorem rd_int_big (g : Nat) (f0 : List Int) (p e : Int) (w0 w : World) (hlt : p + 4 ≤ f0.length) (hv : 2147483647 < num4 f0 p) (hI : qAe w0 w g f0 p e) (hB : Below w0.heap.size w0 w) :
  Calls Try.prog 72 #[.pointer (some ⟨g, 0, none⟩)] w fun e' w' => e' = .panicked [{ v := .iface 179 (.int .i64 42), recovered := false }] ∧ qAe w0 w' g f0 (p + 4) e ∧ Below w0.heap.size w0 w' ∧ qAd w w' g none := by
 have HI := am hI
 have HB := am hB
 have h0 := hI.2.1
 have hx0 : 0 ≤ num4 f0 p := qCJ _
 obtain ⟨x, hx⟩ : ∃ x, x = num4 f0 p := ⟨_, rfl⟩
 have HX : qAf (x = numF ((f0.drop p.toNat).take 4)) := ⟨hx⟩
 rw [← hx] at hx0 hv
 clear hI hB hx
 have hl : ((f0.drop p.toNat).take 4).length = 4 := by rw [List.length_take, List.length_drop]; omega
 have HL := am hl
 clear hl
 go_enter Try.func72, Try.ntmps72
 go_wp2_with (first | (go_at_call 69; refine (qBE g f0 p e 4 w0 w (by omega) (by omega) HI.out).mono ?_; rintro e' w' ⟨A, c, v, rfl, hc, hC, hi, hw⟩; have hk := hw ▸ qAd.set_ (qAd.refl w g none) 0 v; have HK := am hk; have HN := am hi; have HBN := am (hw ▸ qAq (g := g) (j := 0) (v := v) HB.out HI.out.ge); have hnum := qBw A c ((f0.drop p.toNat).take 4) w' (by rw [HL.out]; exact hC) (by rw [HL.out]; exact hc) (by rw [HL.out]; decide); rw [HL.out, ← HX.out] at hnum; have HNM := am hnum; clear hk hi hw hC hnum) | (go_at_call 75; refine HNM.out.mono ?_; rintro e' w'' ⟨rfl, hd⟩; obtain ⟨m, rfl⟩ := hd.out))
 skip
 exact ⟨rfl, rfl, HN.out.drewN m, qA1 HBN.out m, qC6 HK.out m⟩
theorem qDT (g : Nat) (f0 : List Int) (p e : Int) (w0 w : World) (hlt : f0.length < p + 4) (hI : qAe w0 w g f0 p e) (hB : Below w0.heap.size w0 w) :
  Calls Try.prog 72 #[.pointer (some ⟨g, 0, none⟩)] w fun e' w' => e' = .panicked [{ v := .iface 179 (.int .i64 40), recovered := false }] ∧ qAe w0 w' g f0 p e ∧ Below w0.heap.size w0 w' ∧ qAd w w' g none := by
 have HI := am hI
 have HB := am hB
 clear hI hB
 go_enter Try.func72, Try.ntmps72
 go_wp2_with (go_at_call 69; refine (qB7 g f0 p e 4 w0 w (by omega) HI.out).mono ?_; rintro e' w' ⟨rfl, rfl⟩)
 exact ⟨rfl, rfl, HI.out, HB.out, qAd.refl _ _ _⟩
theorem int_fn_ret (b1 g : Nat) (x : Int) (R : Ending → World → Prop) (w : World) (hq : w.cell? ⟨b1, 0, none⟩ = some (.pointer (some ⟨g, 0, none⟩)))
  (h : Calls Try.prog 72 #[.pointer (some ⟨g, 0, none⟩)] w fun e w' => e = .returned (.int .i64 x) ∧ R e w') :
  Calls Try.prog 71 #[.pointer (some ⟨b1, 0, none⟩)] w R := by
 have H := am h
 clear h
 go_enter Try.func71, Try.ntmps71
 go_wp2_with (go_at_call 72; refine H.out.mono ?_; rintro e w' ⟨rfl, hR⟩; have HR := am hR; clear hR)
 exact HR.out
theorem int_fn_pan (b1 g : Nat) (c : List PanicEntry) (R : Ending → World → Prop) (w : World) (hq : w.cell? ⟨b1, 0, none⟩ = some (.pointer (some ⟨g, 0, none⟩)))
  (h : Calls Try.prog 72 #[.pointer (some ⟨g, 0, none⟩)] w fun e w' => e = .panicked c ∧ R e w') :
  Calls Try.prog 71 #[.pointer (some ⟨b1, 0, none⟩)] w R := by
 have H := am h
 clear h
 go_enter Try.func71, Try.ntmps71
 go_wp2_with (go_at_call 72; refine H.out.mono ?_; rintro e w' ⟨rfl, hR⟩; have HR := am hR; clear hR)
 exact ⟨rfl, HR.out⟩
theorem guarded_int_ok (b1 g : Nat) (f0 : List Int) (p p' : Int) (x : Int) (w0 w : World) (hI : qAe w0 w g f0 p 0) (hB : Below w0.heap.size w0 w)
  (hfn : ∀ W, Below w.heap.size w W → qAe w0 W g f0 p 0 → Below w0.heap.size w0 W → Calls Try.prog 71 #[.pointer (some ⟨b1, 0, none⟩)] W fun e w' => e = .returned (.int .i64 x) ∧ qAe w0 w' g f0 p' 0 ∧ Below w0.heap.size w0 w' ∧ qAd W w' g none) :
  Calls Try.prog 70 #[.pointer (some ⟨g, 0, none⟩), .func (.func 71) #[] #[.pointer (some ⟨b1, 0, none⟩)]] w fun e w' => e = .returned (.int .i64 x) ∧ qAe w0 w' g f0 p' 0 ∧ Below w0.heap.size w0 w' ∧ qAd w w' g none := by
 have HI := am hI
 have HB := am hB
 have HFN := am hfn
 have hgl := hI.lt
 obtain ⟨_, h1, h2, h3, v, hb, hr⟩ := hI
 have c1 : w.cell? ⟨g, 1, none⟩ = some (.int .i64 0) := (qAb hb 1).trans rfl
 clear hb hr hB h1 h2 h3 hfn
 go_enter_defers Try.func70, Try.ntmps70
 have HB3 := am (((Below.refl w.heap.size w).alloc (Nat.le_refl _) (.cells #[.pointer (some ⟨g, 0, none⟩)] 59)).alloc (by simp) (.cells #[.int .i64 0] 3))
 have H3 : qAf (((w.alloc (.cells #[.pointer (some ⟨g, 0, none⟩)] 59)).alloc (.cells #[.int .i64 0] 3)).heap[w.heap.size + 1]? = some (.cells #[.int .i64 0] 3 (0, 0))) := ⟨by simpa using heap_alloc_new (w.alloc (.cells #[.pointer (some ⟨g, 0, none⟩)] 59)) (.cells #[.int .i64 0] 3)⟩
 go_wp2_with (go_at_call 71; refine (HFN.out _ HB3.out ((HI.out.alloc _).alloc _) (qAu (qAu HB.out _) _)).mono ?_; rintro e w4 ⟨rfl, hi, hbw, hk⟩; have hv4 : w4.heap[w.heap.size + 1]? = some (.cells #[.int .i64 0] 3 (0, 0)) := (hk.2 _ (qAO H3.out) (by omega) (by simp)).trans H3.out; have v4 : w4.cell? ⟨w.heap.size + 1, 0, none⟩ = some (.int .i64 0) := (qAb hv4 0).trans rfl; have z4 := qAc hv4 0; have HI4 := am (hi.behind (p := ⟨w.heap.size + 1, 0, none⟩) (by show g < w.heap.size + 1; omega) (.int .i64 x)); have HK4 := am (qB9 (j := 0) HB3.out hk (Nat.le_succ _) (.int .i64 x)); have HV4 := am hv4; have HB4 := am (qAq (g := w.heap.size + 1) (j := 0) (v := .int .i64 x) hbw (Nat.le_trans HB.out.size (Nat.le_succ _))); clear hi hk hv4 hbw)
 refine leaves_cons (f := 108) (args := #[.pointer (some ⟨w.heap.size + 1, 0, none⟩), .pointer (some ⟨w.heap.size, 0, none⟩)]) (by simp) (by simp [go_sem]) ?_
 refine (qCC _ _ _).mono ?_
 rintro e u' w'' ⟨rfl, rfl, rfl⟩
 have hvc : (w4.setCell ⟨w.heap.size + 1, 0, none⟩ (.int .i64 x)).heap[w.heap.size + 1]? = some (.cells #[.int .i64 x] 3 (0, 0)) := by simpa using qB5 HV4.out 0 (.int .i64 x)
 have hres := (qAb hvc 0).trans rfl
 exact ⟨.int .i64 x, by simp [results, Try.results70, go_sem, hres], rfl, HI4.out, HB4.out, HK4.out⟩
theorem qCs (b1 g : Nat) (f0 : List Int) (p p' : Int) (k : Int) (w0 w : World) (hI : qAe w0 w g f0 p 0) (hB : Below w0.heap.size w0 w)
  (hfn : ∀ W, Below w.heap.size w W → qAe w0 W g f0 p 0 → Below w0.heap.size w0 W → Calls Try.prog 71 #[.pointer (some ⟨b1, 0, none⟩)] W fun e w' => e = .panicked [{ v := .iface 179 (.int .i64 k), recovered := false }] ∧ qAe w0 w' g f0 p' 0 ∧ Below w0.heap.size w0 w' ∧ qAd W w' g none) :
  Calls Try.prog 70 #[.pointer (some ⟨g, 0, none⟩), .func (.func 71) #[] #[.pointer (some ⟨b1, 0, none⟩)]] w fun e w' => e = .returned (.int .i64 0) ∧ qAe w0 w' g f0 p' k ∧ Below w0.heap.size w0 w' ∧ qAd w w' g none := by
 have HI := am hI
 have HB := am hB
 have HFN := am hfn
 have hgl := hI.lt
 obtain ⟨_, h1, h2, h3, v, hb, hr⟩ := hI
 have c1 : w.cell? ⟨g, 1, none⟩ = some (.int .i64 0) := (qAb hb 1).trans rfl
 clear hb hr hB h1 h2 h3 hfn
 go_enter_defers Try.func70, Try.ntmps70
 have HB3 := am (((Below.refl w.heap.size w).alloc (Nat.le_refl _) (.cells #[.pointer (some ⟨g, 0, none⟩)] 59)).alloc (by simp) (.cells #[.int .i64 0] 3))
 have H2 : qAf (((w.alloc (.cells #[.pointer (some ⟨g, 0, none⟩)] 59)).alloc (.cells #[.int .i64 0] 3)).heap[w.heap.size]? = some (.cells #[.pointer (some ⟨g, 0, none⟩)] 59 (0, 0))) := ⟨qAR (heap_alloc_new w _) _⟩
 have H3 : qAf (((w.alloc (.cells #[.pointer (some ⟨g, 0, none⟩)] 59)).alloc (.cells #[.int .i64 0] 3)).heap[w.heap.size + 1]? = some (.cells #[.int .i64 0] 3 (0, 0))) := ⟨by simpa using heap_alloc_new (w.alloc (.cells #[.pointer (some ⟨g, 0, none⟩)] 59)) (.cells #[.int .i64 0] 3)⟩
 go_wp2_with (go_at_call 71; refine (HFN.out _ HB3.out ((HI.out.alloc _).alloc _) (qAu (qAu HB.out _) _)).mono ?_; rintro e w4 ⟨rfl, hi, hbw, hk⟩)
 refine leaves_cons (f := 108) (args := #[.pointer (some ⟨w.heap.size + 1, 0, none⟩), .pointer (some ⟨w.heap.size, 0, none⟩)]) (by simp) (by simp [go_sem]) ?_
 have hv4 : w4.heap[w.heap.size + 1]? = some (.cells #[.int .i64 0] 3 (0, 0)) := (hk.2 _ (qAO H3.out) (by omega) (by simp)).trans H3.out
 have hq4 : w4.heap[w.heap.size]? = some (.cells #[.pointer (some ⟨g, 0, none⟩)] 59 (0, 0)) := (hk.2 _ (qAO H2.out) (by omega) (by simp)).trans H2.out
 obtain ⟨_, _, _, _, v4, hg4, _⟩ := id hi
 refine (qCi (w.heap.size + 1) g w.heap.size (.int .i64 0) k v4 [] _ ((qAb hv4 0).trans rfl) (qAc hv4 0) ((qAb hq4 0).trans rfl) hg4 (by omega) (by omega)).mono ?_
 rintro e u' w'' ⟨rfl, rfl, rfl⟩
 have HI5 := am ((hi.behind (p := ⟨w.heap.size + 1, 0, none⟩) (by show g < w.heap.size + 1; omega) (.int .i64 0)).set_e k)
 have HB5 := am (qAq (g := g) (j := 1) (v := .int .i64 k) (qAq (g := w.heap.size + 1) (j := 0) (v := .int .i64 0) hbw (Nat.le_trans HB.out.size (Nat.le_succ _))) HI.out.ge)
 have HK5 := am (qAd.set_ (qB9 (j := 0) HB3.out hk (Nat.le_succ _) (.int .i64 0)) 1 (.int .i64 k))
 have hvc := qA4 (g := w.heap.size + 1) (p := ⟨g, 1, none⟩) (qB5 hv4 0 (.int .i64 0)) (by show w.heap.size + 1 ≠ g; omega) (.int .i64 k)
 have hres := (qAb hvc 0).trans rfl
 clear hvc
 exact ⟨.int .i64 0, by simp [results, Try.results70, go_sem, hres], rfl, HI5.out, HB5.out, HK5.out⟩
def qA2.f (s0_0 : List Int) (s0_1 : Int) (s0_2 : Int) : Option (Int × Int × Int) :=
 some (if s0_2 ≠ 0 then (0, s0_1, s0_2) else if s0_1 + 4 ≤ s0_0.length then (if num4 s0_0 s0_1 ≤ 2147483647 then (num4 s0_0 s0_1, s0_1 + 4, 0) else (0, s0_1 + 4, 42)) else (0, s0_1, 40))
theorem qA2.calls (g : Nat) (s0_0 : List Int) (s0_1 : Int) (s0_2 : Int) (r1 : Int) (r2 : Int) (r3 : Int) (w0 w : World) (hI : qAe w0 w g s0_0 s0_1 s0_2) (hB : Below w0.heap.size w0 w) (h : qA2.f s0_0 s0_1 s0_2 = some (r1, r2, r3)) :
  Calls Try.prog 23 #[.pointer (some ⟨g, 0, none⟩)] w fun e w' => e = .returned (.int .i64 r1) ∧ qAe w0 w' g s0_0 r2 r3 ∧ Below w0.heap.size w0 w' ∧ qAd w w' g none := by
 have HI := am (hI.alloc (.cells #[.pointer (some ⟨g, 0, none⟩)] 59))
 have HB := am (qAu hB (.cells #[.pointer (some ⟨g, 0, none⟩)] 59))
 have HK := am (qAV (qAd.refl w g none) (.cells #[.pointer (some ⟨g, 0, none⟩)] 59))
 have hq : (w.alloc (.cells #[.pointer (some ⟨g, 0, none⟩)] 59)).cell? ⟨w.heap.size, 0, none⟩ = some (.pointer (some ⟨g, 0, none⟩)) := (qAb (heap_alloc_new w _) 0).trans rfl
 have HQ : qAf (∀ W, Below (w.alloc (.cells #[.pointer (some ⟨g, 0, none⟩)] 59)).heap.size (w.alloc (.cells #[.pointer (some ⟨g, 0, none⟩)] 59)) W → W.cell? ⟨w.heap.size, 0, none⟩ = some (.pointer (some ⟨g, 0, none⟩))) := ⟨fun W hW => (hW.cell (p := ⟨w.heap.size, 0, none⟩) (by simp)).trans hq⟩
 clear hq
 have h0 : 0 ≤ s0_1 := hI.2.1
 unfold qA2.f at h
 injection h with h
 have HF : qAf (Calls Try.prog 70 #[.pointer (some ⟨g, 0, none⟩), .func (.func 71) #[] #[.pointer (some ⟨w.heap.size, 0, none⟩)]] (w.alloc (.cells #[.pointer (some ⟨g, 0, none⟩)] 59)) fun e w' => e = .returned (.int .i64 r1) ∧ qAe w0 w' g s0_0 r2 r3 ∧ Below w0.heap.size w0 w' ∧ qAd w w' g none) := by
  by_cases he : s0_2 ≠ 0
  ·rw [if_pos he] at h
   simp only [Prod.mk.injEq] at h
   obtain ⟨rfl, rfl, rfl⟩ := h
   exact ⟨(qBW _ g s0_0 _ _ w0 _ he HI.out HB.out).mono fun e' w' ⟨h1, h2, h3, h4⟩ => ⟨h1, h2, h3, HK.out.trans h4 (.inl rfl)⟩⟩
  rw [if_neg he] at h
  simp only [Decidable.not_not] at he
  subst he
  by_cases hlt : s0_1 + 4 ≤ s0_0.length
  rotate_left
  ·rw [if_neg hlt] at h
   simp only [Prod.mk.injEq] at h
   obtain ⟨rfl, rfl, rfl⟩ := h
   exact ⟨(qCs w.heap.size g s0_0 _ _ _ w0 _ HI.out HB.out (fun W h1 h2 h3 => int_fn_pan _ g _ _ W (HQ.out W h1) ((qDT g s0_0 _ _ w0 W (by omega) h2 h3).mono fun e w' h => ⟨h.1, h⟩))).mono fun e' w' ⟨h1, h2, h3, h4⟩ => ⟨h1, h2, h3, HK.out.trans h4 (.inl rfl)⟩⟩
  rw [if_pos hlt] at h
  by_cases hv : num4 s0_0 s0_1 ≤ 2147483647
  ·rw [if_pos hv] at h
   simp only [Prod.mk.injEq] at h
   obtain ⟨rfl, rfl, rfl⟩ := h
   exact ⟨(guarded_int_ok w.heap.size g s0_0 _ _ _ w0 _ HI.out HB.out (fun W h1 h2 h3 => int_fn_ret _ g _ _ W (HQ.out W h1) ((qDU g s0_0 _ _ w0 W hlt hv h2 h3).mono fun e w' h => ⟨h.1, h⟩))).mono fun e' w' ⟨h1, h2, h3, h4⟩ => ⟨h1, h2, h3, HK.out.trans h4 (.inl rfl)⟩⟩
  rw [if_neg hv] at h
  simp only [Prod.mk.injEq] at h
  obtain ⟨rfl, rfl, rfl⟩ := h
  exact ⟨(qCs w.heap.size g s0_0 _ _ _ w0 _ HI.out HB.out (fun W h1 h2 h3 => int_fn_pan _ g _ _ W (HQ.out W h1) ((rd_int_big g s0_0 _ _ w0 W hlt (by omega) h2 h3).mono fun e w' h => ⟨h.1, h⟩))).mono fun e' w' ⟨h1, h2, h3, h4⟩ => ⟨h1, h2, h3, HK.out.trans h4 (.inl rfl)⟩⟩
 clear h hI hB h0
 go_enter Try.func23, Try.ntmps23
 go_wp2_with (go_at_call 70; refine HF.out.mono ?_; rintro e w' ⟨rfl, hi, hb, hk⟩; have HI2 := am hi; have HB2 := am hb; have HK2 := am hk; clear hi hb hk)
 go_ret
 exact ⟨rfl, HI2.out, HB2.out, HK2.out⟩
theorem cl_info_bytes : (Try.prog.info? 5).map (fun i => (i.zero, i.size, i.bytes)) = some (some (.int .u8 0), 1, 1) := by kernel_rfl
def qAG.f (l0 : List Int) : Option (List Int) := if l0.length ≤ 4294967296 then some l0 else none
theorem qAG.calls (A0 : Option Addr) (c0 : Nat) (l0 : List Int) (r : List Int) (w : World) (hr0 : Kd.C (Kd.int .u8) w A0 l0.length l0) (hc0 : l0.length ≤ c0) (h : qAG.f l0 = some r) :
  Calls Try.prog 66 #[.slice A0 l0.length c0] w fun e w' => ∃ v0_ : Value, e = .returned (v0_) ∧ Kd.R (Kd.int .u8) 5 w' w.heap.size (fun _ => True) v0_ r ∧ Below w.heap.size w w' := by
 unfold qAG.f at h
 split at h
 case isFalse => cases h
 rename_i hl
 injection h with h
 subst h
 have HC := am hr0
 have HL := am hl
 clear hr0 hc0
 obtain ⟨n, hn⟩ : ∃ n, n = l0.length := ⟨_, rfl⟩
 cases A0 with
 | none =>
  have h0 : l0 = [] := by
   rcases Nat.eq_zero_or_pos l0.length with h | h
   ·exact List.length_eq_zero_iff.1 h
   obtain ⟨ad, had, _⟩ := HC.out.2.2 h; cases had
  subst h0
  have hq := Lib.run_eql_slice_nil (P := Try.prog) w 22 5 none 0 c0 0 0 Try.underlying22
  clear hn HL hl
  go_enter Try.func66, Try.ntmps66
  go_wp2
  go_ret
  exact ⟨_, rfl, Kd.R_nil _ _ _ _ _, Below.refl _ _⟩
 | some a =>
  obtain ⟨i0, hi, hz0, hz1, hz2⟩ := info_parts cl_info_bytes
  have hq := Lib.run_eql_slice_nil (P := Try.prog) w 22 5 (some a) n c0 0 0 Try.underlying22
  have hown : (w.alloc (.cells #[] 5)).ownsRow w.heap.size 5 1 (.slice (some ⟨w.heap.size, 0, none⟩) 0 0) 0 [] := World.ownsRow_made w #[] 0 (Nat.le_refl _) (by unfold maxLen; omega) rfl
  rw [← hn]
  have HN := am hn
  by_cases h0 : n = 0
  ·have h1 : l0 = [] := List.length_eq_zero_iff.1 (by omega)
   subst h0; subst h1
   clear hn HL hl
   go_enter Try.func66, Try.ntmps66
   go_wp2_with (at_builtin; refine Base.wpList_append_zero rfl _ _ 22 rfl w.heap.size 5 i0 1 Try.underlying22 hi _ _ _ rfl hown (some a) c0 rfl ?_)
   go_ret
   exact ⟨_, rfl, ⟨fun _ _ => trivial, [], hown, Reps.none _ _⟩, (Below.refl _ _).alloc (Nat.le_refl _) _⟩
  have hnews : ∀ j u, (encs (Value.int .u8) l0)[j]? = some u → (w.alloc (.cells #[] 5)).cell? (a.add j) = some u := fun j u hu => by
   obtain ⟨ad, had, hcell⟩ := HC.out.2.2 (by omega)
   cases had
   have hj : j < l0.length := by have := (List.getElem?_eq_some_iff.1 hu).1; rwa [qCd] at this
   obtain ⟨c, hcl, hK, hcc⟩ := hcell j _ (List.getElem?_eq_getElem hj)
   obtain rfl : c = [Value.int .u8 l0[j]] := hK
   have h2 := hcc 0 _ rfl
   rw [show j * (Kd.int .u8).sz + 0 = j from Nat.mul_one j] at h2
   have hu' : u = Value.int .u8 l0[j] := by
    have := (List.getElem?_eq_some_iff.1 hu).2
    rw [← this]; simp [encs]
   rw [hu']
   exact (((Below.refl w.heap.size w).alloc (Nat.le_refl _) _).cell (World.block_lt_of_cell? w _ h2)).trans h2
  have HNW := am hnews
  clear hnews hn hl
  go_enter Try.func66, Try.ntmps66
  go_wp2_with (at_builtin; refine wpList_append_lies _ rfl _ _ 22 rfl w.heap.size 5 i0 (.int .u8 0) 1 1 Try.underlying22 hi hz0 hz1 hz2 rfl (by decide) _ _ _ rfl hown a n c0 (encs (Value.int .u8) l0) rfl ?c9 HNW.out ?c2 ?c0 ?c3 ?c4 ?c5 _ rfl ?_)
  case c9 => rw [qCd, HN.out]; omega
  case c2 => intro u hu; obtain ⟨y, _, rfl⟩ := List.mem_map.1 hu; rfl
  case c0 => omega
  case c3 => have := HN.out; have := HL.out; unfold maxLen; omega
  case c4 => have := HN.out; have := HL.out; omega
  case c5 => simp
  intro g cap w1 hown' hgrow hgg hlt
  have H1 : qAf (w1.ownsRow w.heap.size 5 1 (.slice (some ⟨g, 0, none⟩) n cap) n (encs (Value.int .u8) l0)) := ⟨by simpa using hown'⟩
  have H2 : qAf (Below w.heap.size w w1) := ⟨((Below.refl _ _).alloc (Nat.le_refl _) _).grown hgrow (by simp) (fun j hj => (hown.lt j hj).1)⟩
  clear hown' hgrow hgg hlt hown
  go_wp2
  go_ret
  exact ⟨.slice (some ⟨g, 0, none⟩) n cap, by simp, Kd.R_of_own (by rw [← HN.out]; exact H1.out) (fun _ _ => trivial), H2.out⟩
theorem RdB.of_R {W : World} {b0 g base : Nat} {bs : List Int} {v : Value} (h : Kd.R (Kd.int .u8) 5 W base (fun _ => True) v bs) (h0 : b0 ≤ base) (hg : W.heap.size ≤ g) : RdB W b0 g bs v := by
 rcases Nat.eq_zero_or_pos bs.length with hz | hp
 ·obtain ⟨A, c, hv⟩ := Kd.R_slice h
  exact .inl ⟨List.length_eq_zero_iff.1 hz, A, c, by rw [hv, hz]⟩
 obtain ⟨A, c, hv, hcl, hC⟩ := Kd.R_reads h
 obtain ⟨inner, hown⟩ := Kd.R_own h
 rcases hown.2 with ⟨hv2, _⟩ | ⟨gb, cap, cur, hv2, hb, hcur, _⟩
 ·rw [hv] at hv2; injection hv2 with _ h2 _; omega
 rw [hv] at hv2; injection hv2 with h1 _ h3; subst h1; subst h3
 refine .inr ⟨gb, 0, c, cur, by omega, Nat.lt_of_lt_of_le (qAO hcur) hg, hv, hp, hcl, hcur, fun j y hj => ?_⟩
 obtain ⟨ad, had, hcell⟩ := hC.2.2 hp
 cases had
 obtain ⟨cs, _, hK, hcc⟩ := hcell j y hj
 obtain rfl : cs = [Value.int .u8 y] := hK
 have h2 := hcc 0 _ rfl
 rw [show j * (Kd.int .u8).sz + 0 = j from Nat.mul_one j, qBP] at h2
 rw [Nat.zero_add, ← qAb hcur]; exact h2
def qBI.f (l0 : List Int) : Option (List Int × Int × Int) := if l0.length ≤ 4294967296 then some (l0, 0, 0) else none
theorem qBI.calls (A0 : Option Addr) (c0 : Nat) (l0 : List Int) (r1 : List Int) (r2 : Int) (r3 : Int) (w0 w : World) (hB : Below w0.heap.size w0 w) (hr0 : Kd.C (Kd.int .u8) w0 A0 l0.length l0) (hc0 : l0.length ≤ c0) (h : qBI.f l0 = some (r1, r2, r3)) :
  Calls Try.prog 19 #[.slice A0 l0.length c0] w fun e w' => ∃ g_ : Nat, e = .returned (.pointer (some ⟨g_, 0, none⟩)) ∧ qAe w0 w' g_ r1 r2 r3 ∧ Below w0.heap.size w0 w' ∧ Below w.heap.size w w' := by
 unfold qBI.f at h
 split at h
 case isFalse => cases h
 rename_i hl
 simp only [Option.some.injEq, Prod.mk.injEq] at h
 obtain ⟨rfl, rfl, rfl⟩ := h
 have HB := am hB
 have HCL := am (qAG.calls A0 c0 l0 l0 w (Kd.C_below hr0 hB) hc0 (by unfold qAG.f; rw [if_pos hl]))
 have HL := am hl
 clear hB hr0 hc0 hl
 go_enter Try.func19, Try.ntmps19
 go_wp2_with (go_at_call 66; refine HCL.out.mono ?_; rintro e w1 ⟨v, rfl, hR, hb⟩; obtain ⟨A1, c1, ev⟩ := Kd.R_slice hR; subst ev; have HR := am hR; have HB1 := am hb; clear hR hb)
 go_ret
 refine ⟨w1.heap.size, rfl, ⟨Nat.le_trans HB.out.size HB1.out.size, Int.le_refl 0, by omega, by have := HL.out; omega, .slice A1 l0.length c1, by simpa using heap_alloc_new w1 (.cells #[.slice A1 l0.length c1, .int .i64 0] 144), ?_⟩, ?_, ?_⟩
 ·exact (RdB.of_R HR.out HB.out.size (Nat.le_refl _)).move fun gb cells hc => (qAu (Below.refl _ _) _).block gb (qAO hc)
 ·exact qAu (qAw HB.out HB.out.size HB1.out) _
 ·exact qAu HB1.out _
end Q
end
section
namespace Q
open Go.RowKit PA PB PC
attribute [local go_sem] qBd min2_int qBp min_two max_three min_three max_four min_four
theorem rd_next_zero (g : Nat) (f0 : List Int) (p e : Int) (w0 w : World) (hI : qAe w0 w g f0 p e) :
  Calls Try.prog 69 #[.pointer (some ⟨g, 0, none⟩), .int .i64 0] w fun e' w' => ∃ A c v, e' = .returned (.slice A 0 c) ∧ qAe w0 w' g f0 p e ∧ w' = w.setCell ⟨g, 0, none⟩ v := by
 have HI := am hI
 obtain ⟨_, h1, h2, h3, v, hb, hr⟩ := hI
 have hlen : (f0.drop p.toNat).length = f0.length - p.toNat := List.length_drop
 have HR := am hr
 obtain ⟨A, c, rfl⟩ := hr.form
 have c0 : w.cell? ⟨g, 0, none⟩ = some _ := (qAb hb 0).trans rfl
 have f0z := qAc hb 0
 obtain ⟨m, hm⟩ : ∃ m, m = (f0.drop p.toNat).length := ⟨_, rfl⟩
 have hml : m ≤ 9223372036854775807 := by omega
 rw [← hm] at c0
 have HS : qAf (qAe w0 (w.setCell ⟨g, 0, none⟩ (.slice A m c)) g f0 p e) := ⟨HI.out.set_b h1 h2 (by rw [hm]; exact HR.out)⟩
 have hcap : m ≤ c ∨ m = 0 := by
  rcases HR.out with ⟨hz, _⟩ | ⟨gb, o, c', cells, _, _, hv, _, hcl, _⟩
  ·right; rw [hm, hz]; rfl
  injection hv with _ _ hc; subst hc; left; omega
 clear hr hb hlen hm
 cases A with
 | none =>
  go_enter Try.func69, Try.ntmps69
  go_wp2
  go_ret
  exact ⟨none, c, _, rfl, HS.out, rfl⟩
 | some ad =>
  go_enter Try.func69, Try.ntmps69
  go_wp2
  go_ret
  exact ⟨some ad, c, _, rfl, HS.out, rfl⟩
theorem qDS (g : Nat) (f0 : List Int) (p e most : Int) (w0 w : World) (hlt : p + 4 ≤ f0.length) (hv : num4 f0 p ≤ 2147483647) (hm : num4 f0 p ≤ mx most 0) (hI : qAe w0 w g f0 p e) (hB : Below w0.heap.size w0 w) :
  Calls Try.prog 100 #[.pointer (some ⟨g, 0, none⟩), .int .i64 most] w fun e' w' => e' = .returned (.int .i64 (num4 f0 p)) ∧ qAe w0 w' g f0 (p + 4) e ∧ Below w0.heap.size w0 w' ∧ qAd w w' g none := by
 have HF := am (qDU g f0 p e w0 w hlt hv hI hB)
 have hm1 : most < 0 → decide (0 < num4 f0 p) = false := fun h => by unfold mx at hm; rw [if_pos h] at hm; simp; omega
 have hm2 : ¬ most < 0 → decide (most < num4 f0 p) = false := fun h => by unfold mx at hm; rw [if_neg h] at hm; simp; omega
 generalize num4 f0 p = x at *
 clear hI hB hlt hm
 by_cases hz : most < 0
 all_goals first | have hm' := hm1 hz | have hm' := hm2 hz
 all_goals clear hm1 hm2
 all_goals go_enter Try.func100, Try.ntmps100
 all_goals go_wp2_with (go_at_call 72; refine HF.out.mono ?_; rintro e' w' ⟨rfl, hi, hb, hk⟩; have HI := am hi; have HB := am hb; have HK := am hk; clear hi hb hk)
 all_goals go_ret
 all_goals exact ⟨rfl, HI.out, HB.out, HK.out⟩
theorem rd_count_big (g : Nat) (f0 : List Int) (p e most : Int) (w0 w : World) (hlt : p + 4 ≤ f0.length) (hv : num4 f0 p ≤ 2147483647) (hm : mx most 0 < num4 f0 p) (hI : qAe w0 w g f0 p e) (hB : Below w0.heap.size w0 w) :
  Calls Try.prog 100 #[.pointer (some ⟨g, 0, none⟩), .int .i64 most] w fun e' w' => e' = .panicked [{ v := .iface 179 (.int .i64 3), recovered := false }] ∧ qAe w0 w' g f0 (p + 4) e ∧ Below w0.heap.size w0 w' ∧ qAd w w' g none := by
 have HF := am (qDU g f0 p e w0 w hlt hv hI hB)
 have hm1 : most < 0 → decide (0 < num4 f0 p) = true := fun h => by unfold mx at hm; rw [if_pos h] at hm; simp; omega
 have hm2 : ¬ most < 0 → decide (most < num4 f0 p) = true := fun h => by unfold mx at hm; rw [if_neg h] at hm; simp; omega
 generalize num4 f0 p = x at *
 clear hI hB hlt hm
 by_cases hz : most < 0
 all_goals first | have hm' := hm1 hz | have hm' := hm2 hz
 all_goals clear hm1 hm2
 all_goals go_enter Try.func100, Try.ntmps100
 all_goals go_wp2_with (go_at_call 72; refine HF.out.mono ?_; rintro e' w' ⟨rfl, hi, hb, hk⟩; have HI := am hi; have HB := am hb; have HK := am hk; clear hi hb hk)
 all_goals exact ⟨rfl, rfl, HI.out, HB.out, HK.out⟩
theorem qDu (g : Nat) (most : Int) (c : List PanicEntry) (R : World → Prop) (w : World)
  (h : Calls Try.prog 72 #[.pointer (some ⟨g, 0, none⟩)] w fun e w' => e = .panicked c ∧ R w') :
  Calls Try.prog 100 #[.pointer (some ⟨g, 0, none⟩), .int .i64 most] w fun e w' => e = .panicked c ∧ R w' := by
 have H := am h
 clear h
 go_enter Try.func100, Try.ntmps100
 go_wp2_with (go_at_call 72; refine H.out.mono ?_; rintro e w' ⟨rfl, hR⟩; have HR := am hR; clear hR)
 exact ⟨rfl, rfl, HR.out⟩
end Q
end
section
namespace Q
open Go.RowKit PA PB PC
theorem drop_take_len (f0 : List Int) (p : Int) (n : Nat) (h0 : 0 ≤ p) (h : p + n ≤ f0.length) : ((f0.drop p.toNat).take n).length = n := by rw [List.length_take, List.length_drop]; omega
theorem rd_next_any (g : Nat) (f0 : List Int) (p e : Int) (n : Nat) (w0 w : World) (hle : p + n ≤ f0.length) (hI : qAe w0 w g f0 p e) :
  Calls Try.prog 69 #[.pointer (some ⟨g, 0, none⟩), .int .i64 n] w fun e' w' => ∃ A c v, e' = .returned (.slice A n c) ∧ n ≤ c ∧ Kd.C (Kd.int .u8) w' A n ((f0.drop p.toNat).take n) ∧ qAe w0 w' g f0 (p + n) e ∧ w' = w.setCell ⟨g, 0, none⟩ v := by
 rcases Nat.eq_zero_or_pos n with rfl | hn
 ·refine (rd_next_zero g f0 p e w0 w hI).mono ?_
  rintro e' w' ⟨A, c, v, he, hi, hw⟩
  exact ⟨A, c, v, he, Nat.zero_le _, by rw [List.take_zero]; exact ⟨rfl, by decide, fun h => absurd h (Nat.lt_irrefl _)⟩, by simpa using hi, hw⟩
 ·exact qBE g f0 p e n w0 w hn hle hI
theorem clone_n (A : Option Addr) (n c : Nat) (l : List Int) (w : World) (hl : l.length = n) (hC : Kd.C (Kd.int .u8) w A n l) (hc : n ≤ c) (hn : n ≤ 4294967296) :
  Calls Try.prog 66 #[.slice A n c] w fun e w' => ∃ A' c', e = .returned (.slice A' n c') ∧ Kd.R (Kd.int .u8) 5 w' w.heap.size (fun _ => True) (.slice A' n c') l ∧ Below w.heap.size w w' := by
 subst hl
 refine (qAG.calls A c l l w hC hc (by unfold qAG.f; rw [if_pos hn])).mono ?_
 rintro e w' ⟨v, rfl, hR, hb⟩
 obtain ⟨A', c', rfl⟩ := Kd.R_slice hR
 exact ⟨A', c', rfl, hR, hb⟩
theorem qBk {W W1 : World} {g b : Nat} {v : Value} (hk : qAd W W1 g none) (hc : W.cell? ⟨b, 0, none⟩ = some v) (hb : b ≠ g) : W1.cell? ⟨b, 0, none⟩ = some v := by
 have hl := World.block_lt_of_cell? W _ hc
 have := hk.2 b hl hb (by simp)
 unfold World.cell? at hc ⊢
 simpa [this] using hc
theorem raw_fn_ok (b1 b2 g n : Nat) (f0 : List Int) (p e most : Int) (w0 w : World) (hq : w.cell? ⟨b1, 0, none⟩ = some (.pointer (some ⟨g, 0, none⟩))) (hq2 : w.cell? ⟨b2, 0, none⟩ = some (.int .i64 most)) (hn1 : b1 ≠ g) (hn2 : b2 ≠ g)
  (hlt : p + 4 ≤ f0.length) (hv : num4 f0 p ≤ 2147483647) (hm : num4 f0 p ≤ mx most 0) (hn : num4 f0 p = n) (hle : p + 4 + n ≤ f0.length) (hI : qAe w0 w g f0 p e) (hB : Below w0.heap.size w0 w) :
  Calls Try.prog 99 #[.pointer (some ⟨b1, 0, none⟩), .pointer (some ⟨b2, 0, none⟩)] w fun e' w' => ∃ A c, e' = .returned (.slice A n c) ∧ Kd.R (Kd.int .u8) 5 w' w.heap.size (fun _ => True) (.slice A n c) ((f0.drop (p + 4).toNat).take n) ∧ qAe w0 w' g f0 (p + 4 + n) e ∧ Below w0.heap.size w0 w' ∧ qAd w w' g none := by
 have h0 := hI.2.1
 have HL := am (drop_take_len f0 (p + 4) n (by omega) hle)
 have HF : qAf (∀ W, qAd w W g none → qAe w0 W g f0 p e → Below w0.heap.size w0 W → Calls Try.prog 100 #[.pointer (some ⟨g, 0, none⟩), .int .i64 most] W fun e' w' => e' = .returned (.int .i64 (n : Int)) ∧ qAe w0 w' g f0 (p + 4) e ∧ Below w0.heap.size w0 w' ∧ qAd W w' g none) := ⟨fun W _ h1 h2 => hn ▸ qDS g f0 p e most w0 W hlt hv hm h1 h2⟩
 have HLE := am hle
 have HI := am hI
 have HB := am hB
 have hnm : n ≤ 2147483647 := by omega
 clear hI hB hlt hv hm hn hle h0
 go_enter Try.func99, Try.ntmps99
 go_wp2_with fail
 go_region_held3 (fun W => W.cell? ⟨b1, 0, none⟩ = some (.pointer (some ⟨g, 0, none⟩)) ∧ W.cell? ⟨b2, 0, none⟩ = some (.int .i64 most))
  (first | go_keep | exact ⟨qBk HK1.out hq hn1, qBk HK1.out hq2 hn2⟩ | exact ⟨qBk HK2.out hq hn1, qBk HK2.out hq2 hn2⟩ | exact ⟨qBk HK3.out hq hn1, qBk HK3.out hq2 hn2⟩)
  (first | (go_at_call 100; refine (HF.out _ (qCt (qAd.refl _ _ _)) HI.out.drew (qBu HB.out)).mono ?_; rintro e' w1 ⟨rfl, hi, hb, hk⟩; have HI1 := am hi; have HB1 := am hb; have HK1 := am (qAd.trans (qCt (qAd.refl w g none)) hk (.inl rfl)); clear hi hb hk) | (go_at_call 69; refine (rd_next_any g f0 (p + 4) e n w0 _ HLE.out HI1.out).mono ?_; rintro e' w2 ⟨A, c, v, rfl, hc, hC, hi, hw⟩; have HI2 := am hi; have HB2 := am (hw ▸ qAq (g := g) (j := 0) (v := v) HB1.out HI1.out.ge); have HK2 := am (HK1.out.trans (hw ▸ qAd.set_ (qAd.refl w1 g none) 0 v) (.inl rfl)); have HC2 := am hC; have HCC := am hc; clear hi hw hC hc) | (go_at_call 66; refine (clone_n A n c _ _ HL.out HC2.out HCC.out (by omega)).mono ?_; rintro e' w3 ⟨A3, c3, rfl, hR, hb⟩; have HR3 := am hR; have HBW3 := am hb; have HK3 := am (qAd.trans HK2.out (qAd.of_below hb g none) (.inl rfl)); clear hR hb))
 go_wp2
 go_ret
 exact ⟨A3, c3, rfl, Kd.R_lower HR3.out HK2.out.1, HI2.out.below HBW3.out, qAw HB2.out HB2.out.size HBW3.out, HK3.out⟩
theorem raw_fn_short (b1 b2 g n : Nat) (f0 : List Int) (p e most : Int) (w0 w : World) (hq : w.cell? ⟨b1, 0, none⟩ = some (.pointer (some ⟨g, 0, none⟩))) (hq2 : w.cell? ⟨b2, 0, none⟩ = some (.int .i64 most)) (hn1 : b1 ≠ g) (_hn2 : b2 ≠ g)
  (hlt : p + 4 ≤ f0.length) (hv : num4 f0 p ≤ 2147483647) (hm : num4 f0 p ≤ mx most 0) (hn : num4 f0 p = n) (hle : f0.length < p + 4 + n) (hI : qAe w0 w g f0 p e) (hB : Below w0.heap.size w0 w) :
  Calls Try.prog 99 #[.pointer (some ⟨b1, 0, none⟩), .pointer (some ⟨b2, 0, none⟩)] w fun e' w' => e' = .panicked [{ v := .iface 179 (.int .i64 40), recovered := false }] ∧ qAe w0 w' g f0 (p + 4) e ∧ Below w0.heap.size w0 w' ∧ qAd w w' g none := by
 have HF : qAf (∀ W, qAd w W g none → qAe w0 W g f0 p e → Below w0.heap.size w0 W → Calls Try.prog 100 #[.pointer (some ⟨g, 0, none⟩), .int .i64 most] W fun e' w' => e' = .returned (.int .i64 (n : Int)) ∧ qAe w0 w' g f0 (p + 4) e ∧ Below w0.heap.size w0 w' ∧ qAd W w' g none) := ⟨fun W _ h1 h2 => hn ▸ qDS g f0 p e most w0 W hlt hv hm h1 h2⟩
 have HLE := am hle
 have HI := am hI
 have HB := am hB
 clear hI hB hlt hv hm hn hle
 go_enter Try.func99, Try.ntmps99
 go_wp2_with fail
 go_region_dies
 all_goals (go_at_call 100; refine (HF.out _ (qCt (qAd.refl _ _ _)) HI.out.drew (qBu HB.out)).mono ?_; rintro e' w1 ⟨rfl, hi, hb, hk⟩; have HI1 := am hi; have HB1 := am hb; have hk' := qAd.trans (qCt (qAd.refl w g none)) hk (.inl rfl); have HK1 := am hk'; have q1 := qBk hk' hq hn1; clear hi hb hk hk')
 all_goals (rename_i hK; refine hK _ _ ?_; clear hK hq hq2)
 all_goals first | (change wpAny _ _ _ _ 3 #[true, true, true, true, false, false, false] _ _; refine wpAny_ready (rs := [4]) (by kernel_rfl) (by simp) ?_; refine AllReady.cons rfl (fun K2 hK2 => ?_) AllReady.nil; go_simp; refine (qB7 g f0 (p + 4) e n w0 _ HLE.out HI1.out).mono ?_; rintro e' w2 ⟨rfl, rfl⟩; exact ⟨rfl, rfl, HI1.out, HB1.out, HK1.out⟩) | (change wpAny _ _ _ _ 4 #[false, true, true, true, false, false, false] _ _; refine wpAny_ready (rs := [0]) (by kernel_rfl) (by simp) ?_; refine AllReady.cons rfl (fun K3 hK3 => ?_) AllReady.nil; go_simp; refine hK3 _ _ ?_; clear hK3 K3; change wpAny _ _ _ _ 3 #[true, true, true, true, false, false, false] _ _; refine wpAny_ready (rs := [4]) (by kernel_rfl) (by simp) ?_; refine AllReady.cons rfl (fun K2 hK2 => ?_) AllReady.nil; go_simp; refine (qB7 g f0 (p + 4) e n w0 _ HLE.out HI1.out).mono ?_; rintro e' w2 ⟨rfl, rfl⟩; exact ⟨rfl, rfl, HI1.out, HB1.out, HK1.out⟩)
theorem qDn (b1 b2 g : Nat) (f0 : List Int) (p p' e most : Int) (c : List PanicEntry) (w0 w : World) (hq : w.cell? ⟨b1, 0, none⟩ = some (.pointer (some ⟨g, 0, none⟩))) (hq2 : w.cell? ⟨b2, 0, none⟩ = some (.int .i64 most))
  (hI : qAe w0 w g f0 p e) (hB : Below w0.heap.size w0 w)
  (hf : ∀ W, qAe w0 W g f0 p e → Below w0.heap.size w0 W → Calls Try.prog 100 #[.pointer (some ⟨g, 0, none⟩), .int .i64 most] W fun e' w' => e' = .panicked c ∧ qAe w0 w' g f0 p' e ∧ Below w0.heap.size w0 w' ∧ qAd W w' g none) :
  Calls Try.prog 99 #[.pointer (some ⟨b1, 0, none⟩), .pointer (some ⟨b2, 0, none⟩)] w fun e' w' => e' = .panicked c ∧ qAe w0 w' g f0 p' e ∧ Below w0.heap.size w0 w' ∧ qAd w w' g none := by
 have HF := am hf
 have HI := am hI
 have HB := am hB
 clear hI hB hf
 go_enter Try.func99, Try.ntmps99
 go_wp2_with fail
 go_region_dies
 all_goals (go_at_call 100; refine (HF.out _ HI.out.drew (qBu HB.out)).mono ?_; rintro e' w1 ⟨rfl, hi, hb, hk⟩; exact ⟨rfl, rfl, hi, hb, qAd.trans (qCt (qAd.refl w g none)) hk (.inl rfl)⟩)
end Q
end
end Go.Proofs.Ytfjpnjbinbhcfaa
