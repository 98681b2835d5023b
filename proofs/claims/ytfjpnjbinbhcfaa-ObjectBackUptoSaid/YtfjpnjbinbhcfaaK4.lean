/- There and back; unlike objects have unlike bytes. Part 4 of 8. -/
import Derived.Test.YtfjpnjbinbhcfaaK3
set_option maxHeartbeats 8000000
set_option maxRecDepth 100000
set_option linter.unusedVariables false
set_option linter.unusedSimpArgs false
namespace Go.Proofs.Ytfjpnjbinbhcfaa
section
namespace Q
open Go.RowKit PA PB PC
open Val Ins Wr Enc
theorem WK.alloc {wd W : World} {p : Nat} {v : Value} {bs : List Int} (h : WK wd p W v bs) (o : Obj) : WK wd p (W.alloc o) v bs := h.below' ((Below.refl _ _).alloc (Nat.le_refl _) _)
theorem qB9 (p : Nat) (W : World) (v : Value) (o : Obj) : qAP p W v (W.alloc o) v := qAP.of_below ((Below.refl _ _).alloc (Nat.le_refl _) _)
theorem WK.box {wd W W' : World} {p : Nat} {v v' : Value} {bs : List Int} {cs : Array Value} {t : TypeId} (h : WK wd p W v bs) (hs : qAP p (W.alloc (.cells cs t)) v W' v') (i : Nat) (x : Value) (hx : cs[i]? = some x) : W'.cell? ⟨W.heap.size, i, none⟩ = some x := by
 rw [hs.cell (a := ⟨W.heap.size, i, none⟩) (by simp) (Nat.ne_of_gt h.plt) (fun e => absurd (h.vlt _ e.symm) (Nat.lt_irrefl _)), World.cell?_alloc_at _ _ _ _ rfl]
 exact hx
def varB (x : S71) : List Int := rawB (qBt x.f0) ++ ([x.f1.f0 % 256] ++ be x.f1.f1 8 8)
def nfnB (x : S80) : List Int := rawB (qBt x.f0) ++ fnB x.f1.f0.f0 x.f1.f0.f1 x.f1.f1 x.f1.f2
def relB (x : S82) : List Int := be x.f0 2 2 ++ (be x.f1 2 2 ++ ([x.f2 % 256] ++ (rawB (qBt x.f3) ++ rawB (qBt x.f4))))
theorem qE4 {α : Type} (f : α → List Int) (l : List α) (k : Nat) (x : α) (h : l[k]? = some x) : (l.take (k + 1)).flatMap f = (l.take k).flatMap f ++ f x := by
 obtain ⟨hk, he⟩ := List.getElem?_eq_some_iff.1 h
 rw [List.take_succ_eq_append_getElem hk, List.flatMap_append, he]; simp
theorem qDd {α : Type} (f : α → List Int) (l : List α) (m : Nat) (h : ∀ x ∈ l, (f x).length ≤ m) : (l.flatMap f).length ≤ l.length * m := by
 induction l with
 | nil => simp
 | cons x l ih =>
  have h1 := h x List.mem_cons_self
  have h2 := ih fun y hy => h y (List.mem_cons_of_mem _ hy)
  rw [List.flatMap_cons, List.length_append, List.length_cons]
  have : (l.length + 1) * m = l.length * m + m := by rw [Nat.add_mul, Nat.one_mul]
  omega
theorem rawB_len (ys : List Int) : (rawB ys).length = 4 + ys.length := by unfold rawB; rw [List.length_append, qAL]
theorem qCd (s : ByteArray) : (rawB (qBt s)).length = 4 + s.size := by rw [rawB_len, qBz]
def qBy (s : ByteArray) : Prop := s.size ≤ 32
theorem varB_len (x : S71) (h : qBy x.f0) : (varB x).length ≤ 45 := by
 unfold qBy at h; unfold varB; rw [List.length_append, qCd, List.length_append, qAL]; simp only [List.length_cons, List.length_nil]; omega
theorem relB_len (x : S82) (h : qBy x.f3) (h4 : qBy x.f4) : (relB x).length ≤ 77 := by
 unfold qBy at h h4; unfold relB
 rw [List.length_append, qAL, List.length_append, qAL, List.length_append, List.length_append, qCd, qCd]; simp only [List.length_cons, List.length_nil]; omega
def okFnS (x : S80) : Prop := x.f1.f0.f0.length ≤ 8 ∧ x.f1.f1.length ≤ 64 ∧ x.f1.f2.length ≤ 4096 ∧ x.f1.f2.all okS = true ∧ x.f1.f2.all u64S = true
theorem fnB_len (l0 : List Int) (a1 : Int) (l2 : List Int) (l3 : List S115) (h0 : l0.length ≤ 8) (h2 : l2.length ≤ 64) (h3 : l3.length ≤ 4096) : (fnB l0 a1 l2 l3).length ≤ 41050 := by
 have := encB_len (l3.map toD)
 rw [List.length_map] at this
 unfold fnB byB
 simp only [List.length_append, List.length_cons, List.length_nil, List.length_map, rawB_len]
 omega
theorem nfnB_len (x : S80) (h : qBy x.f0) (hf : okFnS x) : (nfnB x).length ≤ 41100 := by
 unfold qBy at h; unfold nfnB
 have := fnB_len x.f1.f0.f0 x.f1.f0.f1 x.f1.f1 x.f1.f2 hf.1 hf.2.1 hf.2.2.1
 rw [List.length_append, qCd]; omega
theorem vars_any (p : Nat) (a0 : ByteArray) (A1 : Option Addr) (n1 c1 : Nat) (A2 : Option Addr) (n2 c2 : Nat) (A3 : Option Addr) (n3 c3 : Nat) (l : List S71) (v : Value) (bs : List Int) (wd w : World) (hk : WK wd p w v bs)
  (hn : l.length = n1) (hr : Kd.C k71 wd A1 n1 l) (hl : l.length ≤ 64) (hok : ∀ x ∈ l, qBy x.f0 ∧ 0 ≤ x.f1.f1 ∧ x.f1.f1 < 18446744073709551616) (hb : bs.length ≤ 100000) :
  Calls Try.prog 32 #[.agg #[.pointer (some ⟨p, 0, none⟩)], .agg #[.string a0, .slice A1 n1 c1, .slice A2 n2 c2, .slice A3 n3 c3]] w (qBJ p (bs ++ (be l.length 4 4 ++ l.flatMap varB)) w v) := by
 obtain ⟨nn, hnn⟩ : ∃ m, m = n1 := ⟨_, rfl⟩
 obtain ⟨W0, hW0⟩ : ∃ W0, W0 = w.alloc (.cells #[.pointer (some ⟨p, 0, none⟩)] 90) := ⟨_, rfl⟩
 obtain ⟨WA, hWA⟩ : ∃ WA, WA = W0.alloc (.cells #[.string a0, .slice A1 n1 c1, .slice A2 n2 c2, .slice A3 n3 c3] 27) := ⟨_, rfl⟩
 have hK0 : WK wd p W0 v bs := hW0 ▸ hk.alloc _
 have hKA : WK wd p WA v bs := hWA ▸ hK0.alloc _
 have hS0 : qAP p w v W0 v := hW0 ▸ qB9 p w v _
 have hSA0 : qAP p W0 v WA v := hWA ▸ qB9 p W0 v _
 have hz0 : W0.heap.size = w.heap.size + 1 := by rw [hW0]; simp
 have HB : qAa (∀ W' v', qAP p WA v W' v' → W'.cell? ⟨w.heap.size, 0, none⟩ = some (.pointer (some ⟨p, 0, none⟩)) ∧ W'.cell? ⟨w.heap.size + 1, 1, none⟩ = some (.slice A1 n1 c1)) := ⟨fun W' v' hs => by
   have hs0 := hSA0.trans hs
   rw [hW0] at hs0
   have h2 := hK0.box (hWA ▸ hs) 1 (.slice A1 n1 c1) rfl
   rw [hz0] at h2
   exact ⟨hk.box hs0 0 _ rfl, h2⟩⟩
 have HWA : qAa (WA = (w.alloc (.cells #[.pointer (some ⟨p, 0, none⟩)] 90)).alloc (.cells #[.string a0, .slice A1 n1 c1, .slice A2 n2 c2, .slice A3 n3 c3] 27)) := ⟨by rw [← hW0]; exact hWA⟩
 have HKA := am hKA
 have HSA := am (hS0.trans hSA0)
 have HR := am hr
 have HN := am hn
 have HOK := am hok
 have HBL := am hb
 have hgA : w.heap.size + 1 < WA.heap.size := by rw [hWA]; simp [hz0]
 rw [hn] at hl
 clear hk hr hok hb hK0 hKA hS0 hSA0 hz0 hW0 hWA hnn
 clear hn
 go_enter Try.func32, Try.ntmps32
 go_wp2_with fail
 rw [← HWA.out]
 obtain ⟨q0, q1⟩ := HB.out WA v (qAP.refl _ _ _)
 go_wp2_with fail
 refine (qE9 p (n1 : Int) v bs WA HKA.out.st (by omega) (by omega) (by have := HBL.out; omega)).mono ?_
 rintro e w1 ⟨v1, rfl, hst, hs⟩
 have HK1 := am (HKA.out.step hst hs)
 have HS1 := am hs
 clear hst hs q0 q1
 obtain ⟨q0, q1⟩ := HB.out w1 v1 HS1.out
 obtain ⟨b1, hb1⟩ : ∃ b, b = bs ++ be (n1 : Int) 4 4 := ⟨_, rfl⟩
 rw [← hb1] at HK1
 have HB1 := am hb1
 have HL1 : qAa (b1.length ≤ 100004) := ⟨by have := HBL.out; rw [hb1, List.length_append, qAL]; omega⟩
 clear hb1
 go_wp2_with fail
 go_loopg [5, 15] n1 (fun gg _ s15 wr => ∃ (kk : Nat) (v' : Value), kk ≤ n1 ∧ n1 - kk ≤ gg ∧ s15 = .int .i64 kk ∧ qAa (WK wd p wr v' (b1 ++ (l.take kk).flatMap varB)) ∧ qAa (qAP p WA v wr v'))
 case atStart => exact ⟨0, v1, Nat.zero_le _, by omega, rfl, ⟨by rw [List.take_zero]; show WK wd p w1 v1 (b1 ++ []); rw [List.append_nil]; exact HK1.out⟩, HS1⟩
 case round =>
  clear q0 q1 HK1 HS1
  obtain ⟨kk, v', hkk, hg, rfl, HK, HS⟩ := hrel
  by_cases hlt : kk < n1
  rotate_left
  ·have hltz : ¬ (kk : Int) < (n1 : Int) := by omega
   rw [show l.take kk = l from List.take_of_length_le (by have := HN.out; omega)] at HK
   go_wp2
   go_end0
   exact ⟨v', rfl, by rw [HN.out, ← List.append_assoc, ← HB1.out]; exact HK.out.st, HSA.out.trans HS.out⟩
  have hltz : (kk : Int) < (n1 : Int) := by omega
  have h0' : (0 : Int) ≤ (kk : Int) := by omega
  obtain ⟨ad, ea, hx0, hx1, hx2⟩ := qDx HR.out (kk : Int) h0' hltz
  subst ea
  rw [Int.toNat_natCast] at hx0 hx1 hx2
  replace hx0 := (HK.out.below.cell (World.block_lt_of_cell? wd _ hx0)).trans hx0
  replace hx1 := (HK.out.below.cell (World.block_lt_of_cell? wd _ hx1)).trans hx1
  replace hx2 := (HK.out.below.cell (World.block_lt_of_cell? wd _ hx2)).trans hx2
  obtain ⟨x, hx⟩ : ∃ x, x = qAC l (kk : Int) := ⟨_, rfl⟩
  rw [← hx] at hx0 hx1 hx2
  have HX : qAa (l[kk]? = some x) := ⟨by rw [hx]; exact qCu l z71 kk (by have := HN.out; omega)⟩
  have HO := am (HOK.out x (List.mem_of_getElem? HX.out))
  have HLB : qAa ((b1 ++ (l.take kk).flatMap varB).length ≤ 102884) := ⟨by
    have h1 := qDd varB (l.take kk) 45 (fun y hy => by have hy := HOK.out y (List.mem_of_mem_take hy); exact varB_len y hy.1)
    have h2 := HL1.out
    have h3 : (l.take kk).length ≤ 64 := by have := HN.out; rw [List.length_take]; omega
    rw [List.length_append]; omega⟩
  clear hx
  obtain ⟨q0, q1⟩ := HB.out wr v' HS.out
  obtain ⟨b2, hb2⟩ : ∃ b, b = b1 ++ (l.take kk).flatMap varB := ⟨_, rfl⟩
  rw [← hb2] at HK HLB
  have HB2 := am hb2
  clear hb2
  obtain ⟨WB, hWB⟩ : ∃ WB, WB = wr.alloc (.cells #[.string x.f0, .int .i64 x.f1.f0, .int .u64 x.f1.f1] 71) := ⟨_, rfl⟩
  have HKB : qAa (WK wd p WB v' b2) := ⟨hWB ▸ HK.out.alloc _⟩
  have HSB : qAa (qAP p WA v WB v') := ⟨HS.out.trans (hWB ▸ qB9 p wr v' _)⟩
  have hgB : wr.heap.size < WB.heap.size := by rw [hWB]; simp
  have HBX : qAa (∀ W' v'', qAP p WB v' W' v'' → W'.cell? ⟨wr.heap.size, 0, none⟩ = some (.string x.f0) ∧ W'.cell? ⟨wr.heap.size, 1, none⟩ = some (.int .i64 x.f1.f0) ∧ W'.cell? ⟨wr.heap.size, 2, none⟩ = some (.int .u64 x.f1.f1)) := ⟨fun W' v'' hs => ⟨HK.out.box (hWB ▸ hs) 0 _ rfl, HK.out.box (hWB ▸ hs) 1 _ rfl, HK.out.box (hWB ▸ hs) 2 _ rfl⟩⟩
  have HWB := am hWB
  clear hWB
  have hgw : w.heap.size + 1 < wr.heap.size := Nat.lt_of_lt_of_le hgA HS.out.size
  have hgw0 : w.heap.size < wr.heap.size := by omega
  go_wp2_with fail
  rw [← HWB.out]
  clear q0 q1 hx0 hx1 hx2 HK HS hgw hgw0
  refine (qDC p x.f0 v' _ WB HKB.out.st (by have := HLB.out; omega) (by have := HO.out.1; unfold qBy at this; omega)).mono ?_
  rintro e y0 ⟨u0, rfl, hst, hs⟩
  have HK10 := am (HKB.out.step hst hs)
  have HS10 := am (HSB.out.trans hs)
  have HR10 := am ((qAP.refl p WB v').trans hs)
  clear hst hs
  obtain ⟨q0, q1⟩ := HB.out y0 u0 HS10.out
  obtain ⟨x0, x1, x2⟩ := HBX.out y0 u0 HR10.out
  go_wp2_with fail
  refine (qBE p _ u0 _ y0 HK10.out.st (by have := HLB.out; have hz := HO.out.1; unfold qBy at hz; simp only [List.length_append, qCd]; omega)).mono ?_
  rintro e y1 ⟨u1, rfl, hst, hs⟩
  have HK11 := am (HK10.out.step hst hs)
  have HS11 := am (HS10.out.trans hs)
  have HR11 := am (HR10.out.trans hs)
  clear hst hs q0 q1 x0 x1 x2
  obtain ⟨q0, q1⟩ := HB.out y1 u1 HS11.out
  obtain ⟨x0, x1, x2⟩ := HBX.out y1 u1 HR11.out
  go_wp2_with fail
  refine (long_any p x.f1.f1 u1 _ y1 HK11.out.st HO.out.2.1 (by have := HO.out.2.2; omega) (by have := HLB.out; have hz := HO.out.1; unfold qBy at hz; simp only [List.length_append, List.length_cons, List.length_nil, qCd]; omega)).mono ?_
  rintro e y2 ⟨u2, rfl, hst, hs⟩
  have HK12 := am (HK11.out.step hst hs)
  have HS12 := am (HS11.out.trans hs)
  clear hst hs q0 q1 x0 x1 x2
  have HKN : qAa (WK wd p y2 u2 (b1 ++ (l.take (kk + 1)).flatMap varB)) := ⟨by
    rw [qE4 varB l kk x HX.out, ← List.append_assoc, ← HB2.out]; unfold varB; simpa only [List.append_assoc] using HK12.out⟩
  go_wp2
  go_roundg (n1 - (kk + 1))
  case measure => omega
  case rel => exact ⟨kk + 1, u2, by omega, by omega, by go_num, HKN, ⟨HS12.out⟩⟩
theorem fns_any (p : Nat) (a0 : ByteArray) (A1 : Option Addr) (n1 c1 : Nat) (A2 : Option Addr) (n2 c2 : Nat) (A3 : Option Addr) (n3 c3 : Nat) (l : List S80) (v : Value) (bs : List Int) (wd w : World) (hk : WK wd p w v bs)
  (hn : l.length = n2) (hr : Kd.C k80 wd A2 n2 l) (hl : l.length ≤ 64) (hok : ∀ x ∈ l, qBy x.f0 ∧ okFnS x) (hb : bs.length ≤ 200000) :
  Calls Try.prog 33 #[.agg #[.pointer (some ⟨p, 0, none⟩)], .agg #[.string a0, .slice A1 n1 c1, .slice A2 n2 c2, .slice A3 n3 c3]] w (qBJ p (bs ++ (be l.length 4 4 ++ l.flatMap nfnB)) w v) := by
 obtain ⟨nn, hnn⟩ : ∃ m, m = n2 := ⟨_, rfl⟩
 obtain ⟨W0, hW0⟩ : ∃ W0, W0 = w.alloc (.cells #[.pointer (some ⟨p, 0, none⟩)] 90) := ⟨_, rfl⟩
 obtain ⟨WA, hWA⟩ : ∃ WA, WA = W0.alloc (.cells #[.string a0, .slice A1 n1 c1, .slice A2 n2 c2, .slice A3 n3 c3] 27) := ⟨_, rfl⟩
 have hK0 : WK wd p W0 v bs := hW0 ▸ hk.alloc _
 have hKA : WK wd p WA v bs := hWA ▸ hK0.alloc _
 have hS0 : qAP p w v W0 v := hW0 ▸ qB9 p w v _
 have hSA0 : qAP p W0 v WA v := hWA ▸ qB9 p W0 v _
 have hz0 : W0.heap.size = w.heap.size + 1 := by rw [hW0]; simp
 have HB : qAa (∀ W' v', qAP p WA v W' v' → W'.cell? ⟨w.heap.size, 0, none⟩ = some (.pointer (some ⟨p, 0, none⟩)) ∧ W'.cell? ⟨w.heap.size + 1, 2, none⟩ = some (.slice A2 n2 c2)) := ⟨fun W' v' hs => by
   have hs0 := hSA0.trans hs
   rw [hW0] at hs0
   have h2 := hK0.box (hWA ▸ hs) 2 (.slice A2 n2 c2) rfl
   rw [hz0] at h2
   exact ⟨hk.box hs0 0 _ rfl, h2⟩⟩
 have HWA : qAa (WA = (w.alloc (.cells #[.pointer (some ⟨p, 0, none⟩)] 90)).alloc (.cells #[.string a0, .slice A1 n1 c1, .slice A2 n2 c2, .slice A3 n3 c3] 27)) := ⟨by rw [← hW0]; exact hWA⟩
 have HKA := am hKA
 have HSA := am (hS0.trans hSA0)
 have HR := am hr
 have HN := am hn
 have HOK := am hok
 have HBL := am hb
 have hgA : w.heap.size + 1 < WA.heap.size := by rw [hWA]; simp [hz0]
 rw [hn] at hl
 clear hk hr hok hb hK0 hKA hS0 hSA0 hz0 hW0 hWA hnn
 clear hn
 go_enter Try.func33, Try.ntmps33
 go_wp2_with fail
 rw [← HWA.out]
 obtain ⟨q0, q1⟩ := HB.out WA v (qAP.refl _ _ _)
 go_wp2_with fail
 refine (qE9 p (n2 : Int) v bs WA HKA.out.st (by omega) (by omega) (by have := HBL.out; omega)).mono ?_
 rintro e w1 ⟨v1, rfl, hst, hs⟩
 have HK1 := am (HKA.out.step hst hs)
 have HS1 := am hs
 clear hst hs q0 q1
 obtain ⟨q0, q1⟩ := HB.out w1 v1 HS1.out
 obtain ⟨b1, hb1⟩ : ∃ b, b = bs ++ be (n2 : Int) 4 4 := ⟨_, rfl⟩
 rw [← hb1] at HK1
 have HB1 := am hb1
 have HL1 : qAa (b1.length ≤ 200004) := ⟨by have := HBL.out; rw [hb1, List.length_append, qAL]; omega⟩
 clear hb1
 go_wp2_with fail
 go_loopg [5, 15] n2 (fun gg _ s15 wr => ∃ (kk : Nat) (v' : Value), kk ≤ n2 ∧ n2 - kk ≤ gg ∧ s15 = .int .i64 kk ∧ qAa (WK wd p wr v' (b1 ++ (l.take kk).flatMap nfnB)) ∧ qAa (qAP p WA v wr v'))
 case atStart => exact ⟨0, v1, Nat.zero_le _, by omega, rfl, ⟨by rw [List.take_zero]; show WK wd p w1 v1 (b1 ++ []); rw [List.append_nil]; exact HK1.out⟩, HS1⟩
 case round =>
  clear q0 q1 HK1 HS1
  obtain ⟨kk, v', hkk, hg, rfl, HK, HS⟩ := hrel
  by_cases hlt : kk < n2
  rotate_left
  ·have hltz : ¬ (kk : Int) < (n2 : Int) := by omega
   rw [show l.take kk = l from List.take_of_length_le (by have := HN.out; omega)] at HK
   go_wp2
   go_end0
   exact ⟨v', rfl, by rw [HN.out, ← List.append_assoc, ← HB1.out]; exact HK.out.st, HSA.out.trans HS.out⟩
  have hltz : (kk : Int) < (n2 : Int) := by omega
  have h0' : (0 : Int) ≤ (kk : Int) := by omega
  obtain ⟨ad, B1, d1, B3, d3, B4, d4, ea, hx0, hx1, hx2, hx3, hx4, hl1, hC1, hl3, hC3, hl4, hC4⟩ := qDW HR.out (kk : Int) h0' hltz
  subst ea
  rw [Int.toNat_natCast] at hx0 hx1 hx2 hx3 hx4
  replace hx0 := (HK.out.below.cell (World.block_lt_of_cell? wd _ hx0)).trans hx0
  replace hx1 := (HK.out.below.cell (World.block_lt_of_cell? wd _ hx1)).trans hx1
  replace hx2 := (HK.out.below.cell (World.block_lt_of_cell? wd _ hx2)).trans hx2
  replace hx3 := (HK.out.below.cell (World.block_lt_of_cell? wd _ hx3)).trans hx3
  replace hx4 := (HK.out.below.cell (World.block_lt_of_cell? wd _ hx4)).trans hx4
  obtain ⟨x, hx⟩ : ∃ x, x = qAl l (kk : Int) := ⟨_, rfl⟩
  rw [← hx] at hx0 hx1 hx2 hx3 hx4 hC1 hC3 hC4
  have HC1 := am hC1
  have HC3 := am hC3
  have HC4 := am hC4
  clear hl1 hl3 hl4 hC1 hC3 hC4
  have HX : qAa (l[kk]? = some x) := ⟨by rw [hx]; exact qCu l z80 kk (by have := HN.out; omega)⟩
  have HO := am (HOK.out x (List.mem_of_getElem? HX.out))
  have HLB : qAa ((b1 ++ (l.take kk).flatMap nfnB).length ≤ 2830404) := ⟨by
    have h1 := qDd nfnB (l.take kk) 41100 (fun y hy => by have hy := HOK.out y (List.mem_of_mem_take hy); exact nfnB_len y hy.1 hy.2)
    have h2 := HL1.out
    have h3 : (l.take kk).length ≤ 64 := by have := HN.out; rw [List.length_take]; omega
    rw [List.length_append]; omega⟩
  clear hx
  obtain ⟨q0, q1⟩ := HB.out wr v' HS.out
  obtain ⟨b2, hb2⟩ : ∃ b, b = b1 ++ (l.take kk).flatMap nfnB := ⟨_, rfl⟩
  rw [← hb2] at HK HLB
  have HB2 := am hb2
  clear hb2
  obtain ⟨WB, hWB⟩ : ∃ WB, WB = wr.alloc (.cells #[.string x.f0, .slice B1 x.f1.f0.f0.length d1, .int .i64 x.f1.f0.f1, .slice B3 x.f1.f1.length d3, .slice B4 x.f1.f2.length d4] 80) := ⟨_, rfl⟩
  have HKB : qAa (WK wd p WB v' b2) := ⟨hWB ▸ HK.out.alloc _⟩
  have HSB : qAa (qAP p WA v WB v') := ⟨HS.out.trans (hWB ▸ qB9 p wr v' _)⟩
  have hgB : wr.heap.size < WB.heap.size := by rw [hWB]; simp
  have HBX : qAa (∀ W' v'', qAP p WB v' W' v'' → W'.cell? ⟨wr.heap.size, 0, none⟩ = some (.string x.f0) ∧ W'.cell? ⟨wr.heap.size, 1, none⟩ = some (.slice B1 x.f1.f0.f0.length d1) ∧ W'.cell? ⟨wr.heap.size, 2, none⟩ = some (.int .i64 x.f1.f0.f1) ∧ W'.cell? ⟨wr.heap.size, 3, none⟩ = some (.slice B3 x.f1.f1.length d3) ∧ W'.cell? ⟨wr.heap.size, 4, none⟩ = some (.slice B4 x.f1.f2.length d4)) := ⟨fun W' v'' hs => ⟨HK.out.box (hWB ▸ hs) 0 _ rfl, HK.out.box (hWB ▸ hs) 1 _ rfl, HK.out.box (hWB ▸ hs) 2 _ rfl, HK.out.box (hWB ▸ hs) 3 _ rfl, HK.out.box (hWB ▸ hs) 4 _ rfl⟩⟩
  have HWB := am hWB
  clear hWB
  have hgw : w.heap.size + 1 < wr.heap.size := Nat.lt_of_lt_of_le hgA HS.out.size
  have hgw0 : w.heap.size < wr.heap.size := by omega
  go_wp2_with fail
  rw [← HWB.out]
  clear q0 q1 hx0 hx1 hx2 hx3 hx4 HK HS hgw hgw0
  refine (qDC p x.f0 v' _ WB HKB.out.st (by have := HLB.out; omega) (by have := HO.out.1; unfold qBy at this; omega)).mono ?_
  rintro e y0 ⟨u0, rfl, hst, hs⟩
  have HK10 := am (HKB.out.step hst hs)
  have HS10 := am (HSB.out.trans hs)
  have HR10 := am ((qAP.refl p WB v').trans hs)
  clear hst hs
  obtain ⟨q0, q1⟩ := HB.out y0 u0 HS10.out
  obtain ⟨x0, x1, x2, x3, x4⟩ := HBX.out y0 u0 HR10.out
  go_wp2_with fail
  refine (fn_any p B1 d1 _ _ B3 d3 _ B4 d4 _ u0 _ wd y0 HK10.out HC1.out HC3.out HC4.out HO.out.2.1 HO.out.2.2.1 HO.out.2.2.2.1 HO.out.2.2.2.2.1 HO.out.2.2.2.2.2 (by have := HLB.out; have hz := HO.out.1; unfold qBy at hz; simp only [List.length_append, qCd]; omega)).mono ?_
  rintro e y1 ⟨u1, rfl, hst, hs⟩
  have HK11 := am (HK10.out.step hst hs)
  have HS11 := am (HS10.out.trans hs)
  clear hst hs q0 q1 x0 x1 x2 x3 x4
  have HKN : qAa (WK wd p y1 u1 (b1 ++ (l.take (kk + 1)).flatMap nfnB)) := ⟨by
    rw [qE4 nfnB l kk x HX.out, ← List.append_assoc, ← HB2.out]; unfold nfnB; simpa only [List.append_assoc] using HK11.out⟩
  go_wp2
  go_roundg (n2 - (kk + 1))
  case measure => omega
  case rel => exact ⟨kk + 1, u1, by omega, by omega, by go_num, HKN, ⟨HS11.out⟩⟩
theorem rels_any (p : Nat) (a0 : ByteArray) (A1 : Option Addr) (n1 c1 : Nat) (A2 : Option Addr) (n2 c2 : Nat) (A3 : Option Addr) (n3 c3 : Nat) (l : List S82) (v : Value) (bs : List Int) (wd w : World) (hk : WK wd p w v bs)
  (hn : l.length = n3) (hr : Kd.C k82 wd A3 n3 l) (hl : l.length ≤ 262144) (hok : ∀ x ∈ l, qBy x.f3 ∧ qBy x.f4 ∧ 0 ≤ x.f0 ∧ x.f0 ≤ 9223372036854775807 ∧ 0 ≤ x.f1 ∧ x.f1 ≤ 9223372036854775807) (hb : bs.length ≤ 100000000) :
  Calls Try.prog 34 #[.agg #[.pointer (some ⟨p, 0, none⟩)], .agg #[.string a0, .slice A1 n1 c1, .slice A2 n2 c2, .slice A3 n3 c3]] w (qBJ p (bs ++ (be l.length 4 4 ++ l.flatMap relB)) w v) := by
 obtain ⟨nn, hnn⟩ : ∃ m, m = n3 := ⟨_, rfl⟩
 obtain ⟨W0, hW0⟩ : ∃ W0, W0 = w.alloc (.cells #[.pointer (some ⟨p, 0, none⟩)] 90) := ⟨_, rfl⟩
 obtain ⟨WA, hWA⟩ : ∃ WA, WA = W0.alloc (.cells #[.string a0, .slice A1 n1 c1, .slice A2 n2 c2, .slice A3 n3 c3] 27) := ⟨_, rfl⟩
 have hK0 : WK wd p W0 v bs := hW0 ▸ hk.alloc _
 have hKA : WK wd p WA v bs := hWA ▸ hK0.alloc _
 have hS0 : qAP p w v W0 v := hW0 ▸ qB9 p w v _
 have hSA0 : qAP p W0 v WA v := hWA ▸ qB9 p W0 v _
 have hz0 : W0.heap.size = w.heap.size + 1 := by rw [hW0]; simp
 have HB : qAa (∀ W' v', qAP p WA v W' v' → W'.cell? ⟨w.heap.size, 0, none⟩ = some (.pointer (some ⟨p, 0, none⟩)) ∧ W'.cell? ⟨w.heap.size + 1, 3, none⟩ = some (.slice A3 n3 c3)) := ⟨fun W' v' hs => by
   have hs0 := hSA0.trans hs
   rw [hW0] at hs0
   have h2 := hK0.box (hWA ▸ hs) 3 (.slice A3 n3 c3) rfl
   rw [hz0] at h2
   exact ⟨hk.box hs0 0 _ rfl, h2⟩⟩
 have HWA : qAa (WA = (w.alloc (.cells #[.pointer (some ⟨p, 0, none⟩)] 90)).alloc (.cells #[.string a0, .slice A1 n1 c1, .slice A2 n2 c2, .slice A3 n3 c3] 27)) := ⟨by rw [← hW0]; exact hWA⟩
 have HKA := am hKA
 have HSA := am (hS0.trans hSA0)
 have HR := am hr
 have HN := am hn
 have HOK := am hok
 have HBL := am hb
 have hgA : w.heap.size + 1 < WA.heap.size := by rw [hWA]; simp [hz0]
 rw [hn] at hl
 clear hk hr hok hb hK0 hKA hS0 hSA0 hz0 hW0 hWA hnn
 clear hn
 go_enter Try.func34, Try.ntmps34
 go_wp2_with fail
 rw [← HWA.out]
 obtain ⟨q0, q1⟩ := HB.out WA v (qAP.refl _ _ _)
 go_wp2_with fail
 refine (qE9 p (n3 : Int) v bs WA HKA.out.st (by omega) (by omega) (by have := HBL.out; omega)).mono ?_
 rintro e w1 ⟨v1, rfl, hst, hs⟩
 have HK1 := am (HKA.out.step hst hs)
 have HS1 := am hs
 clear hst hs q0 q1
 obtain ⟨q0, q1⟩ := HB.out w1 v1 HS1.out
 obtain ⟨b1, hb1⟩ : ∃ b, b = bs ++ be (n3 : Int) 4 4 := ⟨_, rfl⟩
 rw [← hb1] at HK1
 have HB1 := am hb1
 have HL1 : qAa (b1.length ≤ 100000004) := ⟨by have := HBL.out; rw [hb1, List.length_append, qAL]; omega⟩
 clear hb1
 go_wp2_with fail
 go_loopg [5, 15] n3 (fun gg _ s15 wr => ∃ (kk : Nat) (v' : Value), kk ≤ n3 ∧ n3 - kk ≤ gg ∧ s15 = .int .i64 kk ∧ qAa (WK wd p wr v' (b1 ++ (l.take kk).flatMap relB)) ∧ qAa (qAP p WA v wr v'))
 case atStart => exact ⟨0, v1, Nat.zero_le _, by omega, rfl, ⟨by rw [List.take_zero]; show WK wd p w1 v1 (b1 ++ []); rw [List.append_nil]; exact HK1.out⟩, HS1⟩
 case round =>
  clear q0 q1 HK1 HS1
  obtain ⟨kk, v', hkk, hg, rfl, HK, HS⟩ := hrel
  by_cases hlt : kk < n3
  rotate_left
  ·have hltz : ¬ (kk : Int) < (n3 : Int) := by omega
   rw [show l.take kk = l from List.take_of_length_le (by have := HN.out; omega)] at HK
   go_wp2
   go_end0
   exact ⟨v', rfl, by rw [HN.out, ← List.append_assoc, ← HB1.out]; exact HK.out.st, HSA.out.trans HS.out⟩
  have hltz : (kk : Int) < (n3 : Int) := by omega
  have h0' : (0 : Int) ≤ (kk : Int) := by omega
  obtain ⟨ad, ea, hx0, hx1, hx2, hx3, hx4⟩ := qDi HR.out (kk : Int) h0' hltz
  subst ea
  rw [Int.toNat_natCast] at hx0 hx1 hx2 hx3 hx4
  replace hx0 := (HK.out.below.cell (World.block_lt_of_cell? wd _ hx0)).trans hx0
  replace hx1 := (HK.out.below.cell (World.block_lt_of_cell? wd _ hx1)).trans hx1
  replace hx2 := (HK.out.below.cell (World.block_lt_of_cell? wd _ hx2)).trans hx2
  replace hx3 := (HK.out.below.cell (World.block_lt_of_cell? wd _ hx3)).trans hx3
  replace hx4 := (HK.out.below.cell (World.block_lt_of_cell? wd _ hx4)).trans hx4
  obtain ⟨x, hx⟩ : ∃ x, x = qAT l (kk : Int) := ⟨_, rfl⟩
  rw [← hx] at hx0 hx1 hx2 hx3 hx4
  have HX : qAa (l[kk]? = some x) := ⟨by rw [hx]; exact qCu l z82 kk (by have := HN.out; omega)⟩
  have HO := am (HOK.out x (List.mem_of_getElem? HX.out))
  have HLB : qAa ((b1 ++ (l.take kk).flatMap relB).length ≤ 120185092) := ⟨by
    have h1 := qDd relB (l.take kk) 77 (fun y hy => by have hy := HOK.out y (List.mem_of_mem_take hy); exact relB_len y hy.1 hy.2.1)
    have h2 := HL1.out
    have h3 : (l.take kk).length ≤ 262144 := by have := HN.out; rw [List.length_take]; omega
    rw [List.length_append]; omega⟩
  clear hx
  obtain ⟨q0, q1⟩ := HB.out wr v' HS.out
  obtain ⟨b2, hb2⟩ : ∃ b, b = b1 ++ (l.take kk).flatMap relB := ⟨_, rfl⟩
  rw [← hb2] at HK HLB
  have HB2 := am hb2
  clear hb2
  obtain ⟨WB, hWB⟩ : ∃ WB, WB = wr.alloc (.cells #[.int .i64 x.f0, .int .i64 x.f1, .int .i64 x.f2, .string x.f3, .string x.f4] 82) := ⟨_, rfl⟩
  have HKB : qAa (WK wd p WB v' b2) := ⟨hWB ▸ HK.out.alloc _⟩
  have HSB : qAa (qAP p WA v WB v') := ⟨HS.out.trans (hWB ▸ qB9 p wr v' _)⟩
  have hgB : wr.heap.size < WB.heap.size := by rw [hWB]; simp
  have HBX : qAa (∀ W' v'', qAP p WB v' W' v'' → W'.cell? ⟨wr.heap.size, 0, none⟩ = some (.int .i64 x.f0) ∧ W'.cell? ⟨wr.heap.size, 1, none⟩ = some (.int .i64 x.f1) ∧ W'.cell? ⟨wr.heap.size, 2, none⟩ = some (.int .i64 x.f2) ∧ W'.cell? ⟨wr.heap.size, 3, none⟩ = some (.string x.f3) ∧ W'.cell? ⟨wr.heap.size, 4, none⟩ = some (.string x.f4)) := ⟨fun W' v'' hs => ⟨HK.out.box (hWB ▸ hs) 0 _ rfl, HK.out.box (hWB ▸ hs) 1 _ rfl, HK.out.box (hWB ▸ hs) 2 _ rfl, HK.out.box (hWB ▸ hs) 3 _ rfl, HK.out.box (hWB ▸ hs) 4 _ rfl⟩⟩
  have HWB := am hWB
  clear hWB
  have hgw : w.heap.size + 1 < wr.heap.size := Nat.lt_of_lt_of_le hgA HS.out.size
  have hgw0 : w.heap.size < wr.heap.size := by omega
  go_wp2_with fail
  rw [← HWB.out]
  clear q0 q1 hx0 hx1 hx2 hx3 hx4 HK HS hgw hgw0
  refine (short_any p x.f0 v' _ WB HKB.out.st HO.out.2.2.1 HO.out.2.2.2.1 (by have := HLB.out; omega)).mono ?_
  rintro e y0 ⟨u0, rfl, hst, hs⟩
  have HK10 := am (HKB.out.step hst hs)
  have HS10 := am (HSB.out.trans hs)
  have HR10 := am ((qAP.refl p WB v').trans hs)
  clear hst hs
  obtain ⟨q0, q1⟩ := HB.out y0 u0 HS10.out
  obtain ⟨x0, x1, x2, x3, x4⟩ := HBX.out y0 u0 HR10.out
  go_wp2_with fail
  refine (short_any p x.f1 u0 _ y0 HK10.out.st HO.out.2.2.2.2.1 HO.out.2.2.2.2.2 (by have := HLB.out; have hz := HO.out.1; have hz2 := HO.out.2.1; unfold qBy at hz hz2; simp only [List.length_append, qAL]; omega)).mono ?_
  rintro e y1 ⟨u1, rfl, hst, hs⟩
  have HK11 := am (HK10.out.step hst hs)
  have HS11 := am (HS10.out.trans hs)
  have HR11 := am (HR10.out.trans hs)
  clear hst hs q0 q1 x0 x1 x2 x3 x4
  obtain ⟨q0, q1⟩ := HB.out y1 u1 HS11.out
  obtain ⟨x0, x1, x2, x3, x4⟩ := HBX.out y1 u1 HR11.out
  go_wp2_with fail
  refine (qBE p _ u1 _ y1 HK11.out.st (by have := HLB.out; have hz := HO.out.1; have hz2 := HO.out.2.1; unfold qBy at hz hz2; simp only [List.length_append, qAL]; omega)).mono ?_
  rintro e y2 ⟨u2, rfl, hst, hs⟩
  have HK12 := am (HK11.out.step hst hs)
  have HS12 := am (HS11.out.trans hs)
  have HR12 := am (HR11.out.trans hs)
  clear hst hs q0 q1 x0 x1 x2 x3 x4
  obtain ⟨q0, q1⟩ := HB.out y2 u2 HS12.out
  obtain ⟨x0, x1, x2, x3, x4⟩ := HBX.out y2 u2 HR12.out
  go_wp2_with fail
  refine (qDC p x.f3 u2 _ y2 HK12.out.st (by have := HLB.out; have hz := HO.out.1; have hz2 := HO.out.2.1; unfold qBy at hz hz2; simp only [List.length_append, List.length_cons, List.length_nil, qAL]; omega) (by have := HO.out.1; unfold qBy at this; omega)).mono ?_
  rintro e y3 ⟨u3, rfl, hst, hs⟩
  have HK13 := am (HK12.out.step hst hs)
  have HS13 := am (HS12.out.trans hs)
  have HR13 := am (HR12.out.trans hs)
  clear hst hs q0 q1 x0 x1 x2 x3 x4
  obtain ⟨q0, q1⟩ := HB.out y3 u3 HS13.out
  obtain ⟨x0, x1, x2, x3, x4⟩ := HBX.out y3 u3 HR13.out
  go_wp2_with fail
  refine (qDC p x.f4 u3 _ y3 HK13.out.st (by have := HLB.out; have hz := HO.out.1; have hz2 := HO.out.2.1; unfold qBy at hz hz2; simp only [List.length_append, List.length_cons, List.length_nil, qAL, qCd]; omega) (by have := HO.out.2.1; unfold qBy at this; omega)).mono ?_
  rintro e y4 ⟨u4, rfl, hst, hs⟩
  have HK14 := am (HK13.out.step hst hs)
  have HS14 := am (HS13.out.trans hs)
  clear hst hs q0 q1 x0 x1 x2 x3 x4
  have HKN : qAa (WK wd p y4 u4 (b1 ++ (l.take (kk + 1)).flatMap relB)) := ⟨by
    rw [qE4 relB l kk x HX.out, ← List.append_assoc, ← HB2.out]; unfold relB; simpa only [List.append_assoc] using HK14.out⟩
  go_wp2
  go_roundg (n3 - (kk + 1))
  case measure => omega
  case rel => exact ⟨kk + 1, u4, by omega, by omega, by go_num, HKN, ⟨HS14.out⟩⟩
def qB6 (m : ByteArray) (vars : List S71) (fns : List S80) (rels : List S82) : List Int :=
 [102, 111, 98, 106] ++ (rawB (qBt m) ++ ((be vars.length 4 4 ++ vars.flatMap varB) ++ ((be fns.length 4 4 ++ fns.flatMap nfnB) ++ (be rels.length 4 4 ++ rels.flatMap relB))))
theorem qDZ {s : ByteArray} {l : List ByteArray} (h : qBA s l = 0) : Names.nameE s = 0 ∧ hasB l s = false := by
 unfold qBA at h
 split at h
 ·rename_i h1; exact absurd h h1
 rename_i h1
 split at h
 ·cases h
 rename_i h2; exact ⟨Decidable.not_not.mp h1, by simpa using h2⟩
theorem varsE_ok : ∀ (l : List S71) (ahead : List ByteArray), varsE ahead l = 0 → ∀ x ∈ l, Names.nameE x.f0 = 0 ∧ okV x.f1.f0 x.f1.f1 = true
 | [], _, _, x, hx => by cases hx
 | v :: vs, ahead, h, x, hx => by
  simp only [varsE] at h
  split at h
  ·rename_i h1; exact absurd h h1
  rename_i h1
  split at h
  ·cases h
  rename_i h2
  rcases List.mem_cons.1 hx with e | hx
  ·rw [e]; exact ⟨(qDZ (Decidable.not_not.mp h1)).1, by simpa using h2⟩
  exact varsE_ok vs _ h x hx
theorem fnsE_ok : ∀ (l : List S80) (ahead : List ByteArray), fnsE ahead l = 0 → ∀ x ∈ l, Names.nameE x.f0 = 0 ∧ fnOk x = true
 | [], _, _, x, hx => by cases hx
 | v :: vs, ahead, h, x, hx => by
  simp only [fnsE] at h
  split at h
  ·rename_i h1; exact absurd h h1
  rename_i h1
  split at h
  ·cases h
  rename_i h2
  rcases List.mem_cons.1 hx with e | hx
  ·rw [e]; exact ⟨(qDZ (Decidable.not_not.mp h1)).1, by simpa using h2⟩
  exact fnsE_ok vs _ h x hx
theorem qEJ : ∀ (l : List S82), qBv l = 0 → ∀ x ∈ l, Names.nameE x.f3 = 0 ∧ Names.nameE x.f4 = 0
 | [], _, x, hx => by cases hx
 | r :: rs, h, x, hx => by
  simp only [qBv] at h
  split at h
  ·rename_i h1; exact absurd h h1
  rename_i h1
  split at h
  ·rename_i h2; exact absurd h h2
  rename_i h2
  rcases List.mem_cons.1 hx with e | hx
  ·rw [e]; exact ⟨Decidable.not_not.mp h1, Decidable.not_not.mp h2⟩
  exact qEJ rs h x hx
theorem qDI : ∀ (a b : List S82), qBS a b = true → ∀ x ∈ a, ∃ y ∈ b, bareB x y = true
 | [], _, _, x, hx => by cases hx
 | x :: xs, [], h, _, _ => by simp [qBS] at h
 | x :: xs, y :: ys, h, z, hz => by
  simp only [qBS, Bool.and_eq_true] at h
  rcases List.mem_cons.1 hz with e | hz
  ·exact ⟨y, List.mem_cons_self, e ▸ h.1⟩
  obtain ⟨u, hu, hb⟩ := qDI xs ys h.2 z hz
  exact ⟨u, List.mem_cons_of_mem _ hu, hb⟩
structure qCi (m : ByteArray) (vars : List S71) (fns : List S80) (rels : List S82) : Prop where
 m : Names.nameE m = 0
 n : vars.length + fns.length ≤ 64
 v : ∀ x ∈ vars, Names.nameE x.f0 = 0 ∧ okV x.f1.f0 x.f1.f1 = true
 f : ∀ x ∈ fns, Names.nameE x.f0 = 0 ∧ fnOk x = true
 e : qBS rels (qBr fns) = true
 r : ∀ x ∈ rels, Names.nameE x.f3 = 0 ∧ Names.nameE x.f4 = 0
theorem qCi.of {m : ByteArray} {vars : List S71} {fns : List S80} {rels : List S82} (h : qBI m vars fns rels = 0) : qCi m vars fns rels := by
 unfold qBI at h
 split at h
 ·rename_i h1; exact absurd h h1
 rename_i h1
 split at h
 ·cases h
 rename_i h2
 split at h
 ·rename_i h3; exact absurd h h3
 rename_i h3
 split at h
 ·rename_i h4; exact absurd h h4
 rename_i h4
 unfold qD9 at h
 split at h
 ·cases h
 rename_i h5
 split at h
 ·cases h
 rename_i h6
 split at h
 ·rename_i h7; exact absurd h h7
 rename_i h7
 exact ⟨Decidable.not_not.mp h1, by omega, varsE_ok _ _ (Decidable.not_not.mp h3), fnsE_ok _ _ (Decidable.not_not.mp h4), by simpa using h5, qEJ _ (Decidable.not_not.mp h7)⟩
theorem qCi.rels {m : ByteArray} {vars : List S71} {fns : List S80} {rels : List S82} (h : qCi m vars fns rels) : rels.length ≤ 262144 := by
 rw [qDJ _ _ h.e]
 have := fnsP_len fns 0 fun x hx => (qEp (h.f x hx).2).2.2.1
 have := h.n
 unfold qBr; omega
theorem bareB_eq {x y : S82} (h : bareB x y = true) : x.f0 = y.f0 ∧ x.f1 = y.f1 ∧ x.f2 = y.f2 := by
 unfold bareB at h; simpa using h
theorem qCi.at_ {m : ByteArray} {vars : List S71} {fns : List S80} {rels : List S82} (h : qCi m vars fns rels) : ∀ x ∈ rels, 0 ≤ x.f0 ∧ x.f0 < 64 ∧ 0 ≤ x.f1 ∧ x.f1 < 4096 := fun x hx => by
 obtain ⟨y, hy, hb⟩ := qDI _ _ h.e x hx
 obtain ⟨e0, e1, _⟩ := bareB_eq hb
 obtain ⟨g0, g1, g2, g3⟩ := placesL_in fns y hy
 have hm := qEq fns z80 y.f0 g0 g1
 have := (qEp (h.f _ hm).2).2.2.1
 have : (qAl fns y.f0).f1.f2.length ≤ 4096 := this
 have := h.n
 rw [e0, e1]; omega
instance (m : ByteArray) (vars : List S71) (fns : List S80) (rels : List S82) : Decidable (qCI m vars fns rels) :=
 decidable_of_iff (m.size ≤ 140737488351232 ∧ vars.length ≤ 2305843009213693952 ∧ (∀ x ∈ vars, x.f0.size ≤ 140737488351232 ∧ 0 ≤ x.f1.f1 ∧ x.f1.f1 < 18446744073709551616) ∧ fns.length ≤ 2305843009213693952 ∧
   (∀ x ∈ fns, x.f0.size ≤ 140737488351232 ∧ x.f1.f0.f0.length ≤ 4611686018427387904 ∧ x.f1.f1.length ≤ 4611686018427387904 ∧ x.f1.f2.length ≤ 4611686018427387904 ∧ x.f1.f2.all u64S = true) ∧ rels.length ≤ 4611686018427387904 ∧ (∀ x ∈ rels, x.f3.size ≤ 140737488351232 ∧ x.f4.size ≤ 140737488351232))
  ⟨fun ⟨a, b, c, d, e, f, g⟩ => ⟨a, b, c, d, e, f, g⟩, fun ⟨a, b, c, d, e, f, g⟩ => ⟨a, b, c, d, e, f, g⟩⟩
def qA9.f (a0_0 : ByteArray) (l0_1 : List (S71)) (l0_2 : List (S80)) (l0_3 : List (S82)) : Option (List Int × Int) :=
 if qCI a0_0 l0_1 l0_2 l0_3 then (if qBI a0_0 l0_1 l0_2 l0_3 ≠ 0 then some ([], qBI a0_0 l0_1 l0_2 l0_3) else if 16384 < (qB6 a0_0 l0_1 l0_2 l0_3).length then some ([], 3) else some (qB6 a0_0 l0_1 l0_2 l0_3, 0)) else none
end Q
end
section
namespace Q
open Go.RowKit PA PB PC
open Val Ins Wr Enc Wr2 Clone
def accP (b5 : List Int) (vars : List S71) (fns : List S80) (rels : List S82) : Nat → List Int
 | 0 => b5
 | 1 => b5 ++ (be vars.length 4 4 ++ vars.flatMap varB)
 | 2 => b5 ++ (be vars.length 4 4 ++ vars.flatMap varB) ++ (be fns.length 4 4 ++ fns.flatMap nfnB)
 | _ => b5 ++ (be vars.length 4 4 ++ vars.flatMap varB) ++ (be fns.length 4 4 ++ fns.flatMap nfnB) ++ (be rels.length 4 4 ++ rels.flatMap relB)
theorem idx3_0 (f0 f1 f2 : Value) (w : World) : (Instr.index 92 (.agg #[f0, f1, f2]) (.int .i64 0)).run Try.prog w = .ok f0 w := by kernel_rfl
theorem idx3_1 (f0 f1 f2 : Value) (w : World) : (Instr.index 92 (.agg #[f0, f1, f2]) (.int .i64 1)).run Try.prog w = .ok f1 w := by kernel_rfl
theorem idx3_2 (f0 f1 f2 : Value) (w : World) : (Instr.index 92 (.agg #[f0, f1, f2]) (.int .i64 2)).run Try.prog w = .ok f2 w := by kernel_rfl
theorem conv_mark (W : World) (g n c : Nat) (cur : Array Value) (hg : W.heap[g]? = some (.cells cur 5 (0, 0))) (hs : cur.size = n) :
  (convert 22 22 (.slice (some ⟨g, 0, none⟩) n c)).run Try.prog W = .ok (.slice (some ⟨g, 0, none⟩) n c) (W.freeze ⟨g, n, none⟩ 1) := by
 have hsh : W.shape? g = some (5, cur.size) := by unfold World.shape?; rw [hg]
 subst hs
 simp [convert, run_underlying Try.underlying22, run_underlying Try.underlying5, markStringish, hsh]
theorem freeze_at (W : World) (g n : Nat) (cur : Array Value) (hg : W.heap[g]? = some (.cells cur 5 (0, 0))) : (W.freeze ⟨g, n, none⟩ 1).heap[g]? = some (.cells cur 5 (n, n + 1)) := by
 unfold World.freeze
 simp [Array.getElem?_modify, hg]
theorem qE5 (W : World) (a : Addr) (n : Nat) : (W.freeze a n).heap.size = W.heap.size := by unfold World.freeze; split <;> simp
theorem freeze_below {B : Nat} {a W : World} (h : Below B a W) (p : Addr) (n : Nat) (hp : B ≤ p.block) : Below B a (W.freeze p n) :=
 ⟨by have := h.os; unfold World.freeze; split <;> simpa using this, by have := h.tape; unfold World.freeze; split <;> simpa using this, by have := h.output; unfold World.freeze; split <;> simpa using this, by rw [qE5]; exact h.size, fun k hk => (qDt W p n k (by omega)).trans (h.block k hk)⟩
theorem qA9.calls (a0_0 : ByteArray) (A0_1 : Option Addr) (c0_1 : Nat) (l0_1 : List (S71)) (A0_2 : Option Addr) (c0_2 : Nat) (l0_2 : List (S80)) (A0_3 : Option Addr) (c0_3 : Nat) (l0_3 : List (S82)) (r1 : List Int) (r2 : Int) (w : World) (hr0_1 : Kd.C k71 w A0_1 l0_1.length l0_1) (hc0_1 : l0_1.length ≤ c0_1) (hr0_2 : Kd.C k80 w A0_2 l0_2.length l0_2) (hc0_2 : l0_2.length ≤ c0_2) (hr0_3 : Kd.C k82 w A0_3 l0_3.length l0_3) (hc0_3 : l0_3.length ≤ c0_3) (h : qA9.f a0_0 l0_1 l0_2 l0_3 = some (r1, r2)) :
  Calls Try.prog 9 #[.agg #[.string a0_0, .slice A0_1 l0_1.length c0_1, .slice A0_2 l0_2.length c0_2, .slice A0_3 l0_3.length c0_3]] w fun e w' => ∃ v0_ : Value, e = .returned (.tuple #[v0_, .int .i64 r2]) ∧ Kd.R (Kd.int .u8) 5 w' w.heap.size (fun _ => True) v0_ r1 ∧ Below w.heap.size w w' := by
 unfold qA9.f at h
 split at h
 case isFalse => cases h
 rename_i hg
 obtain ⟨kr, hkr⟩ := (qEs a0_0 l0_1 l0_2 l0_3 hg).rounds
 obtain ⟨n1, hn1⟩ : ∃ n, n = l0_1.length := ⟨_, rfl⟩
 obtain ⟨n2, hn2⟩ : ∃ n, n = l0_2.length := ⟨_, rfl⟩
 obtain ⟨n3, hn3⟩ : ∃ n, n = l0_3.length := ⟨_, rfl⟩
 obtain ⟨OV, hOV⟩ : ∃ OV : Array Value, OV = #[.string a0_0, .slice A0_1 n1 c0_1, .slice A0_2 n2 c0_2, .slice A0_3 n3 c0_3] := ⟨_, rfl⟩
 obtain ⟨WA, hWA⟩ : ∃ WA, WA = w.alloc (.cells OV 27) := ⟨_, rfl⟩
 have hBA : Below w.heap.size w WA := hWA ▸ (Below.refl _ _).alloc (Nat.le_refl _) _
 have hgA : w.heap.size < WA.heap.size := by rw [hWA]; simp
 have k0 : WA.cell? ⟨w.heap.size, 0, none⟩ = some (.string a0_0) := by rw [hWA, World.cell?_alloc_at _ _ _ _ rfl, hOV]; rfl
 have k1 : WA.cell? ⟨w.heap.size, 1, none⟩ = some (.slice A0_1 n1 c0_1) := by rw [hWA, World.cell?_alloc_at _ _ _ _ rfl, hOV]; rfl
 have k2 : WA.cell? ⟨w.heap.size, 2, none⟩ = some (.slice A0_2 n2 c0_2) := by rw [hWA, World.cell?_alloc_at _ _ _ _ rfl, hOV]; rfl
 have k3 : WA.cell? ⟨w.heap.size, 3, none⟩ = some (.slice A0_3 n3 c0_3) := by rw [hWA, World.cell?_alloc_at _ _ _ _ rfl, hOV]; rfl
 have HBX : qAa (∀ W, Below WA.heap.size WA W → W.cell? ⟨w.heap.size, 0, none⟩ = some (.string a0_0) ∧ W.cell? ⟨w.heap.size, 1, none⟩ = some (.slice A0_1 n1 c0_1) ∧ W.cell? ⟨w.heap.size, 2, none⟩ = some (.slice A0_2 n2 c0_2) ∧ W.cell? ⟨w.heap.size, 3, none⟩ = some (.slice A0_3 n3 c0_3)) := ⟨fun W hW =>
   ⟨(hW.cell (p := ⟨w.heap.size, 0, none⟩) hgA).trans k0, (hW.cell (p := ⟨w.heap.size, 1, none⟩) hgA).trans k1, (hW.cell (p := ⟨w.heap.size, 2, none⟩) hgA).trans k2, (hW.cell (p := ⟨w.heap.size, 3, none⟩) hgA).trans k3⟩⟩
 have HRT : qAa (Calls Try.prog 11 #[.agg #[.string a0_0, .slice A0_1 n1 c0_1, .slice A0_2 n2 c0_2, .slice A0_3 n3 c0_3]] WA fun e w' => e = .returned (.int .i64 (qBI a0_0 l0_1 l0_2 l0_3)) ∧ Below WA.heap.size WA w') :=
  ⟨by rw [hn1, hn2, hn3]; exact qAn.calls kr a0_0 A0_1 c0_1 l0_1 A0_2 c0_2 l0_2 A0_3 c0_3 l0_3 _ WA (Kd.C_below hr0_1 hBA) hc0_1 (Kd.C_below hr0_2 hBA) hc0_2 (Kd.C_below hr0_3 hBA) hc0_3 hkr⟩
 have HBA := am hBA
 have HC1 : qAa (Kd.C k71 WA A0_1 n1 l0_1) := ⟨hn1 ▸ Kd.C_below hr0_1 hBA⟩
 have HC2 : qAa (Kd.C k80 WA A0_2 n2 l0_2) := ⟨hn2 ▸ Kd.C_below hr0_2 hBA⟩
 have HC3 : qAa (Kd.C k82 WA A0_3 n3 l0_3) := ⟨hn3 ▸ Kd.C_below hr0_3 hBA⟩
 rw [← hn1, ← hn2, ← hn3]
 have HN1 := am hn1
 have HN2 := am hn2
 have HN3 := am hn3
 have HG := am hg
 obtain ⟨er, her⟩ : ∃ z, z = qBI a0_0 l0_1 l0_2 l0_3 := ⟨_, rfl⟩
 rw [← her] at HRT h
 have HER := am her
 rw [hOV] at hWA
 have HWA := am hWA
 clear hr0_1 hr0_2 hr0_3 hc0_1 hc0_2 hc0_3 hkr hBA k0 k1 k2 k3 hn1 hn2 hn3 hg her hWA hOV
 by_cases hz : er = 0
 case neg =>
  rw [if_pos hz] at h
  have h := Option.some.inj h
  obtain ⟨rfl, rfl⟩ : [] = r1 ∧ er = r2 := ⟨congrArg Prod.fst h, congrArg Prod.snd h⟩
  have hz' : (er != 0) = true := bne_iff_ne.mpr hz
  clear h hz
  go_enter Try.func9, Try.ntmps9
  go_wp2_with fail
  rw [← HWA.out]
  go_wp2_with fail
  refine HRT.out.mono ?_
  rintro e w1 ⟨rfl, hb⟩
  have HB1 := am hb
  clear hb
  go_wp2
  go_ret2
  exact ⟨_, rfl, Kd.R_nil _ _ _ _ _, qA3 HBA.out HBA.out.size HB1.out⟩
 rw [if_neg (fun hh => hh hz)] at h
 have HRO := am (qCi.of (m := a0_0) (vars := l0_1) (fns := l0_2) (rels := l0_3) (HER.out.symm.trans hz))
 have HH := am h
 subst hz
 clear h
 go_enter Try.func9, Try.ntmps9
 go_wp2_with fail
 rw [← HWA.out]
 go_wp2_with fail
 refine HRT.out.mono ?_
 rintro e w1 ⟨rfl, hb⟩
 have HB1 := am hb
 clear hb
 obtain ⟨WM, hWM⟩ : ∃ WM, WM = (w1.alloc (.cells #[.slice none 0 0] 86)).alloc (.cells #[.int .u8 102, .int .u8 111, .int .u8 98, .int .u8 106] 5) := ⟨_, rfl⟩
 have hsM : WM.heap.size = w1.heap.size + 2 := by rw [hWM]; simp
 have hlM : WM.heap[w1.heap.size + 1]? = some (.cells #[.int .u8 102, .int .u8 111, .int .u8 98, .int .u8 106] 5 (0, 0)) := by
  rw [hWM]; simpa using heap_alloc_new (w1.alloc (.cells #[.slice none 0 0] 86)) (.cells #[.int .u8 102, .int .u8 111, .int .u8 98, .int .u8 106] 5)
 have hpM : WM.heap[w1.heap.size]? = some (.cells #[.slice none 0 0] 86 (0, 0)) := by
  rw [hWM]; exact qAE (heap_alloc_new w1 _) _
 have hcv := conv_mark WM (w1.heap.size + 1) 4 4 _ hlM rfl
 obtain ⟨WF, hWF⟩ : ∃ WF, WF = WM.freeze ⟨w1.heap.size + 1, 4, none⟩ 1 := ⟨_, rfl⟩
 have hsF : WF.heap.size = w1.heap.size + 2 := by rw [hWF, qE5]; exact hsM
 have hlF : WF.heap[w1.heap.size + 1]? = some (.cells #[.int .u8 102, .int .u8 111, .int .u8 98, .int .u8 106] 5 (4, 5)) := hWF ▸ freeze_at WM _ 4 _ hlM
 have hpF : WF.heap[w1.heap.size]? = some (.cells #[.slice none 0 0] 86 (0, 0)) := by
  rw [hWF, qDt _ _ _ _ (by show w1.heap.size ≠ w1.heap.size + 1; omega)]; exact hpM
 have hBF : Below WA.heap.size WA WF := by
  rw [hWF, hWM]
  exact freeze_below ((HB1.out.alloc HB1.out.size _).alloc (by have := HB1.out.size; simp; omega) _) _ _ (by have := HB1.out.size; show WA.heap.size ≤ w1.heap.size + 1; omega)
 have HKF : qAa (WK WA w1.heap.size WF (.slice none 0 0) []) := ⟨⟨⟨(qAb hpF 0).trans rfl, qAr hpF 0, World.ownsRow_nil _ _ _ _, fun k hk => by cases hk⟩, hBF, HB1.out.size, fun k hk => by cases hk⟩⟩
 have HLF : qAa (∀ W' v', qAP w1.heap.size WF (.slice none 0 0) W' v' → W'.cell? ⟨w1.heap.size + 1, 0, none⟩ = some (.int .u8 102) ∧ W'.cell? ⟨w1.heap.size + 1, 1, none⟩ = some (.int .u8 111) ∧ W'.cell? ⟨w1.heap.size + 1, 2, none⟩ = some (.int .u8 98) ∧ W'.cell? ⟨w1.heap.size + 1, 3, none⟩ = some (.int .u8 106)) := ⟨fun W' v' hs => by
   have g : ∀ i, W'.cell? ⟨w1.heap.size + 1, i, none⟩ = WF.cell? ⟨w1.heap.size + 1, i, none⟩ := fun i => hs.cell (a := ⟨w1.heap.size + 1, i, none⟩) (by rw [hsF]; exact Nat.lt_succ_self _) (Nat.succ_ne_self _) (by simp [Value.ownBlock])
   exact ⟨by rw [g 0]; simp [World.cell?, hlF], by rw [g 1]; simp [World.cell?, hlF], by rw [g 2]; simp [World.cell?, hlF], by rw [g 3]; simp [World.cell?, hlF]⟩⟩
 have HWM := am hWM
 have HWF := am hWF
 rw [← hWF, hWM] at hcv
 clear hsM hlM hpM hWF hsF hlF hpF hBF hWM HRT
 go_wp2_with fail
 go_loopg [7, 21] 4 (fun gg _ s21 wr => ∃ (kk : Nat) (v' : Value), kk ≤ 4 ∧ 4 - kk ≤ gg ∧ s21 = .int .i64 kk ∧ qAa (WK WA w1.heap.size wr v' (([102, 111, 98, 106] : List Int).take kk)) ∧ qAa (qAP w1.heap.size WF (.slice none 0 0) wr v'))
 case atStart => exact ⟨0, .slice none 0 0, by omega, by omega, rfl, HKF, ⟨qAP.refl _ _ _⟩⟩
 case round =>
  clear hcv
  obtain ⟨kk, v', hkk, hg, rfl, HK, HS⟩ := hrel
  have hcase : kk = 0 ∨ kk = 1 ∨ kk = 2 ∨ kk = 3 ∨ kk = 4 := by omega
  rcases hcase with rfl | rfl | rfl | rfl | rfl
  ·obtain ⟨z0, z1, z2, z3⟩ := HLF.out wr v' HS.out
   go_wp2_with fail
   refine (qBE w1.heap.size 102 v' _ wr HK.out.st (by simp)).mono ?_
   rintro e w2 ⟨v2, rfl, hst, hs⟩
   have HK2 : qAa (WK WA w1.heap.size w2 v2 (([102, 111, 98, 106] : List Int).take 1)) := ⟨HK.out.step hst hs⟩
   have HS2 := am (HS.out.trans hs)
   clear hst hs z0 z1 z2 z3
   go_wp2
   go_roundg (4 - 1)
   case measure => omega
   case rel => exact ⟨1, v2, by omega, by omega, rfl, HK2, HS2⟩
  ·obtain ⟨z0, z1, z2, z3⟩ := HLF.out wr v' HS.out
   go_wp2_with fail
   refine (qBE w1.heap.size 111 v' _ wr HK.out.st (by simp)).mono ?_
   rintro e w2 ⟨v2, rfl, hst, hs⟩
   have HK2 : qAa (WK WA w1.heap.size w2 v2 (([102, 111, 98, 106] : List Int).take 2)) := ⟨HK.out.step hst hs⟩
   have HS2 := am (HS.out.trans hs)
   clear hst hs z0 z1 z2 z3
   go_wp2
   go_roundg (4 - 2)
   case measure => omega
   case rel => exact ⟨2, v2, by omega, by omega, rfl, HK2, HS2⟩
  ·obtain ⟨z0, z1, z2, z3⟩ := HLF.out wr v' HS.out
   go_wp2_with fail
   refine (qBE w1.heap.size 98 v' _ wr HK.out.st (by simp)).mono ?_
   rintro e w2 ⟨v2, rfl, hst, hs⟩
   have HK2 : qAa (WK WA w1.heap.size w2 v2 (([102, 111, 98, 106] : List Int).take 3)) := ⟨HK.out.step hst hs⟩
   have HS2 := am (HS.out.trans hs)
   clear hst hs z0 z1 z2 z3
   go_wp2
   go_roundg (4 - 3)
   case measure => omega
   case rel => exact ⟨3, v2, by omega, by omega, rfl, HK2, HS2⟩
  ·obtain ⟨z0, z1, z2, z3⟩ := HLF.out wr v' HS.out
   go_wp2_with fail
   refine (qBE w1.heap.size 106 v' _ wr HK.out.st (by simp)).mono ?_
   rintro e w2 ⟨v2, rfl, hst, hs⟩
   have HK2 : qAa (WK WA w1.heap.size w2 v2 (([102, 111, 98, 106] : List Int).take 4)) := ⟨HK.out.step hst hs⟩
   have HS2 := am (HS.out.trans hs)
   clear hst hs z0 z1 z2 z3
   go_wp2
   go_roundg (4 - 4)
   case measure => omega
   case rel => exact ⟨4, v2, by omega, by omega, rfl, HK2, HS2⟩
  have HK4 : qAa (WK WA w1.heap.size wr v' [102, 111, 98, 106]) := ⟨HK.out⟩
  clear HK HS HKF HLF hg hkk
  obtain ⟨q0, q1, q2, q3⟩ := HBX.out wr HK4.out.below
  have hmS : a0_0.size ≤ 32 := Names.size_le_of_ok HRO.out.m
  go_wp2_with fail
  refine (qDC w1.heap.size a0_0 v' _ wr HK4.out.st (by simp) (by omega)).mono ?_
  rintro e w5 ⟨v5, rfl, hst, hs⟩
  have HK5 := am (HK4.out.step hst hs)
  obtain ⟨b5, hb5⟩ : ∃ b : List Int, b = [102, 111, 98, 106] ++ rawB (qBt a0_0) := ⟨_, rfl⟩
  rw [← hb5] at HK5
  have HB5 := am hb5
  have HL5 : qAa (b5.length ≤ 40) := ⟨by rw [hb5, List.length_append, qCd]; simp; omega⟩
  clear hst hs q0 q1 q2 q3 hb5 HK4
  have HV : qAa (∀ x ∈ l0_1, qBy x.f0 ∧ 0 ≤ x.f1.f1 ∧ x.f1.f1 < 18446744073709551616) := ⟨fun x hx => ⟨Names.size_le_of_ok (HRO.out.v x hx).1, (HG.out.v x hx).2⟩⟩
  have HF : qAa (∀ x ∈ l0_2, qBy x.f0 ∧ okFnS x) := ⟨fun x hx => ⟨Names.size_le_of_ok (HRO.out.f x hx).1, by
    obtain ⟨g1, g2, g3, g4⟩ := qEp (HRO.out.f x hx).2
    exact ⟨g1, g2, g3, g4, (HG.out.f x hx).2.2.2.2⟩⟩⟩
  have HRL : qAa (∀ x ∈ l0_3, qBy x.f3 ∧ qBy x.f4 ∧ 0 ≤ x.f0 ∧ x.f0 ≤ 9223372036854775807 ∧ 0 ≤ x.f1 ∧ x.f1 ≤ 9223372036854775807) := ⟨fun x hx => by
    obtain ⟨g0, g1, g2, g3⟩ := HRO.out.at_ x hx
    exact ⟨Names.size_le_of_ok (HRO.out.r x hx).1, Names.size_le_of_ok (HRO.out.r x hx).2, g0, by omega, g2, by omega⟩⟩
  have HNV : qAa (l0_1.length ≤ 64 ∧ l0_2.length ≤ 64 ∧ l0_3.length ≤ 262144) := ⟨by have := HRO.out.n; omega, by have := HRO.out.n; omega, HRO.out.rels⟩
  have HLV : qAa ((be l0_1.length 4 4 ++ l0_1.flatMap varB).length ≤ 2884) := ⟨by
    have h1 := qDd varB l0_1 45 fun y hy => varB_len y (HV.out y hy).1
    have := HNV.out.1
    rw [List.length_append, qAL]; omega⟩
  have HLF2 : qAa ((be l0_2.length 4 4 ++ l0_2.flatMap nfnB).length ≤ 2630404) := ⟨by
    have h1 := qDd nfnB l0_2 41100 fun y hy => nfnB_len y (HF.out y hy).1 (HF.out y hy).2
    have := HNV.out.2.1
    rw [List.length_append, qAL]; omega⟩
  have HLR : qAa ((be l0_3.length 4 4 ++ l0_3.flatMap relB).length ≤ 20185092) := ⟨by
    have h1 := qDd relB l0_3 77 fun y hy => relB_len y (HRL.out y hy).1 (HRL.out y hy).2.1
    have := HNV.out.2.2
    rw [List.length_append, qAL]; omega⟩
  go_wp2_with fail
  go_loopg [10, 42] 3 (fun gg _ s42 wr => ∃ (kk : Nat) (v' : Value), kk ≤ 3 ∧ 3 - kk ≤ gg ∧ s42 = .int .i64 kk ∧ qAa (WK WA w1.heap.size wr v' (accP b5 l0_1 l0_2 l0_3 kk)))
  case atStart => exact ⟨0, v5, by omega, by omega, rfl, ⟨HK5.out.alloc _⟩⟩
  case round =>
   clear HK5
   obtain ⟨kk, v', hkk, hg, rfl, HK⟩ := hrel
   have hcase : kk = 0 ∨ kk = 1 ∨ kk = 2 ∨ kk = 3 := by omega
   rcases hcase with rfl | rfl | rfl | rfl
   ·have hix := idx3_0 (.func (.func 32) #[.agg #[.pointer (some ⟨w1.heap.size, 0, none⟩)]] #[]) (.func (.func 33) #[.agg #[.pointer (some ⟨w1.heap.size, 0, none⟩)]] #[]) (.func (.func 34) #[.agg #[.pointer (some ⟨w1.heap.size, 0, none⟩)]] #[]) wr
    replace HK : qAa (WK WA w1.heap.size wr v' (b5)) := HK
    obtain ⟨q0, q1, q2, q3⟩ := HBX.out wr HK.out.below
    go_wp2_with fail
    refine (vars_any w1.heap.size a0_0 A0_1 n1 c0_1 A0_2 n2 c0_2 A0_3 n3 c0_3 l0_1 v' _ WA wr HK.out HN1.out.symm HC1.out HNV.out.1 HV.out (by have := HL5.out; omega)).mono ?_
    rintro e w2 ⟨v2, rfl, hst, hs⟩
    have HK2 : qAa (WK WA w1.heap.size w2 v2 (accP b5 l0_1 l0_2 l0_3 1)) := ⟨HK.out.step hst hs⟩
    clear hst hs q0 q1 q2 q3
    go_wp2
    go_roundg (3 - 1)
    case measure => omega
    case rel => exact ⟨1, v2, by omega, by omega, rfl, HK2⟩
   ·have hix := idx3_1 (.func (.func 32) #[.agg #[.pointer (some ⟨w1.heap.size, 0, none⟩)]] #[]) (.func (.func 33) #[.agg #[.pointer (some ⟨w1.heap.size, 0, none⟩)]] #[]) (.func (.func 34) #[.agg #[.pointer (some ⟨w1.heap.size, 0, none⟩)]] #[]) wr
    replace HK : qAa (WK WA w1.heap.size wr v' (b5 ++ (be l0_1.length 4 4 ++ l0_1.flatMap varB))) := HK
    obtain ⟨q0, q1, q2, q3⟩ := HBX.out wr HK.out.below
    go_wp2_with fail
    refine (fns_any w1.heap.size a0_0 A0_1 n1 c0_1 A0_2 n2 c0_2 A0_3 n3 c0_3 l0_2 v' _ WA wr HK.out HN2.out.symm HC2.out HNV.out.2.1 HF.out (by have := HL5.out; have := HLV.out; rw [List.length_append]; omega)).mono ?_
    rintro e w2 ⟨v2, rfl, hst, hs⟩
    have HK2 : qAa (WK WA w1.heap.size w2 v2 (accP b5 l0_1 l0_2 l0_3 2)) := ⟨HK.out.step hst hs⟩
    clear hst hs q0 q1 q2 q3
    go_wp2
    go_roundg (3 - 2)
    case measure => omega
    case rel => exact ⟨2, v2, by omega, by omega, rfl, HK2⟩
   ·have hix := idx3_2 (.func (.func 32) #[.agg #[.pointer (some ⟨w1.heap.size, 0, none⟩)]] #[]) (.func (.func 33) #[.agg #[.pointer (some ⟨w1.heap.size, 0, none⟩)]] #[]) (.func (.func 34) #[.agg #[.pointer (some ⟨w1.heap.size, 0, none⟩)]] #[]) wr
    replace HK : qAa (WK WA w1.heap.size wr v' (b5 ++ (be l0_1.length 4 4 ++ l0_1.flatMap varB) ++ (be l0_2.length 4 4 ++ l0_2.flatMap nfnB))) := HK
    obtain ⟨q0, q1, q2, q3⟩ := HBX.out wr HK.out.below
    go_wp2_with fail
    refine (rels_any w1.heap.size a0_0 A0_1 n1 c0_1 A0_2 n2 c0_2 A0_3 n3 c0_3 l0_3 v' _ WA wr HK.out HN3.out.symm HC3.out HNV.out.2.2 HRL.out (by have := HL5.out; have := HLV.out; have := HLF2.out; rw [List.length_append, List.length_append]; omega)).mono ?_
    rintro e w2 ⟨v2, rfl, hst, hs⟩
    have HK2 : qAa (WK WA w1.heap.size w2 v2 (accP b5 l0_1 l0_2 l0_3 3)) := ⟨HK.out.step hst hs⟩
    clear hst hs q0 q1 q2 q3
    go_wp2
    go_roundg (3 - 3)
    case measure => omega
    case rel => exact ⟨3, v2, by omega, by omega, rfl, HK2⟩
   have HP : qAa (WK WA w1.heap.size wr v' (qB6 a0_0 l0_1 l0_2 l0_3)) := ⟨by
     have e : qB6 a0_0 l0_1 l0_2 l0_3 = accP b5 l0_1 l0_2 l0_3 3 := by
       show _ = b5 ++ (be l0_1.length 4 4 ++ l0_1.flatMap varB) ++ (be l0_2.length 4 4 ++ l0_2.flatMap nfnB) ++ (be l0_3.length 4 4 ++ l0_3.flatMap relB)
       rw [HB5.out]; unfold qB6; simp only [List.append_assoc]
     rw [e]; exact HK.out⟩
   have HPL : qAa ((qB6 a0_0 l0_1 l0_2 l0_3).length ≤ 30000000) := ⟨by
     have e : qB6 a0_0 l0_1 l0_2 l0_3 = b5 ++ (be l0_1.length 4 4 ++ l0_1.flatMap varB) ++ (be l0_2.length 4 4 ++ l0_2.flatMap nfnB) ++ (be l0_3.length 4 4 ++ l0_3.flatMap relB) := by
       rw [HB5.out]; unfold qB6; simp only [List.append_assoc]
     have := HL5.out; have := HLV.out; have := HLF2.out; have := HLR.out
     rw [e, List.length_append, List.length_append, List.length_append]; omega⟩
   clear HK hg hkk
   obtain ⟨pb, hpb⟩ : ∃ pb, pb = qB6 a0_0 l0_1 l0_2 l0_3 := ⟨_, rfl⟩
   rw [← hpb] at HP HPL HH
   clear hpb
   go_wp2_with fail
   refine (len_any w1.heap.size v' _ wr HP.out.st).mono ?_
   rintro e w6 ⟨rfl, rfl⟩
   by_cases hbig : 16384 < pb.length
   ·have hbig' : decide (16384 < (pb.length : Int)) = true := decide_eq_true (by omega)
    have H2 := HH.out
    rw [if_pos hbig] at H2
    have H2 := Option.some.inj H2
    obtain ⟨rfl, rfl⟩ : [] = r1 ∧ 3 = r2 := ⟨congrArg Prod.fst H2, congrArg Prod.snd H2⟩
    clear H2 HH
    go_wp2
    go_ret2
    exact ⟨_, rfl, Kd.R_nil _ _ _ _ _, qA3 HBA.out HBA.out.size HP.out.below⟩
   have hbig' : decide (16384 < (pb.length : Int)) = false := decide_eq_false (by omega)
   have H2 := HH.out
   rw [if_neg hbig] at H2
   have H2 := Option.some.inj H2
   obtain ⟨rfl, rfl⟩ : pb = r1 ∧ 0 = r2 := ⟨congrArg Prod.fst H2, congrArg Prod.snd H2⟩
   clear H2 HH
   go_wp2_with fail
   refine (bytes_any w1.heap.size v' _ wr HP.out.st (by have := HPL.out; omega)).mono ?_
   rintro e w7 ⟨x, rfl, hown, hb⟩
   have HOW := am hown
   have HB7 := am hb
   clear hown hb
   go_wp2
   go_ret2
   exact ⟨x, rfl, Kd.R_lower (Kd.R_of_own HOW.out (fun _ _ => trivial)) (Nat.le_trans HBA.out.size HP.out.below.size), qA3 HBA.out HBA.out.size (qA3 HP.out.below HP.out.below.size HB7.out)⟩
end Q
end
section
namespace Q
open Go.RowKit PA PB PC
theorem RdB.of_R {W : World} {b0 g base : Nat} {bs : List Int} {v : Value} (h : Kd.R (Kd.int .u8) 5 W base (fun _ => True) v bs) (h0 : b0 ≤ base) (hg : W.heap.size ≤ g) : RdB W b0 g bs v := by
 rcases Nat.eq_zero_or_pos bs.length with hz | hp
 ·obtain ⟨A, c, hv⟩ := Kd.R_slice h
  exact .inl ⟨List.length_eq_zero_iff.1 hz, A, c, by rw [hv, hz]⟩
 obtain ⟨A, c, hv, hcl, hC⟩ := Kd.R_reads h
 obtain ⟨inner, hown⟩ := Kd.R_own h
 rcases hown.2 with ⟨hv2, _⟩ | ⟨gb, cap, cur, hv2, hb, hcur, _⟩
 ·rw [hv] at hv2; injection hv2 with _ h2 _; omega
 rw [hv] at hv2; injection hv2 with h1 _ h3; subst h1; subst h3
 refine .inr ⟨gb, 0, c, cur, by omega, Nat.lt_of_lt_of_le (qAw hcur) hg, hv, hp, hcl, hcur, fun j y hj => ?_⟩
 obtain ⟨ad, had, hcell⟩ := hC.2.2 hp
 cases had
 obtain ⟨cs, _, hK, hcc⟩ := hcell j y hj
 obtain rfl : cs = [Value.int .u8 y] := hK
 have h2 := hcc 0 _ rfl
 rw [show j * (Kd.int .u8).sz + 0 = j from Nat.mul_one j, qCx] at h2
 rw [Nat.zero_add, ← qAb hcur]; exact h2
def qCm.f (l0 : List Int) : Option (List Int × Int × Int) := if l0.length ≤ 4294967296 then some (l0, 0, 0) else none
theorem qCm.calls (A0 : Option Addr) (c0 : Nat) (l0 : List Int) (r1 : List Int) (r2 : Int) (r3 : Int) (w0 w : World) (hB : Below w0.heap.size w0 w) (hr0 : Kd.C (Kd.int .u8) w0 A0 l0.length l0) (hc0 : l0.length ≤ c0) (h : qCm.f l0 = some (r1, r2, r3)) :
  Calls Try.prog 19 #[.slice A0 l0.length c0] w fun e w' => ∃ g_ : Nat, e = .returned (.pointer (some ⟨g_, 0, none⟩)) ∧ qAi w0 w' g_ r1 r2 r3 ∧ Below w0.heap.size w0 w' ∧ Below w.heap.size w w' := by
 unfold qCm.f at h
 split at h
 case isFalse => cases h
 rename_i hl
 simp only [Option.some.injEq, Prod.mk.injEq] at h
 obtain ⟨rfl, rfl, rfl⟩ := h
 have HB := am hB
 have HCL := am (qAY.calls A0 c0 l0 l0 w (Kd.C_below hr0 hB) hc0 (by unfold qAY.f; rw [if_pos hl]))
 have HL := am hl
 clear hB hr0 hc0 hl
 go_enter Try.func19, Try.ntmps19
 go_wp2_with (go_at_call 66; refine HCL.out.mono ?_; rintro e w1 ⟨v, rfl, hR, hb⟩; obtain ⟨A1, c1, ev⟩ := Kd.R_slice hR; subst ev; have HR := am hR; have HB1 := am hb; clear hR hb)
 go_ret
 refine ⟨w1.heap.size, rfl, ⟨Nat.le_trans HB.out.size HB1.out.size, Int.le_refl 0, by omega, by have := HL.out; omega, .slice A1 l0.length c1, by simpa using heap_alloc_new w1 (.cells #[.slice A1 l0.length c1, .int .i64 0] 144), ?_⟩, ?_, ?_⟩
 ·exact (RdB.of_R HR.out HB.out.size (Nat.le_refl _)).move fun gb cells hc => (qA5 (Below.refl _ _) _).block gb (qAw hc)
 ·exact qA5 (qA3 HB.out HB.out.size HB1.out) _
 ·exact qA5 HB1.out _
end Q
end
section
namespace Q
open Go.RowKit PA PB PC
attribute [local go_sem] qBd min2_int qBn min_two max_three min_three max_four min_four
def qA1.l0 : Nat → List Int → Int → Int → List Int → Int → Int → Option (List Int × Int × Int)
 | 0, _, _, _, _, _, _ => none
 | k + 1, x3, x6, x7, aR, aT, aU => if x7 < x6 then ((qAk.f aR aT aU).bind fun aJ => (if x3.length < 17592186044416 then (qA1.l0 k (x3 ++ [wrap64 (aJ.1)]) x6 (wrap64 (x7 + 1)) aR aJ.2.1 aJ.2.2) else (none))) else (some (x3, aT, aU))
def qA1.f (k : Nat) (s0_0 : List Int) (s0_1 : Int) (s0_2 : Int) : Option (List Int × Int × Int) := (qAk.f s0_0 s0_1 s0_2).bind fun aC => (qA1.l0 k ([] : List Int) (wrap64 (aC.1)) 0 s0_0 aC.2.1 aC.2.2)
theorem qA1.calls (k : Nat) (g : Nat) (s0_0 : List Int) (s0_1 : Int) (s0_2 : Int) (r1 : List Int) (r2 : Int) (r3 : Int) (w0 w : World) (hI : qAi w0 w g s0_0 s0_1 s0_2) (hB : Below w0.heap.size w0 w) (h : qA1.f k s0_0 s0_1 s0_2 = some (r1, r2, r3)) :
  Calls Try.prog 76 #[.pointer (some ⟨g, 0, none⟩)] w fun e w' => ∃ v0_ : Value, e = .returned (v0_) ∧ Kd.R (Kd.int .i64) 3 w' w.heap.size (fun _ => True) v0_ r1 ∧ qAi w0 w' g s0_0 r2 r3 ∧ Below w0.heap.size w0 w' ∧ qAf w w' g none := by
 have aI := am hI
 have HK := am (qAf.refl w g none)
 have HL := am hB.size
 clear hI
 have HB := am hB
 clear hB
 have H : ((qAk.f s0_0 s0_1 s0_2).bind fun aC => (qA1.l0 k ([] : List Int) (wrap64 (aC.1)) 0 s0_0 aC.2.1 aC.2.2)) = some (r1, r2, r3) := h
 clear h
 replace H := bm H
 obtain ⟨⟨aG, aV, aW⟩, a5, H⟩ := H
 replace H : (qA1.l0 k ([] : List Int) (wrap64 (aG)) 0 s0_0 aV aW) = some (r1, r2, r3) := H
 have A2 := am a5
 clear a5
 have H' := am H
 clear H
 go_enter Try.func76, Try.ntmps76
 go_wp2_with ((with_reducible refine qAp (f := 20) rfl ?_); refine gL 5 Try.func20 #[.pointer (some ⟨g, 0, none⟩)] ?_; (with_reducible refine (qAk.calls g s0_0 s0_1 s0_2 aG aV aW w0 _ ?side1 ?side2 A2.o).mono ?_); (case side1 => exact aI.o); (case side2 => exact HB.o); rintro e w3 ⟨rfl, hi, hb, hk⟩; refine ⟨_, rfl, ?_⟩; have n_ := a2 (qAf.trans HK.o hk (.inl rfl)) (a2 (hb) (am (hi))); clear HK HB aI; obtain ⟨HK, HB, aI⟩ := n_)
 go_loopg [3, 7] k (fun kq v3 v7 w' => ∃ (aH : List Int) (aD : Int) (aA : Int) (aB : Int), v7 = .int .i64 aD ∧ qAa (qA1.l0 kq aH (wrap64 (aG)) aD s0_0 aA aB = some (r1, r2, r3)) ∧ qAa (kq ≤ k) ∧ qAa (Kd.R (Kd.int .i64) 3 w' w.heap.size (fun _ => True) v3 aH) ∧ qAa (qAi w0 w' g s0_0 aA aB) ∧ qAa (qAf w w' g none) ∧ qAa (Below w0.heap.size w0 w'))
 case atStart => exact ⟨([] : List Int), (0), (aV), (aW), (by rfl), H', ⟨Nat.le_refl _⟩, ⟨by (exact Kd.R_nil _ _ _ _ _)⟩, ⟨by exact aI.o⟩, ⟨by exact HK.o⟩, ⟨by exact HB.o⟩⟩
 case round =>
  clear H'
  obtain ⟨aH, aD, aA, aB, rfl, HA, a7, aE, aI, HK, HB⟩ := hrel
  cases gk with
  | zero => exact absurd HA.o (by simp [qA1.l0])
  | succ k1 =>
   have H := HA.o
   clear HA
   simp only [qA1.l0] at H
   by_cases c4 : aD < (wrap64 (aG))
   rotate_left
   ·rw [if_neg c4] at H
    replace c4 := d0 c4
    simp only [Option.some.injEq, Prod.mk.injEq] at H
    obtain ⟨rfl, rfl, rfl⟩ := H
    go_wp2
    go_ret
    exact ⟨_, by rfl, by exact aE.o, by exact aI.o, by exact HB.o, by exact HK.o⟩
   rw [if_pos c4] at H
   replace c4 := d1 c4
   replace H := bm H
   obtain ⟨⟨aM, aN, aQ⟩, a6, H⟩ := H
   replace H : (if aH.length < 17592186044416 then (qA1.l0 k1 (aH ++ [wrap64 (aM)]) (wrap64 (aG)) (wrap64 (aD + 1)) s0_0 aN aQ) else (none)) = some (r1, r2, r3) := H
   have A5 := am a6
   clear a6
   obtain ⟨c6, H⟩ := gd H
   have a3 := am c6
   clear c6
   obtain ⟨aZ, aK⟩ : ∃ y_ : List Int, y_ = (aH ++ [wrap64 (aM)]) := ⟨_, rfl⟩
   replace H : (qA1.l0 k1 aZ (wrap64 (aG)) (wrap64 (aD + 1)) s0_0 aN aQ) = some (r1, r2, r3) := by (rw [aK]; with_reducible exact H)
   have aY := am aK
   clear aK
   have H' := am H
   clear H
   go_wp2_with (first | ((with_reducible refine qAp (f := 20) rfl ?_); refine gL 11 Try.func20 #[.pointer (some ⟨g, 0, none⟩)] ?_; (with_reducible refine (qAk.calls g s0_0 aA aB aM aN aQ w0 _ ?side1 ?side2 A5.o).mono ?_); (case side1 => exact aI.o); (case side2 => exact HB.o); rintro e w7 ⟨rfl, hi, hb, hk⟩; refine ⟨_, rfl, ?_⟩; have n_ := a2 (Kd.R_kp (qAi.apart (show qAi w0 _ g s0_0 aA aB from aI.o) aE.o (by decide)) hk) (a2 (qAf.trans HK.o hk (.inl rfl)) (a2 (hb) (am (hi)))); clear aE HK HB aI; obtain ⟨aE, HK, HB, aI⟩ := n_) | ((with_reducible refine qBG (b := .append) (xs := #[.tmp 9, .tmp 13]) rfl ?_); at_builtin; refine Kd.R_append (Kd.int .i64) w.heap.size rfl (.tmp 9) (.tmp 13) 72 3 (.int .i64 0) 8 rfl Try.underlying72 info3 rfl (by decide) (by omega) u3 aH (wrap64 (aM)) [.int .i64 (wrap64 (aM))] (fun _ => True) (fun _ => False) rfl rfl ?aP (fun _ hk => hk.elim) ?aF ?aO (Below.refl _ _) ?aS ?aL ?_; (case aP => exact rfl); (case aF => exact (fun _ _ => trivial)); (case aO => exact aE.o); (case aS => exact (qBk (w := w) (g := g) (row := none) HK.o)); (case aL => have := a3.o; omega); intro a9 w8 ho hb hg a8; rw [← aY.o] at ho; have n_ := a2 (qAi.grownR (show qAi w0 _ g s0_0 aN aQ from aI.o) hg aI.o aE.o (by decide) (fun b_ t_ h_ => h_)) (a2 (below_weaken HB.o HL.o hb) (a2 (qAf.trans HK.o (qAf.of_grown hg g) (Kd.R_base2 aE.o)) (am (ho)))); clear aI HB HK aE; obtain ⟨aI, HB, HK, aX⟩ := n_; clear ho hb hg a8))
   go_roundg k1
   case measure => have := a7.o; omega
   case rel => exact ⟨(aZ), (wrap64 (aD + 1)), (aN), (aQ), (by rfl), H', ⟨by have := a7.o; omega⟩, ⟨by exact aX.o⟩, ⟨by exact aI.o⟩, ⟨by exact HK.o⟩, ⟨by exact HB.o⟩⟩
def qBl.f (k : Nat) (s0_0 : List Int) (s0_1 : Int) (s0_2 : Int) : Option (List Int × Int × List Int × (List (S115)) × Int × Int) := (qA1.f k s0_0 s0_1 s0_2).bind fun aW => ((qAk.f s0_0 aW.2.1 aW.2.2).bind fun aR => ((qA1.f k s0_0 aR.2.1 aR.2.2).bind fun aP => ((qA2.f s0_0 aP.2.1 aP.2.2 16384).bind fun aG => ((qAZ.f aG.1).bind fun aJ => (if aJ.2 = 0 then (some (aW.1, wrap64 (aR.1), aP.1, aJ.1, aG.2.1, aG.2.2)) else ((qAB.f s0_0 aG.2.1 aG.2.2 52).bind fun aN => (some (aW.1, wrap64 (aR.1), aP.1, aJ.1, aN.1, aN.2))))))))
theorem qBl.calls (k : Nat) (g : Nat) (s0_0 : List Int) (s0_1 : Int) (s0_2 : Int) (r1 : List Int) (r2 : Int) (r3 : List Int) (r4 : List (S115)) (r5 : Int) (r6 : Int) (w0 w : World) (hI : qAi w0 w g s0_0 s0_1 s0_2) (hB : Below w0.heap.size w0 w) (h : qBl.f k s0_0 s0_1 s0_2 = some (r1, r2, r3, r4, r5, r6)) :
  Calls Try.prog 26 #[.pointer (some ⟨g, 0, none⟩)] w fun e w' => ∃ v0_ v2_ v3_ : Value, e = .returned (.agg #[v0_, .int .i64 r2, v2_, v3_]) ∧ Kd.R (Kd.int .i64) 3 w' w.heap.size (fun k_ => some k_ ≠ (v2_ : Value).ownBlock) v0_ r1 ∧ Kd.R (Kd.int .i64) 3 w' w.heap.size (fun k_ => some k_ ≠ (v0_ : Value).ownBlock) v2_ r3 ∧ Kd.R k115 115 w' w.heap.size (fun _ => True) v3_ r4 ∧ qAi w0 w' g s0_0 r5 r6 ∧ Below w0.heap.size w0 w' ∧ qAf w w' g none := by
 have aL := am hI
 have HK := am (qAf.refl w g none)
 clear hI
 have ay := am hB.size
 have HB := am hB
 clear hB
 have H : ((qA1.f k s0_0 s0_1 s0_2).bind fun aW => ((qAk.f s0_0 aW.2.1 aW.2.2).bind fun aR => ((qA1.f k s0_0 aR.2.1 aR.2.2).bind fun aP => ((qA2.f s0_0 aP.2.1 aP.2.2 16384).bind fun aG => ((qAZ.f aG.1).bind fun aJ => (if aJ.2 = 0 then (some (aW.1, wrap64 (aR.1), aP.1, aJ.1, aG.2.1, aG.2.2)) else ((qAB.f s0_0 aG.2.1 aG.2.2 52).bind fun aN => (some (aW.1, wrap64 (aR.1), aP.1, aJ.1, aN.1, aN.2))))))))) = some (r1, r2, r3, r4, r5, r6) := h
 clear h
 replace H := bm H
 obtain ⟨⟨aI, ap, aq⟩, cE, H⟩ := H
 replace H : ((qAk.f s0_0 ap aq).bind fun aR => ((qA1.f k s0_0 aR.2.1 aR.2.2).bind fun aP => ((qA2.f s0_0 aP.2.1 aP.2.2 16384).bind fun aG => ((qAZ.f aG.1).bind fun aJ => (if aJ.2 = 0 then (some (aI, wrap64 (aR.1), aP.1, aJ.1, aG.2.1, aG.2.2)) else ((qAB.f s0_0 aG.2.1 aG.2.2 52).bind fun aN => (some (aI, wrap64 (aR.1), aP.1, aJ.1, aN.1, aN.2)))))))) = some (r1, r2, r3, r4, r5, r6) := H
 have A2 := am cE
 clear cE
 replace H := bm H
 obtain ⟨⟨aK, ar, au⟩, cF, H⟩ := H
 replace H : ((qA1.f k s0_0 ar au).bind fun aP => ((qA2.f s0_0 aP.2.1 aP.2.2 16384).bind fun aG => ((qAZ.f aG.1).bind fun aJ => (if aJ.2 = 0 then (some (aI, wrap64 (aK), aP.1, aJ.1, aG.2.1, aG.2.2)) else ((qAB.f s0_0 aG.2.1 aG.2.2 52).bind fun aN => (some (aI, wrap64 (aK), aP.1, aJ.1, aN.1, aN.2))))))) = some (r1, r2, r3, r4, r5, r6) := H
 have A3 := am cF
 clear cF
 replace H := bm H
 obtain ⟨⟨aQ, ab, ac⟩, cG, H⟩ := H
 replace H : ((qA2.f s0_0 ab ac 16384).bind fun aG => ((qAZ.f aG.1).bind fun aJ => (if aJ.2 = 0 then (some (aI, wrap64 (aK), aQ, aJ.1, aG.2.1, aG.2.2)) else ((qAB.f s0_0 aG.2.1 aG.2.2 52).bind fun aN => (some (aI, wrap64 (aK), aQ, aJ.1, aN.1, aN.2)))))) = some (r1, r2, r3, r4, r5, r6) := H
 have A4 := am cG
 clear cG
 replace H := bm H
 obtain ⟨⟨ai, ak, aj⟩, cH, H⟩ := H
 replace H : ((qAZ.f ai).bind fun aJ => (if aJ.2 = 0 then (some (aI, wrap64 (aK), aQ, aJ.1, ak, aj)) else ((qAB.f s0_0 ak aj 52).bind fun aN => (some (aI, wrap64 (aK), aQ, aJ.1, aN.1, aN.2))))) = some (r1, r2, r3, r4, r5, r6) := H
 have A5 := am cH
 clear cH
 replace H := bm H
 obtain ⟨⟨aS, al⟩, cI, H⟩ := H
 replace H : (if al = 0 then (some (aI, wrap64 (aK), aQ, aS, ak, aj)) else ((qAB.f s0_0 ak aj 52).bind fun aN => (some (aI, wrap64 (aK), aQ, aS, aN.1, aN.2)))) = some (r1, r2, r3, r4, r5, r6) := H
 have A6 := am cI
 clear cI
 by_cases c7 : al = 0
 ·rw [if_pos c7] at H
  have bj : (al != 0) = false := bn c7
  clear c7
  simp only [Option.some.injEq, Prod.mk.injEq] at H
  obtain ⟨rfl, rfl, rfl, rfl, rfl, rfl⟩ := H
  go_enter Try.func26, Try.ntmps26
  go_wp2_with (first | ((with_reducible refine qAJ (N := 2) rfl ?_); refine bx 2 #[.slice none 0 0, .int .i64 0, .slice none 0 0, .slice none 0 0] 77 ?_; intro aC hg w8 hbox hb; have n_ := a2 (qAi.below aL.o hb) (a2 (qAf.trans HK.o (qAf.of_below hb g none) (.inl rfl)) (a2 (qAj HB.o hb) (a2 (hbox) (a2 (by rw [hg]; exact (qBk HK.o) : w.heap.size ≤ aC) (a2 (Nat.le_trans ay.o (by rw [hg]; exact (qBk HK.o) : w.heap.size ≤ aC) : w0.heap.size ≤ aC) (a2 (by rw [hg]; exact Nat.ne_of_lt (qAi.lt aL.o) : g ≠ aC) (am (by rw [hg]; exact Nat.ne_of_gt (qAi.lt aL.o) : aC ≠ g)))))))); clear aL HK HB; obtain ⟨aL, HK, HB, aA, ao, an, aV, aM⟩ := n_; clear hb hbox hg) | ((with_reducible refine qAp (f := 76) rfl ?_); refine gL 7 Try.func76 #[.pointer (some ⟨g, 0, none⟩)] ?_; (with_reducible refine (qA1.calls k g s0_0 s0_1 s0_2 aI ap aq w0 _ ?side1 ?side2 A2.o).mono ?_); (case side1 => exact aL.o); (case side2 => exact HB.o); rintro e w9 ⟨cB, rfl, a5, hi, hb, hk⟩; refine ⟨_, rfl, ?_⟩; have n_ := a2 (qAf.blk hk aA.o aM.o (by simp)) (a2 (Kd.R_lower a5 (qBk HK.o)) (a2 (qAf.trans HK.o hk (.inl rfl)) (a2 (hb) (am (hi))))); clear aA HK HB aL; obtain ⟨aA, aD, HK, HB, aL⟩ := n_) | ((with_reducible refine qAp (f := 20) rfl ?_); refine gL 9 Try.func20 #[.pointer (some ⟨g, 0, none⟩)] ?_; (with_reducible refine (qAk.calls g s0_0 ap aq aK ar au w0 _ ?side1 ?side2 A3.o).mono ?_); (case side1 => exact aL.o); (case side2 => exact HB.o); rintro e cY ⟨rfl, hi, hb, hk⟩; refine ⟨_, rfl, ?_⟩; have n_ := a2 (qAf.blk hk aA.o aM.o (by simp)) (a2 (Kd.R_kp (qAi.apart aL.o aD.o (by decide)) hk) (a2 (qAf.trans HK.o hk (.inl rfl)) (a2 (hb) (am (hi))))); clear aA aD HK HB aL; obtain ⟨aA, aD, HK, HB, aL⟩ := n_; obtain ⟨aX, aZ, bo⟩ := Kd.R_slice aD.o; subst bo) | ((with_reducible refine qAp (f := 76) rfl ?_); refine gL 13 Try.func76 #[.pointer (some ⟨g, 0, none⟩)] ?_; (with_reducible refine (qA1.calls k g s0_0 ar au aQ ab ac w0 _ ?side1 ?side2 A4.o).mono ?_); (case side1 => exact aL.o); (case side2 => exact HB.o); rintro e cZ ⟨cC, rfl, a5, hi, hb, hk⟩; refine ⟨_, rfl, ?_⟩; have n_ := a2 (qAf.blk hk aA.o aM.o (by simp)) (a2 (Kd.R_mono (Kd.R_told (Kd.R_oldK (qAi.apart aL.o aD.o (by decide)) hk) (Kd.R_base a5)) (fun _ h_ => h_.1)) (a2 (Kd.R_lower (Kd.R_new' a5 (Kd.R_lt aD.o)) (qBk HK.o)) (a2 (qAf.trans HK.o hk (.inl rfl)) (a2 (hb) (am (hi)))))); clear aA aD HK HB aL; obtain ⟨aA, aD, aH, HK, HB, aL⟩ := n_; obtain ⟨a7, a9, bp⟩ := Kd.R_slice aH.o; subst bp) | ((with_reducible refine qAJ (N := 3) rfl ?_); refine bx 3 #[.slice none 0 0, .int .i64 0, .slice none 0 0, .slice none 0 0] 77 ?_; intro aE hg cW hbox hb; have n_ := a2 (Kd.R_below aD.o hb) (a2 (Kd.R_below aH.o hb) (a2 (qAi.below aL.o hb) (a2 (qAd aA.o hb) (a2 (qAf.trans HK.o (qAf.of_below hb g none) (.inl rfl)) (a2 (qAj HB.o hb) (a2 (hbox) (a2 (by rw [hg]; exact (qBk HK.o) : w.heap.size ≤ aE) (a2 (Nat.le_trans ay.o (by rw [hg]; exact (qBk HK.o) : w.heap.size ≤ aE) : w0.heap.size ≤ aE) (a2 (by rw [hg]; exact Nat.ne_of_lt (qAw aA.o) : aC ≠ aE) (a2 (by rw [hg]; exact Nat.ne_of_lt (qAi.lt aL.o) : g ≠ aE) (am (by rw [hg]; exact Nat.ne_of_gt (qAi.lt aL.o) : aE ≠ g)))))))))))); clear aD aH aL aA HK HB; obtain ⟨aD, aH, aL, aA, HK, HB, aB, a6, ad, aF, aO, aU⟩ := n_; clear hb hbox hg; have cN := aF.o; have cJ := aU.o; have cO := aO.o; obtain ⟨az, bA, bB, bC⟩ := c4_ cW aB.o; obtain ⟨bX, bY, bZ, b0⟩ := z4_ aB.o) | ((with_reducible refine qAp (f := 52) rfl ?_); refine gL 17 Try.func52 #[.pointer (some ⟨g, 0, none⟩), .int .i64 16384] ?_; (with_reducible refine (qA2.calls g s0_0 ab ac 16384 ai ak aj w0 _ ?side1 ?side2 A5.o).mono ?_); (case side1 => repeat (with_reducible first | exact aL.o | refine qAi.far ?_ aO.o (by (with_reducible repeat (apply TyB.set)); exact TyB.of aB.o) (by decide) _)); (case side2 => repeat (with_reducible first | exact HB.o | refine qAq ?_ ad.o)); rintro e c0 ⟨cA, rfl, a5, hi, hb, hk⟩; refine ⟨_, rfl, ?_⟩; have n_ := a2 (qAf.blk hk (g' := aC) (o := .cells #[.slice none 0 0, .int .i64 0, .slice none 0 0, .slice none 0 0] 77 (0, 0)) (by refine qAg ?_ aF.o _; refine qAg ?_ aF.o _; refine qAg ?_ aF.o _; refine qAg ?_ aF.o _; exact aA.o) aM.o (by simp)) (a2 (Kd.R_kp (qAi.apart (show qAi w0 _ g s0_0 ab ac from by repeat (with_reducible first | exact aL.o | refine qAi.far ?_ aO.o (by (with_reducible repeat (apply TyB.set)); exact TyB.of aB.o) (by decide) _)) (by exact (Kd.R_mono (Kd.R_far (p := ⟨aE, 3, none⟩) (Kd.R_far (p := ⟨aE, 2, none⟩) (Kd.R_far (p := ⟨aE, 1, none⟩) (Kd.R_far (p := ⟨aE, 0, none⟩) (Kd.R_types aD.o aB.o (by decide)) (fun _ hk => hk.2) (.slice aX aI.length aZ)) (fun _ hk => hk.2) (.int .i64 (wrap64 (aK)))) (fun _ hk => hk.2) (.slice a7 aQ.length a9)) (fun _ hk => hk.2) (.slice none 0 0)) (fun _ h_ => h_.1))) (by decide)) hk) (a2 (Kd.R_kp (qAi.apart (show qAi w0 _ g s0_0 ab ac from by repeat (with_reducible first | exact aL.o | refine qAi.far ?_ aO.o (by (with_reducible repeat (apply TyB.set)); exact TyB.of aB.o) (by decide) _)) (by exact (Kd.R_mono (Kd.R_far (p := ⟨aE, 3, none⟩) (Kd.R_far (p := ⟨aE, 2, none⟩) (Kd.R_far (p := ⟨aE, 1, none⟩) (Kd.R_far (p := ⟨aE, 0, none⟩) (Kd.R_types aH.o aB.o (by decide)) (fun _ hk => hk.2) (.slice aX aI.length aZ)) (fun _ hk => hk.2) (.int .i64 (wrap64 (aK)))) (fun _ hk => hk.2) (.slice a7 aQ.length a9)) (fun _ hk => hk.2) (.slice none 0 0)) (fun _ h_ => h_.1))) (by decide)) hk) (a2 (qAf.blk hk (g' := aE) (o := .cells #[.slice aX aI.length aZ, .int .i64 (wrap64 (aK)), .slice a7 aQ.length a9, .slice none 0 0] 77 (0, 0)) (by refine qAo (cs := #[.slice aX aI.length aZ, .int .i64 (wrap64 (aK)), .slice a7 aQ.length a9, .slice none 0 0]) ?_ 3 _ rfl; refine qAo (cs := #[.slice aX aI.length aZ, .int .i64 (wrap64 (aK)), .slice none 0 0, .slice none 0 0]) ?_ 2 _ rfl; refine qAo (cs := #[.slice aX aI.length aZ, .int .i64 0, .slice none 0 0, .slice none 0 0]) ?_ 1 _ rfl; refine qAo (cs := #[.slice none 0 0, .int .i64 0, .slice none 0 0, .slice none 0 0]) ?_ 0 _ rfl; exact aB.o) aU.o (by simp)) (a2 (Kd.R_lower a5 (qBk (w := w) (g := g) (row := none) (by repeat (with_reducible first | exact HK.o | refine qCt ?_ a6.o _)))) (a2 (qAf.trans (by repeat (with_reducible first | exact HK.o | refine qCt ?_ a6.o _)) hk (.inl rfl)) (a2 (hb) (am (hi)))))))); clear aA aD aH aB HK HB aL; obtain ⟨aA, aD, aH, aB, aT, HK, HB, aL⟩ := n_; obtain ⟨bh, bk, bq⟩ := Kd.R_slice aT.o; subst bq) | ((with_reducible refine qAp (f := 51) rfl ?_); refine gL 18 Try.func51 #[.slice bh ai.length bk] ?_; (with_reducible refine (qAZ.calls _ _ ai aS al _ ?side1 ?side2 A6.o).mono ?_); (case side1 => exact (Kd.R_reads' aT.o).2.2); (case side2 => exact (Kd.R_reads' aT.o).2.1); rintro e cT ⟨cD, rfl, a5, hb⟩; refine ⟨_, rfl, ?_⟩; have n_ := a2 (Kd.R_below aD.o hb) (a2 (Kd.R_below aH.o hb) (a2 (Kd.R_lower a5 (qBk HK.o)) (a2 (qAi.below aL.o hb) (a2 (qAd aA.o hb) (a2 (qAd aB.o hb) (a2 (qAf.trans HK.o (qAf.of_below hb g none) (.inl rfl)) (am (qAj HB.o hb)))))))); clear aD aH aT aL aA aB HK HB; obtain ⟨aD, aH, a4, aL, aA, aB, HK, HB⟩ := n_; obtain ⟨ae, ag, br⟩ := Kd.R_slice a4.o; subst br; obtain ⟨bD, bE, bF, bG⟩ := c4_ cT aB.o; have b1 := qAr aB.o 3; have cK := aM.o; have cP := aV.o; obtain ⟨bH, bI, bJ, bK⟩ := c4_ cT aA.o; obtain ⟨b2, b3, b4, b5⟩ := z4_ aA.o))
  refine bodyPost_ret (results_cell_row rfl _ _ aC 77 #[.slice aX aI.length aZ, .int .i64 (wrap64 (aK)), .slice a7 aQ.length a9, .slice ae aS.length ag] (0, 0) _ rfl (by refine qAo (cs := #[.slice aX aI.length aZ, .int .i64 (wrap64 (aK)), .slice a7 aQ.length a9, .slice none 0 0]) ?_ 3 _ rfl; refine qAo (cs := #[.slice aX aI.length aZ, .int .i64 (wrap64 (aK)), .slice none 0 0, .slice none 0 0]) ?_ 2 _ rfl; refine qAo (cs := #[.slice aX aI.length aZ, .int .i64 0, .slice none 0 0, .slice none 0 0]) ?_ 1 _ rfl; refine qAo (cs := #[.slice none 0 0, .int .i64 0, .slice none 0 0, .slice none 0 0]) ?_ 0 _ rfl; refine qAg ?_ aF.o _; exact aA.o) Try.underlying77 rfl (by kernel_rfl)) rfl ?_
  exact ⟨_, _, _, by rfl, by exact Kd.R_mono (Kd.R_far (p := ⟨aC, 3, none⟩) (Kd.R_far (p := ⟨aC, 2, none⟩) (Kd.R_far (p := ⟨aC, 1, none⟩) (Kd.R_far (p := ⟨aC, 0, none⟩) (Kd.R_far (p := ⟨aE, 3, none⟩) (Kd.R_types (Kd.R_types aD.o aB.o (by decide)) aA.o (by decide)) (fun _ hk => hk.1.2) (.slice ae aS.length ag)) (fun _ hk => hk.2) (.slice aX aI.length aZ)) (fun _ hk => hk.2) (.int .i64 (wrap64 (aK)))) (fun _ hk => hk.2) (.slice a7 aQ.length a9)) (fun _ hk => hk.2) (.slice ae aS.length ag)) (fun _ hk => hk.1.1.2), by exact Kd.R_mono (Kd.R_far (p := ⟨aC, 3, none⟩) (Kd.R_far (p := ⟨aC, 2, none⟩) (Kd.R_far (p := ⟨aC, 1, none⟩) (Kd.R_far (p := ⟨aC, 0, none⟩) (Kd.R_far (p := ⟨aE, 3, none⟩) (Kd.R_types (Kd.R_types aH.o aB.o (by decide)) aA.o (by decide)) (fun _ hk => hk.1.2) (.slice ae aS.length ag)) (fun _ hk => hk.2) (.slice aX aI.length aZ)) (fun _ hk => hk.2) (.int .i64 (wrap64 (aK)))) (fun _ hk => hk.2) (.slice a7 aQ.length a9)) (fun _ hk => hk.2) (.slice ae aS.length ag)) (fun _ hk => hk.1.1.2), by exact Kd.R_mono (Kd.R_far (p := ⟨aC, 3, none⟩) (Kd.R_far (p := ⟨aC, 2, none⟩) (Kd.R_far (p := ⟨aC, 1, none⟩) (Kd.R_far (p := ⟨aC, 0, none⟩) (Kd.R_far (p := ⟨aE, 3, none⟩) (Kd.R_types (Kd.R_types a4.o aB.o (by decide)) aA.o (by decide)) (fun _ hk => hk.1.2) (.slice ae aS.length ag)) (fun _ hk => hk.2) (.slice aX aI.length aZ)) (fun _ hk => hk.2) (.int .i64 (wrap64 (aK)))) (fun _ hk => hk.2) (.slice a7 aQ.length a9)) (fun _ hk => hk.2) (.slice ae aS.length ag)) (fun _ hk => trivial), by repeat (with_reducible first | exact aL.o | refine qAi.far ?_ aV.o (by (with_reducible repeat (apply TyB.set)); exact TyB.of aA.o) (by decide) _ | refine qAi.far ?_ aO.o (by exact TyB.of aB.o) (by decide) _), by repeat (with_reducible first | exact HB.o | refine qAq ?_ an.o | refine qAq ?_ ad.o), by repeat (with_reducible first | exact HK.o | refine qCt ?_ ao.o _ | refine qCt ?_ a6.o _)⟩
 ·rw [if_neg c7] at H
  have bj : (al != 0) = true := bne_iff_ne.mpr c7
  replace H := bm H
  obtain ⟨⟨aw, ax⟩, av, H⟩ := H
  replace H : (some (aI, wrap64 (aK), aQ, aS, aw, ax)) = some (r1, r2, r3, r4, r5, r6) := H
  have cV := am av
  clear av
  simp only [Option.some.injEq, Prod.mk.injEq] at H
  obtain ⟨rfl, rfl, rfl, rfl, rfl, rfl⟩ := H
  go_enter Try.func26, Try.ntmps26
  go_wp2_with (first | ((with_reducible refine qAJ (N := 2) rfl ?_); refine bx 2 #[.slice none 0 0, .int .i64 0, .slice none 0 0, .slice none 0 0] 77 ?_; intro aC hg c1 hbox hb; have n_ := a2 (qAi.below aL.o hb) (a2 (qAf.trans HK.o (qAf.of_below hb g none) (.inl rfl)) (a2 (qAj HB.o hb) (a2 (hbox) (a2 (by rw [hg]; exact (qBk HK.o) : w.heap.size ≤ aC) (a2 (Nat.le_trans ay.o (by rw [hg]; exact (qBk HK.o) : w.heap.size ≤ aC) : w0.heap.size ≤ aC) (a2 (by rw [hg]; exact Nat.ne_of_lt (qAi.lt aL.o) : g ≠ aC) (am (by rw [hg]; exact Nat.ne_of_gt (qAi.lt aL.o) : aC ≠ g)))))))); clear aL HK HB; obtain ⟨aL, HK, HB, aA, ao, an, aV, aM⟩ := n_; clear hb hbox hg) | ((with_reducible refine qAp (f := 76) rfl ?_); refine gL 7 Try.func76 #[.pointer (some ⟨g, 0, none⟩)] ?_; (with_reducible refine (qA1.calls k g s0_0 s0_1 s0_2 aI ap aq w0 _ ?side1 ?side2 A2.o).mono ?_); (case side1 => exact aL.o); (case side2 => exact HB.o); rintro e ca ⟨cB, rfl, a5, hi, hb, hk⟩; refine ⟨_, rfl, ?_⟩; have n_ := a2 (qAf.blk hk aA.o aM.o (by simp)) (a2 (Kd.R_lower a5 (qBk HK.o)) (a2 (qAf.trans HK.o hk (.inl rfl)) (a2 (hb) (am (hi))))); clear aA HK HB aL; obtain ⟨aA, aD, HK, HB, aL⟩ := n_) | ((with_reducible refine qAp (f := 20) rfl ?_); refine gL 9 Try.func20 #[.pointer (some ⟨g, 0, none⟩)] ?_; (with_reducible refine (qAk.calls g s0_0 ap aq aK ar au w0 _ ?side1 ?side2 A3.o).mono ?_); (case side1 => exact aL.o); (case side2 => exact HB.o); rintro e cc ⟨rfl, hi, hb, hk⟩; refine ⟨_, rfl, ?_⟩; have n_ := a2 (qAf.blk hk aA.o aM.o (by simp)) (a2 (Kd.R_kp (qAi.apart aL.o aD.o (by decide)) hk) (a2 (qAf.trans HK.o hk (.inl rfl)) (a2 (hb) (am (hi))))); clear aA aD HK HB aL; obtain ⟨aA, aD, HK, HB, aL⟩ := n_; obtain ⟨aY, a3, bs⟩ := Kd.R_slice aD.o; subst bs) | ((with_reducible refine qAp (f := 76) rfl ?_); refine gL 13 Try.func76 #[.pointer (some ⟨g, 0, none⟩)] ?_; (with_reducible refine (qA1.calls k g s0_0 ar au aQ ab ac w0 _ ?side1 ?side2 A4.o).mono ?_); (case side1 => exact aL.o); (case side2 => exact HB.o); rintro e cd ⟨cC, rfl, a5, hi, hb, hk⟩; refine ⟨_, rfl, ?_⟩; have n_ := a2 (qAf.blk hk aA.o aM.o (by simp)) (a2 (Kd.R_mono (Kd.R_told (Kd.R_oldK (qAi.apart aL.o aD.o (by decide)) hk) (Kd.R_base a5)) (fun _ h_ => h_.1)) (a2 (Kd.R_lower (Kd.R_new' a5 (Kd.R_lt aD.o)) (qBk HK.o)) (a2 (qAf.trans HK.o hk (.inl rfl)) (a2 (hb) (am (hi)))))); clear aA aD HK HB aL; obtain ⟨aA, aD, aH, HK, HB, aL⟩ := n_; obtain ⟨a8, aa, bu⟩ := Kd.R_slice aH.o; subst bu) | ((with_reducible refine qAJ (N := 3) rfl ?_); refine bx 3 #[.slice none 0 0, .int .i64 0, .slice none 0 0, .slice none 0 0] 77 ?_; intro aE hg cX hbox hb; have n_ := a2 (Kd.R_below aD.o hb) (a2 (Kd.R_below aH.o hb) (a2 (qAi.below aL.o hb) (a2 (qAd aA.o hb) (a2 (qAf.trans HK.o (qAf.of_below hb g none) (.inl rfl)) (a2 (qAj HB.o hb) (a2 (hbox) (a2 (by rw [hg]; exact (qBk HK.o) : w.heap.size ≤ aE) (a2 (Nat.le_trans ay.o (by rw [hg]; exact (qBk HK.o) : w.heap.size ≤ aE) : w0.heap.size ≤ aE) (a2 (by rw [hg]; exact Nat.ne_of_lt (qAw aA.o) : aC ≠ aE) (a2 (by rw [hg]; exact Nat.ne_of_lt (qAi.lt aL.o) : g ≠ aE) (am (by rw [hg]; exact Nat.ne_of_gt (qAi.lt aL.o) : aE ≠ g)))))))))))); clear aD aH aL aA HK HB; obtain ⟨aD, aH, aL, aA, HK, HB, aB, a6, ad, aF, aO, aU⟩ := n_; clear hb hbox hg; have cQ := aF.o; have cL := aU.o; have cR := aO.o; obtain ⟨bL, bM, bN, bO⟩ := c4_ cX aB.o; obtain ⟨b6, b7, b8, b9⟩ := z4_ aB.o) | ((with_reducible refine qAp (f := 52) rfl ?_); refine gL 17 Try.func52 #[.pointer (some ⟨g, 0, none⟩), .int .i64 16384] ?_; (with_reducible refine (qA2.calls g s0_0 ab ac 16384 ai ak aj w0 _ ?side1 ?side2 A5.o).mono ?_); (case side1 => repeat (with_reducible first | exact aL.o | refine qAi.far ?_ aO.o (by (with_reducible repeat (apply TyB.set)); exact TyB.of aB.o) (by decide) _)); (case side2 => repeat (with_reducible first | exact HB.o | refine qAq ?_ ad.o)); rintro e ce ⟨cA, rfl, a5, hi, hb, hk⟩; refine ⟨_, rfl, ?_⟩; have n_ := a2 (qAf.blk hk (g' := aC) (o := .cells #[.slice none 0 0, .int .i64 0, .slice none 0 0, .slice none 0 0] 77 (0, 0)) (by refine qAg ?_ aF.o _; refine qAg ?_ aF.o _; refine qAg ?_ aF.o _; refine qAg ?_ aF.o _; exact aA.o) aM.o (by simp)) (a2 (Kd.R_kp (qAi.apart (show qAi w0 _ g s0_0 ab ac from by repeat (with_reducible first | exact aL.o | refine qAi.far ?_ aO.o (by (with_reducible repeat (apply TyB.set)); exact TyB.of aB.o) (by decide) _)) (by exact (Kd.R_mono (Kd.R_far (p := ⟨aE, 3, none⟩) (Kd.R_far (p := ⟨aE, 2, none⟩) (Kd.R_far (p := ⟨aE, 1, none⟩) (Kd.R_far (p := ⟨aE, 0, none⟩) (Kd.R_types aD.o aB.o (by decide)) (fun _ hk => hk.2) (.slice aY aI.length a3)) (fun _ hk => hk.2) (.int .i64 (wrap64 (aK)))) (fun _ hk => hk.2) (.slice a8 aQ.length aa)) (fun _ hk => hk.2) (.slice none 0 0)) (fun _ h_ => h_.1))) (by decide)) hk) (a2 (Kd.R_kp (qAi.apart (show qAi w0 _ g s0_0 ab ac from by repeat (with_reducible first | exact aL.o | refine qAi.far ?_ aO.o (by (with_reducible repeat (apply TyB.set)); exact TyB.of aB.o) (by decide) _)) (by exact (Kd.R_mono (Kd.R_far (p := ⟨aE, 3, none⟩) (Kd.R_far (p := ⟨aE, 2, none⟩) (Kd.R_far (p := ⟨aE, 1, none⟩) (Kd.R_far (p := ⟨aE, 0, none⟩) (Kd.R_types aH.o aB.o (by decide)) (fun _ hk => hk.2) (.slice aY aI.length a3)) (fun _ hk => hk.2) (.int .i64 (wrap64 (aK)))) (fun _ hk => hk.2) (.slice a8 aQ.length aa)) (fun _ hk => hk.2) (.slice none 0 0)) (fun _ h_ => h_.1))) (by decide)) hk) (a2 (qAf.blk hk (g' := aE) (o := .cells #[.slice aY aI.length a3, .int .i64 (wrap64 (aK)), .slice a8 aQ.length aa, .slice none 0 0] 77 (0, 0)) (by refine qAo (cs := #[.slice aY aI.length a3, .int .i64 (wrap64 (aK)), .slice a8 aQ.length aa, .slice none 0 0]) ?_ 3 _ rfl; refine qAo (cs := #[.slice aY aI.length a3, .int .i64 (wrap64 (aK)), .slice none 0 0, .slice none 0 0]) ?_ 2 _ rfl; refine qAo (cs := #[.slice aY aI.length a3, .int .i64 0, .slice none 0 0, .slice none 0 0]) ?_ 1 _ rfl; refine qAo (cs := #[.slice none 0 0, .int .i64 0, .slice none 0 0, .slice none 0 0]) ?_ 0 _ rfl; exact aB.o) aU.o (by simp)) (a2 (Kd.R_lower a5 (qBk (w := w) (g := g) (row := none) (by repeat (with_reducible first | exact HK.o | refine qCt ?_ a6.o _)))) (a2 (qAf.trans (by repeat (with_reducible first | exact HK.o | refine qCt ?_ a6.o _)) hk (.inl rfl)) (a2 (hb) (am (hi)))))))); clear aA aD aH aB HK HB aL; obtain ⟨aA, aD, aH, aB, aT, HK, HB, aL⟩ := n_; obtain ⟨bi, bl, bw⟩ := Kd.R_slice aT.o; subst bw) | ((with_reducible refine qAp (f := 51) rfl ?_); refine gL 18 Try.func51 #[.slice bi ai.length bl] ?_; (with_reducible refine (qAZ.calls _ _ ai aS al _ ?side1 ?side2 A6.o).mono ?_); (case side1 => exact (Kd.R_reads' aT.o).2.2); (case side2 => exact (Kd.R_reads' aT.o).2.1); rintro e cf ⟨cD, rfl, a5, hb⟩; refine ⟨_, rfl, ?_⟩; have n_ := a2 (Kd.R_below aD.o hb) (a2 (Kd.R_below aH.o hb) (a2 (Kd.R_below aT.o hb) (a2 (Kd.R_lower a5 (qBk HK.o)) (a2 (qAi.below aL.o hb) (a2 (qAd aA.o hb) (a2 (qAd aB.o hb) (a2 (qAf.trans HK.o (qAf.of_below hb g none) (.inl rfl)) (am (qAj HB.o hb))))))))); clear aD aH aT aL aA aB HK HB; obtain ⟨aD, aH, aT, a4, aL, aA, aB, HK, HB⟩ := n_) | ((with_reducible refine qAp (f := 21) rfl ?_); refine gL 24 Try.func21 #[.pointer (some ⟨g, 0, none⟩), .int .i64 52] ?_; (with_reducible refine (qAB.calls g s0_0 ak aj 52 aw ax w0 _ ?side1 ?side2 cV.o).mono ?_); (case side1 => exact aL.o); (case side2 => exact HB.o); rintro e cU ⟨rfl, hi, hb, hk⟩; refine ⟨_, rfl, ?_⟩; have n_ := a2 (qAf.blk hk aA.o aM.o (by simp)) (a2 (Kd.R_kp (qAi.apart aL.o aD.o (by decide)) hk) (a2 (Kd.R_kp (qAi.apart aL.o aH.o (by decide)) hk) (a2 (qAf.blk hk aB.o aU.o (by simp)) (a2 (Kd.R_kp (qAi.apart aL.o a4.o (by decide)) hk) (a2 (qAf.trans HK.o hk (.inl rfl)) (a2 (hb) (am (hi)))))))); clear aA aD aH aB aT a4 HK HB aL; obtain ⟨aA, aD, aH, aB, a4, HK, HB, aL⟩ := n_; obtain ⟨af, ah, bz⟩ := Kd.R_slice a4.o; subst bz; obtain ⟨bP, bQ, bR, bS⟩ := c4_ cU aB.o; have ba := qAr aB.o 3; have cM := aM.o; have cS := aV.o; obtain ⟨bT, bU, bV, bW⟩ := c4_ cU aA.o; obtain ⟨bb, bc, bd, bg⟩ := z4_ aA.o))
  refine bodyPost_ret (results_cell_row rfl _ _ aC 77 #[.slice aY aI.length a3, .int .i64 (wrap64 (aK)), .slice a8 aQ.length aa, .slice af aS.length ah] (0, 0) _ rfl (by refine qAo (cs := #[.slice aY aI.length a3, .int .i64 (wrap64 (aK)), .slice a8 aQ.length aa, .slice none 0 0]) ?_ 3 _ rfl; refine qAo (cs := #[.slice aY aI.length a3, .int .i64 (wrap64 (aK)), .slice none 0 0, .slice none 0 0]) ?_ 2 _ rfl; refine qAo (cs := #[.slice aY aI.length a3, .int .i64 0, .slice none 0 0, .slice none 0 0]) ?_ 1 _ rfl; refine qAo (cs := #[.slice none 0 0, .int .i64 0, .slice none 0 0, .slice none 0 0]) ?_ 0 _ rfl; refine qAg ?_ aF.o _; exact aA.o) Try.underlying77 rfl (by kernel_rfl)) rfl ?_
  exact ⟨_, _, _, by rfl, by exact Kd.R_mono (Kd.R_far (p := ⟨aC, 3, none⟩) (Kd.R_far (p := ⟨aC, 2, none⟩) (Kd.R_far (p := ⟨aC, 1, none⟩) (Kd.R_far (p := ⟨aC, 0, none⟩) (Kd.R_far (p := ⟨aE, 3, none⟩) (Kd.R_types (Kd.R_types aD.o aB.o (by decide)) aA.o (by decide)) (fun _ hk => hk.1.2) (.slice af aS.length ah)) (fun _ hk => hk.2) (.slice aY aI.length a3)) (fun _ hk => hk.2) (.int .i64 (wrap64 (aK)))) (fun _ hk => hk.2) (.slice a8 aQ.length aa)) (fun _ hk => hk.2) (.slice af aS.length ah)) (fun _ hk => hk.1.1.2), by exact Kd.R_mono (Kd.R_far (p := ⟨aC, 3, none⟩) (Kd.R_far (p := ⟨aC, 2, none⟩) (Kd.R_far (p := ⟨aC, 1, none⟩) (Kd.R_far (p := ⟨aC, 0, none⟩) (Kd.R_far (p := ⟨aE, 3, none⟩) (Kd.R_types (Kd.R_types aH.o aB.o (by decide)) aA.o (by decide)) (fun _ hk => hk.1.2) (.slice af aS.length ah)) (fun _ hk => hk.2) (.slice aY aI.length a3)) (fun _ hk => hk.2) (.int .i64 (wrap64 (aK)))) (fun _ hk => hk.2) (.slice a8 aQ.length aa)) (fun _ hk => hk.2) (.slice af aS.length ah)) (fun _ hk => hk.1.1.2), by exact Kd.R_mono (Kd.R_far (p := ⟨aC, 3, none⟩) (Kd.R_far (p := ⟨aC, 2, none⟩) (Kd.R_far (p := ⟨aC, 1, none⟩) (Kd.R_far (p := ⟨aC, 0, none⟩) (Kd.R_far (p := ⟨aE, 3, none⟩) (Kd.R_types (Kd.R_types a4.o aB.o (by decide)) aA.o (by decide)) (fun _ hk => hk.1.2) (.slice af aS.length ah)) (fun _ hk => hk.2) (.slice aY aI.length a3)) (fun _ hk => hk.2) (.int .i64 (wrap64 (aK)))) (fun _ hk => hk.2) (.slice a8 aQ.length aa)) (fun _ hk => hk.2) (.slice af aS.length ah)) (fun _ hk => trivial), by repeat (with_reducible first | exact aL.o | refine qAi.far ?_ aV.o (by (with_reducible repeat (apply TyB.set)); exact TyB.of aA.o) (by decide) _ | refine qAi.far ?_ aO.o (by exact TyB.of aB.o) (by decide) _), by repeat (with_reducible first | exact HB.o | refine qAq ?_ an.o | refine qAq ?_ ad.o), by repeat (with_reducible first | exact HK.o | refine qCt ?_ ao.o _ | refine qCt ?_ a6.o _)⟩
def qAN.f (s0_0 : List Int) (s0_1 : Int) (s0_2 : Int) : Option (Int × Int × Int) := (qBc.f s0_0 s0_1 s0_2).bind fun aA => (if aA.1 > 0 then (some (41, aA.2.1, aA.2.2)) else ((qA6.f s0_0 aA.2.1 aA.2.2).bind fun aB => (some (aB.1, aB.2.1, aB.2.2))))
theorem qAN.calls (g : Nat) (s0_0 : List Int) (s0_1 : Int) (s0_2 : Int) (r1 : Int) (r2 : Int) (r3 : Int) (w0 w : World) (hI : qAi w0 w g s0_0 s0_1 s0_2) (hB : Below w0.heap.size w0 w) (h : qAN.f s0_0 s0_1 s0_2 = some (r1, r2, r3)) :
  Calls Try.prog 28 #[.pointer (some ⟨g, 0, none⟩)] w fun e w' => e = .returned (.int .i64 r1) ∧ qAi w0 w' g s0_0 r2 r3 ∧ Below w0.heap.size w0 w' ∧ qAf w w' g none := by
 have aD := am hI
 have HK := am (qAf.refl w g none)
 clear hI
 have HB := am hB
 clear hB
 have H : ((qBc.f s0_0 s0_1 s0_2).bind fun aA => (if aA.1 > 0 then (some (41, aA.2.1, aA.2.2)) else ((qA6.f s0_0 aA.2.1 aA.2.2).bind fun aB => (some (aB.1, aB.2.1, aB.2.2))))) = some (r1, r2, r3) := h
 clear h
 replace H := bm H
 obtain ⟨⟨aC, aE, aF⟩, aK, H⟩ := H
 replace H : (if aC > 0 then (some (41, aE, aF)) else ((qA6.f s0_0 aE aF).bind fun aB => (some (aB.1, aB.2.1, aB.2.2)))) = some (r1, r2, r3) := H
 have A2 := am aK
 clear aK
 by_cases c3 : aC > 0
 ·rw [if_pos c3] at H
  replace c3 := d1 c3
  simp only [Option.some.injEq, Prod.mk.injEq] at H
  obtain ⟨rfl, rfl, rfl⟩ := H
  go_enter Try.func28, Try.ntmps28
  go_wp2_with ((with_reducible refine qAp (f := 78) rfl ?_); refine gL 4 Try.func78 #[.pointer (some ⟨g, 0, none⟩)] ?_; (with_reducible refine (qBc.calls g s0_0 s0_1 s0_2 aC aE aF w0 _ ?side1 ?side2 A2.o).mono ?_); (case side1 => exact aD.o); (case side2 => exact HB.o); rintro e w4 ⟨rfl, hi, hb, hk⟩; refine ⟨_, rfl, ?_⟩; have n_ := a2 (qAf.trans HK.o hk (.inl rfl)) (a2 (hb) (am (hi))); clear HK HB aD; obtain ⟨HK, HB, aD⟩ := n_)
  go_ret
  exact ⟨by rfl, by exact aD.o, by exact HB.o, by exact HK.o⟩
 ·rw [if_neg c3] at H
  replace c3 := d0 c3
  replace H := bm H
  obtain ⟨⟨aG, aH, aI⟩, aL, H⟩ := H
  replace H : (some (aG, aH, aI)) = some (r1, r2, r3) := H
  have A5 := am aL
  clear aL
  simp only [Option.some.injEq, Prod.mk.injEq] at H
  obtain ⟨rfl, rfl, rfl⟩ := H
  go_enter Try.func28, Try.ntmps28
  go_wp2_with (first | ((with_reducible refine qAp (f := 78) rfl ?_); refine gL 4 Try.func78 #[.pointer (some ⟨g, 0, none⟩)] ?_; (with_reducible refine (qBc.calls g s0_0 s0_1 s0_2 aC aE aF w0 _ ?side1 ?side2 A2.o).mono ?_); (case side1 => exact aD.o); (case side2 => exact HB.o); rintro e w6 ⟨rfl, hi, hb, hk⟩; refine ⟨_, rfl, ?_⟩; have n_ := a2 (qAf.trans HK.o hk (.inl rfl)) (a2 (hb) (am (hi))); clear HK HB aD; obtain ⟨HK, HB, aD⟩ := n_) | ((with_reducible refine qAp (f := 24) rfl ?_); refine gL 7 Try.func24 #[.pointer (some ⟨g, 0, none⟩)] ?_; (with_reducible refine (qA6.calls g s0_0 aE aF aG aH aI w0 _ ?side1 ?side2 A5.o).mono ?_); (case side1 => exact aD.o); (case side2 => exact HB.o); rintro e w7 ⟨rfl, hi, hb, hk⟩; refine ⟨_, rfl, ?_⟩; have n_ := a2 (qAf.trans HK.o hk (.inl rfl)) (a2 (hb) (am (hi))); clear HK HB aD; obtain ⟨HK, HB, aD⟩ := n_))
  go_ret
  exact ⟨by rfl, by exact aD.o, by exact HB.o, by exact HK.o⟩
def qAu.l0 : Nat → List Int → List Int → Int → Int → Option (Bool)
 | 0, _, _, _, _ => none
 | k + 1, x0, x1, aU, aJ => if aJ < aU then (if 0 ≤ aJ then (if aJ < (x0.length : Int) then (if aJ < (x1.length : Int) then (if (rd x0 aJ) = (rd x1 aJ) then (qAu.l0 k x0 x1 aU (wrap64 (aJ + 1))) else (some false)) else (none)) else (none)) else (none)) else (some true)
def qAu.f (k : Nat) (l0 : List Int) (l1 : List Int) : Option (Bool) := if (l0.length : Int) = (l1.length : Int) then (qAu.l0 k l0 l1 (l0.length : Int) 0) else (some false)
theorem qAu.calls (k : Nat) (A0 : Option Addr) (c0 : Nat) (l0 : List Int) (A1 : Option Addr) (c1 : Nat) (l1 : List Int) (r : Bool) (w : World) (hr0 : Kd.C (Kd.int .u8) w A0 l0.length l0) (hc0 : l0.length ≤ c0) (hr1 : Kd.C (Kd.int .u8) w A1 l1.length l1) (hc1 : l1.length ≤ c1) (h : qAu.f k l0 l1 = some r) :
  Calls Try.prog 29 #[.slice A0 l0.length c0, .slice A1 l1.length c1] w fun e w' => e = .returned (.bool r) ∧ qAD w w' := by
 have aS := am hr0
 clear hr0 hc0
 have aT := am hr1
 clear hr1 hc1
 have H : (if (l0.length : Int) = (l1.length : Int) then (qAu.l0 k l0 l1 (l0.length : Int) 0) else (some false)) = some r := h
 clear h
 by_cases c3 : (l0.length : Int) = (l1.length : Int)
 ·rw [if_pos c3] at H
  have aN : ((l0.length : Int) == (l1.length : Int)) = true := beq_iff_eq.mpr c3
  have aM : ((l0.length : Int) != (l1.length : Int)) = false := bn c3
  have aO : (l0.length == l1.length) = true := by (simp at c3 ⊢; omega)
  clear c3
  have H' := am H
  clear H
  go_enter Try.func29, Try.ntmps29
  go_wp2
  repeat (go_quiet (fail))
  go_loopg [13] k (fun kq aY w' => ∃ (aA : Int), aY = .int .i64 aA ∧ qAa (qAu.l0 kq l0 l1 (l0.length : Int) aA = some r) ∧ qAa (kq ≤ k) ∧ qAD w w')
  case atStart => exact ⟨(0), (by rfl), H', ⟨Nat.le_refl _⟩, by exact qAD.refl _⟩
  case round =>
   clear H'
   obtain ⟨aA, rfl, HA, aR, ⟨m1, rfl⟩⟩ := hrel
   cases gk with
   | zero => exact absurd HA.o (by simp [qAu.l0])
   | succ k1 =>
    have H := HA.o
    clear HA
    simp only [qAu.l0] at H
    by_cases c4 : aA < (l0.length : Int)
    rotate_left
    ·rw [if_neg c4] at H
     replace c4 := d0 c4
     obtain rfl := Option.some.inj H
     go_wp2
     repeat (go_quiet (fail))
     go_ret
     exact ⟨by rfl, by repeat (first | exact qAD.refl _ | apply qAD.step)⟩
    rw [if_pos c4] at H
    replace c4 := d1 c4
    obtain ⟨c5, H⟩ := gd H
    replace c5 := d1 c5
    obtain ⟨c6, H⟩ := gd H
    replace c6 := d1 c6
    obtain ⟨c7, H⟩ := gd H
    replace c7 := d1 c7
    by_cases c8 : (rd l0 aA) = (rd l1 aA)
    rotate_left
    ·rw [if_neg c8] at H
     have aQ : ((rd l0 aA) != (rd l1 aA)) = true := bne_iff_ne.mpr c8
     obtain rfl := Option.some.inj H
     have aB : 0 ≤ aA := od (by assumption)
     have aC : aA < (l0.length : Int) := od (by assumption)
     obtain ⟨aK, aG, aE⟩ := Kd.at_int aS.o aA aB aC
     cases aG
     replace aB := eq_true aB
     replace aC := eq_true aC
     have aI : 0 ≤ aA := od (by assumption)
     have aD : aA < (l1.length : Int) := od (by assumption)
     obtain ⟨aL, aH, aF⟩ := Kd.at_int aT.o aA aI aD
     cases aH
     replace aD := eq_true aD
     go_wp2
     repeat (go_quiet (fail); try go_wp2)
     go_ret
     exact ⟨by rfl, by repeat (first | exact qAD.refl _ | apply qAD.step)⟩
    rw [if_pos c8] at H
    have aQ : ((rd l0 aA) != (rd l1 aA)) = false := bn c8
    clear c8
    have H' := am H
    clear H
    have aB : 0 ≤ aA := od (by assumption)
    have aC : aA < (l0.length : Int) := od (by assumption)
    obtain ⟨aK, aG, aE⟩ := Kd.at_int aS.o aA aB aC
    cases aG
    replace aB := eq_true aB
    replace aC := eq_true aC
    have aI : 0 ≤ aA := od (by assumption)
    have aD : aA < (l1.length : Int) := od (by assumption)
    obtain ⟨aL, aH, aF⟩ := Kd.at_int aT.o aA aI aD
    cases aH
    replace aD := eq_true aD
    go_wp2
    repeat (go_quiet (fail); try go_wp2)
    go_roundg k1
    case measure => have := aR.o; omega
    case rel => exact ⟨(wrap64 (aA + 1)), (by rfl), H', ⟨by have := aR.o; omega⟩, by repeat (first | exact qAD.refl _ | apply qAD.step)⟩
 ·rw [if_neg c3] at H
  have aM : ((l0.length : Int) != (l1.length : Int)) = true := bne_iff_ne.mpr c3
  obtain rfl := Option.some.inj H
  go_enter Try.func29, Try.ntmps29
  go_wp2
  repeat (go_quiet (fail))
  go_ret
  exact ⟨by rfl, by exact qAD.refl _⟩
mutual
def qAc.l0 : Nat → List Int → List Int → Int → Int → List Int → Int → Int → Option (ByteArray × (List (S71)) × (List (S80)) × (List (S82)) × Int)
 | 0, _, _, _, _, _, _, _ => none
 | k + 1, x0, fu, g3, dn, aM, aZ, a1 => if dn < g3 then (if 0 ≤ dn then (if dn < (fu.length : Int) then ((qAk.f aM aZ a1).bind fun b3 => (if b3.1 = (rd fu dn) then (qAc.l0 k x0 fu g3 (wrap64 (dn + 1)) aM b3.2.1 b3.2.2) else ((qAB.f aM b3.2.1 b3.2.2 52).bind fun b4 => (qAc.l0 k x0 fu g3 (wrap64 (dn + 1)) aM b4.1 b4.2)))) else (none)) else (none)) else ((qAx.f aM aZ a1 32).bind fun cM => ((qAF.f aM cM.2.1 cM.2.2).bind fun bK => (qAc.l1 k x0 bK.1 aM bK.2.1 bK.2.2 cM.1 ([] : List (S71)))))
def qAc.l1 : Nat → List Int → Int → List Int → Int → Int → ByteArray → List (S71) → Option (ByteArray × (List (S71)) × (List (S80)) × (List (S82)) × Int)
 | 0, _, _, _, _, _, _, _ => none
 | k + 1, x0, x8, aM, aZ, a1, a4, a3 => if x8 > 0 then ((qA6.f aM aZ a1).bind fun cN => (qAc.j2 k x0 x8 (cN.1 == 0) aM cN.2.1 cN.2.2 a4 a3)) else (qAc.j2 k x0 x8 false aM aZ a1 a4 a3)
def qAc.j2 : Nat → List Int → Int → Bool → List Int → Int → Int → ByteArray → List (S71) → Option (ByteArray × (List (S71)) × (List (S80)) × (List (S82)) × Int)
 | 0, _, _, _, _, _, _, _, _ => none
 | k + 1, x0, x8, hJ, aM, aZ, a1, a4, a3 => if hJ = true then ((qAx.f aM aZ a1 32).bind fun bL => ((qAk.f aM bL.2.1 bL.2.2).bind fun bA => ((qAO.f aM bA.2.1 bA.2.2).bind fun ao => (if a3.length < 4398046511104 then (qAc.l1 k x0 (wrap64 (x8 - 1)) aM ao.2.1 ao.2.2 a4 (a3 ++ [(⟨bL.1, (⟨wrap64 (bA.1), ao.1⟩ : S69)⟩ : S71)])) else (none))))) else ((qAF.f aM aZ a1).bind fun bM => (qAc.l2 k x0 bM.1 aM bM.2.1 bM.2.2 a4 a3 ([] : List (S80))))
def qAc.l2 : Nat → List Int → Int → List Int → Int → Int → ByteArray → List (S71) → List (S80) → Option (ByteArray × (List (S71)) × (List (S80)) × (List (S82)) × Int)
 | 0, _, _, _, _, _, _, _, _ => none
 | k + 1, x0, x9, aM, aZ, a1, a4, a3, a9 => if x9 > 0 then ((qA6.f aM aZ a1).bind fun cO => (qAc.j4 k x0 x9 (cO.1 == 0) aM cO.2.1 cO.2.2 a4 a3 a9)) else (qAc.j4 k x0 x9 false aM aZ a1 a4 a3 a9)
def qAc.j4 : Nat → List Int → Int → Bool → List Int → Int → Int → ByteArray → List (S71) → List (S80) → Option (ByteArray × (List (S71)) × (List (S80)) × (List (S82)) × Int)
 | 0, _, _, _, _, _, _, _, _, _ => none
 | k + 1, x0, x9, hL, aM, aZ, a1, a4, a3, a9 => if hL = true then ((qAx.f aM aZ a1 32).bind fun bN => ((qBl.f k aM bN.2.1 bN.2.2).bind fun ag => (if a9.length < 1466015503701 then (qAc.l2 k x0 (wrap64 (x9 - 1)) aM ag.2.2.2.2.1 ag.2.2.2.2.2 a4 a3 (a9 ++ [(⟨bN.1, (⟨(⟨ag.1, ag.2.1⟩ : S74), ag.2.2.1, ag.2.2.2.1⟩ : S77)⟩ : S80)])) else (none)))) else ((qAF.f aM aZ a1).bind fun bO => (qAc.l3 k x0 bO.1 aM bO.2.1 bO.2.2 a4 a3 a9 ([] : List (S82))))
def qAc.l3 : Nat → List Int → Int → List Int → Int → Int → ByteArray → List (S71) → List (S80) → List (S82) → Option (ByteArray × (List (S71)) × (List (S80)) × (List (S82)) × Int)
 | 0, _, _, _, _, _, _, _, _, _ => none
 | k + 1, x0, fd, aM, aZ, a1, a4, a3, a9, ay => if fd > 0 then ((qA6.f aM aZ a1).bind fun cP => (qAc.j6 k x0 fd (cP.1 == 0) aM cP.2.1 cP.2.2 a4 a3 a9 ay)) else (qAc.j6 k x0 fd false aM aZ a1 a4 a3 a9 ay)
def qAc.j6 : Nat → List Int → Int → Bool → List Int → Int → Int → ByteArray → List (S71) → List (S80) → List (S82) → Option (ByteArray × (List (S71)) × (List (S80)) × (List (S82)) × Int)
 | 0, _, _, _, _, _, _, _, _, _, _ => none
 | k + 1, x0, fd, hM, aM, aZ, a1, a4, a3, a9, ay => if hM = true then ((qAG.f aM aZ a1).bind fun bP => ((qAG.f aM bP.2.1 bP.2.2).bind fun bB => ((qAk.f aM bB.2.1 bB.2.2).bind fun ap => ((qAx.f aM ap.2.1 ap.2.2 32).bind fun ah => ((qAx.f aM ah.2.1 ah.2.2 32).bind fun a8 => (if ay.length < 2513169434916 then (qAc.l3 k x0 (wrap64 (fd - 1)) aM a8.2.1 a8.2.2 a4 a3 a9 (ay ++ [(⟨bP.1, bB.1, wrap64 (ap.1), ah.1, a8.1⟩ : S82)])) else (none))))))) else ((qAN.f aM aZ a1).bind fun cQ => (if cQ.1 = 0 then ((qA9.f a4 a3 a9 ay).bind fun bG => (if bG.2 = 0 then ((qAu.f k x0 bG.1).bind fun bT => (if bT = true then (some (a4, a3, a9, ay, 0)) else (some ((⟨#[]⟩ : ByteArray), ([] : List (S71)), ([] : List (S80)), ([] : List (S82)), 52)))) else (some ((⟨#[]⟩ : ByteArray), ([] : List (S71)), ([] : List (S80)), ([] : List (S82)), 52)))) else (some ((⟨#[]⟩ : ByteArray), ([] : List (S71)), ([] : List (S80)), ([] : List (S82)), 52))))
end
def qAc.f (k : Nat) (l0 : List Int) : Option (ByteArray × (List (S71)) × (List (S80)) × (List (S82)) × Int) := if (l0.length : Int) > 16384 then (some ((⟨#[]⟩ : ByteArray), ([] : List (S71)), ([] : List (S80)), ([] : List (S82)), 3)) else ((qCm.f l0).bind fun bJ => ((some (([102, 111, 98, 106] : List Int) : List Int)).bind fun aa => (qAc.l0 k l0 aa (aa.length : Int) 0 bJ.1 bJ.2.1 bJ.2.2)))
def qAc.T14 : Bool × List (List Nat × List Nat) := (true, [([], []), ([0], [0]), ([], []), ([2], [2]), ([], []), ([4, 3], [4]), ([5], [5]), ([], []), ([7, 5], [7]), ([6, 8], [6, 8]), ([3, 9], [3, 9]), ([10], [10]), ([1, 11, 8], [1, 11]), ([0, 1, 2, 3, 4, 5, 6, 7, 8, 9, 10, 11, 12], []), ([13, 12, 12, 0, 1, 2, 3, 4, 5, 6, 7, 8, 9, 10, 11, 12], [12, 13])])
def qAc.B14 : List Nat := [0, 1, 0, 4, 0, 28, 60, 0, 188, 508, 1020, 2044, 4095, 8191, 16383]
theorem qAc.tab14 : rtab .any (opsOf Try.f7 14) = qAc.T14 := by kernel_rfl
theorem qAc.bits14 : qBQ qAc.T14.2 qAc.B14 = true := by kernel_rfl
def qAc.T18 : Bool × List (List Nat × List Nat) := (true, [([], []), ([0], [0]), ([], []), ([2], [2]), ([], []), ([4, 3], [4]), ([3, 5], [3, 5]), ([6], [6]), ([1, 7, 5], [1, 7]), ([0, 1, 2, 3, 4, 5, 6, 7, 8], []), ([9, 8, 8, 0, 1, 2, 3, 4, 5, 6, 7, 8], [8, 9])])
def qAc.B18 : List Nat := [0, 1, 0, 4, 0, 28, 60, 124, 255, 511, 1023]
theorem qAc.tab18 : rtab .any (opsOf Try.f7 18) = qAc.T18 := by kernel_rfl
theorem qAc.bits18 : qBQ qAc.T18.2 qAc.B18 = true := by kernel_rfl
def qAc.T22 : Bool × List (List Nat × List Nat) := (true, [([], []), ([0], [0]), ([], []), ([2], [2]), ([], []), ([4, 3], [4]), ([], []), ([6, 5], [6]), ([7], [7]), ([], []), ([9, 7], [9]), ([], []), ([11, 10], [11]), ([3, 5, 8, 10, 12], [3, 5, 8, 10, 12]), ([13], [13]), ([1, 14, 12], [1, 14]), ([0, 1, 2, 3, 4, 5, 6, 7, 8, 9, 10, 11, 12, 13, 14, 15], []), ([16, 15, 15, 0, 1, 2, 3, 4, 5, 6, 7, 8, 9, 10, 11, 12, 13, 14, 15], [15, 16])])
def qAc.B22 : List Nat := [0, 1, 0, 4, 0, 28, 0, 124, 252, 0, 764, 0, 3836, 8188, 16380, 32767, 65535, 131071]
theorem qAc.tab22 : rtab .any (opsOf Try.f7 22) = qAc.T22 := by kernel_rfl
theorem qAc.bits22 : qBQ qAc.T22.2 qAc.B22 = true := by kernel_rfl
theorem qAc.calls (k : Nat) (A0 : Option Addr) (c0 : Nat) (l0 : List Int) (r1 : ByteArray) (r2 : List (S71)) (r3 : List (S80)) (r4 : List (S82)) (r5 : Int) (w : World) (hr0 : Kd.C (Kd.int .u8) w A0 l0.length l0) (hc0 : l0.length ≤ c0) (h : qAc.f k l0 = some (r1, r2, r3, r4, r5)) :
  Calls Try.prog 7 #[.slice A0 l0.length c0] w fun e w' => ∃ v1_ v2_ v3_ : Value, e = .returned (.tuple #[.agg #[.string r1, v1_, v2_, v3_], .int .i64 r5]) ∧ Kd.R k71 71 w' w.heap.size (fun _ => True) v1_ r2 ∧ Kd.S k80 80 w' w.heap.size (fun _ => True) v2_ r3 ∧ Kd.R k82 82 w' w.heap.size (fun _ => True) v3_ r4 ∧ Below w.heap.size w w' := by
 have fz := am hr0
 have fy := am hc0
 clear hr0 hc0
 have HB := am (Below.refl w.heap.size w)
 have H : (if (l0.length : Int) > 16384 then (some ((⟨#[]⟩ : ByteArray), ([] : List (S71)), ([] : List (S80)), ([] : List (S82)), 3)) else ((qCm.f l0).bind fun bJ => ((some (([102, 111, 98, 106] : List Int) : List Int)).bind fun aa => (qAc.l0 k l0 aa (aa.length : Int) 0 bJ.1 bJ.2.1 bJ.2.2)))) = some (r1, r2, r3, r4, r5) := h
 clear h
 by_cases c2 : (l0.length : Int) > 16384
 ·rw [if_pos c2] at H
  have e6 := d1 c2
  clear c2
  simp only [Option.some.injEq, Prod.mk.injEq] at H
  obtain ⟨rfl, rfl, rfl, rfl, rfl⟩ := H
  go_enter Try.func7, Try.ntmps7
  go_wp2_with ((with_reducible refine qAJ (N := 2) rfl ?_); refine bx 2 #[.string ⟨#[]⟩, .slice none 0 0, .slice none 0 0, .slice none 0 0] 27 ?_; intro aX hg w3 hbox hb; have n_ := a2 (qAj HB.o hb) (a2 (hbox) (am (by rw [hg]; exact (qAe HB.o) : w.heap.size ≤ aX))); clear HB; obtain ⟨HB, aE, bV⟩ := n_; clear hb hbox hg; obtain ⟨gP, gQ, gR, gS⟩ := c4_ w3 aE.o; obtain ⟨gT, gU, gV, gW⟩ := z4_ aE.o)
  refine bodyPost_ret (qC7 rfl _ _ aX 27 #[.string ⟨#[]⟩, .slice none 0 0, .slice none 0 0, .slice none 0 0] (0, 0) _ rfl (by refine qAo (cs := #[.string ⟨#[]⟩, .slice none 0 0, .slice none 0 0, .slice none 0 0]) ?_ 3 _ rfl; refine qAo (cs := #[.string ⟨#[]⟩, .slice none 0 0, .slice none 0 0, .slice none 0 0]) ?_ 2 _ rfl; refine qAo (cs := #[.string ⟨#[]⟩, .slice none 0 0, .slice none 0 0, .slice none 0 0]) ?_ 1 _ rfl; refine qAo (cs := #[.string ⟨#[]⟩, .slice none 0 0, .slice none 0 0, .slice none 0 0]) ?_ 0 _ rfl; exact aE.o) Try.underlying27 rfl (by kernel_rfl)) rfl ?_
  exact ⟨_, _, _, by rfl, by (exact Kd.R_nil _ _ _ _ _), by (exact Kd.S_nil _ _ _ _ _), by (exact Kd.R_nil _ _ _ _ _), by repeat (with_reducible first | exact HB.o | refine qAq ?_ bV.o)⟩
 ·rw [if_neg c2] at H
  have e6 := d0 c2
  have gA : decide (16384 < l0.length) = false := decide_eq_false (by omega)
  clear c2
  replace H := bm H
  obtain ⟨⟨aN, cn, co⟩, g5, H⟩ := H
  replace H : ((some (([102, 111, 98, 106] : List Int) : List Int)).bind fun aa => (qAc.l0 k l0 aa (aa.length : Int) 0 aN cn co)) = some (r1, r2, r3, r4, r5) := H
  have A5 := am g5
  clear g5
  obtain ⟨aa, cV⟩ : ∃ y_ : List Int, y_ = ([102, 111, 98, 106] : List Int) := ⟨_, rfl⟩
  replace H : (qAc.l0 k l0 aa (aa.length : Int) 0 aN cn co) = some (r1, r2, r3, r4, r5) := by (have H2_ := (Option.bind_some _ _).symm.trans H; rw [cV]; with_reducible exact H2_)
  have cz := am cV
  clear cV
  have H' := am H
  clear H
  go_enter Try.func7, Try.ntmps7
  go_wp2_with (first | ((with_reducible refine qAJ (N := 2) rfl ?_); refine bx 2 #[.string ⟨#[]⟩, .slice none 0 0, .slice none 0 0, .slice none 0 0] 27 ?_; intro aX hg w6 hbox hb; have n_ := a2 (qAj HB.o hb) (a2 (hbox) (am (by rw [hg]; exact (qAe HB.o) : w.heap.size ≤ aX))); clear HB; obtain ⟨HB, aE, bV⟩ := n_; clear hb hbox hg) | ((with_reducible refine qAp (f := 19) rfl ?_); refine gL 18 Try.func19 #[.slice A0 l0.length c0] ?_; (with_reducible refine (qCm.calls _ _ l0 aN cn co w _ ?side1 ?side2 ?side3 A5.o).mono ?_); (case side1 => exact HB.o); (case side2 => exact fz.o); (case side3 => exact fy.o); rintro e w7 ⟨aW, rfl, hi, hb, hb2⟩; refine ⟨_, rfl, ?_⟩; have n_ := a2 (qAd aE.o hb2) (a2 (hb) (a2 (hi) (am (Ne.symm (qAi.ne_blk hi (qAd aE.o hb2) (by decide)))))); clear aE HB; obtain ⟨aE, HB, aD, aQ⟩ := n_) | ((with_reducible refine qAJ (N := 19) rfl ?_); refine Kd.R_lit (Kd.int .u8) _ 5 ?hg (N := 19) ?hd (xs := ([102, 111, 98, 106] : List Int)) (inner := [.int .u8 102, .int .u8 111, .int .u8 98, .int .u8 106]) (ok := fun _ => True) (okp := fun _ => True) ?hr ?hp (fun _ hk => hk) trivial (Below.refl _ _) (Nat.le_refl _) (by simp) ?_; (case hd => rfl); (case hg => rfl); (case hr => (go_simp; done)); (case hp => exact (Reps.one (show Kd.M (Kd.int .u8) _ _ _ 102 [.int .u8 102] from rfl) (Reps.one (show Kd.M (Kd.int .u8) _ _ _ 111 [.int .u8 111] from rfl) (Reps.one (show Kd.M (Kd.int .u8) _ _ _ 98 [.int .u8 98] from rfl) (Reps.one (show Kd.M (Kd.int .u8) _ _ _ 106 [.int .u8 106] from rfl) (Reps.none _ _)))))); intro gw w8 ft hb hg_ hnew_; clear hg_ hnew_; (rw [← cz.o] at ft); obtain ⟨fw, gB, gD⟩ := Kd.R_slice ft; subst gD; have g7 := am ft; have HB9 := am hb; clear hb ft) | ((with_reducible refine qAJ (N := 20) rfl ?_); refine mark_event rfl (.tmp 19) 22 5 rfl Try.underlying22 Try.underlying5 rfl g7.o HB9.o (by rw [cz.o]; decide) ?_; intro wm9 hmk hb; have n_ := a2 hmk (a2 (qAd aE.o hb) (a2 (qAi.below aD.o hb) (am (qAj HB.o hb)))); clear aE aD HB; obtain ⟨eV, aE, aD, HB⟩ := n_; clear hb hmk; clear g7 HB9))
  go_loopg [22] k (fun kq gx w' => ∃ (a7 : Int) (al : Int) (an : Int), gx = .int .i64 a7 ∧ qAa (qAc.l0 kq l0 aa (aa.length : Int) a7 aN al an = some (r1, r2, r3, r4, r5)) ∧ qAa (kq ≤ k) ∧ qAa (MkR 5 w' (.slice fw aa.length gB) aa) ∧ qAa (w'.heap[aX]? = some (.cells #[.string ⟨#[]⟩, (.slice none 0 0), (.slice none 0 0), (.slice none 0 0)] 27 (0, 0))) ∧ qAa (qAi w w' aW aN al an) ∧ qAa (Below w.heap.size w w'))
  case atStart => exact ⟨(0), (cn), (co), (by rfl), H', ⟨Nat.le_refl _⟩, ⟨by exact eV.o⟩, ⟨by exact aE.o⟩, ⟨by exact aD.o⟩, ⟨by exact HB.o⟩⟩
  case round =>
   clear H'
   obtain ⟨a7, al, an, rfl, HA, b9, af, aE, aD, HB⟩ := hrel
   cases gk with
   | zero => exact absurd HA.o (by simp [qAc.l0])
   | succ k1 =>
    have H := HA.o
    clear HA
    simp only [qAc.l0] at H
    by_cases dj : a7 < (aa.length : Int)
    ·rw [if_pos dj] at H
     replace dj := d1 dj
     obtain ⟨fg, H⟩ := gd H
     replace fg := d1 fg
     obtain ⟨fh, H⟩ := gd H
     replace fh := d1 fh
     replace H := bm H
     obtain ⟨⟨cA, cB, cC⟩, dp, H⟩ := H
     replace H : (if cA = (rd aa a7) then (qAc.l0 k1 l0 aa (aa.length : Int) (wrap64 (a7 + 1)) aN cB cC) else ((qAB.f aN cB cC 52).bind fun b4 => (qAc.l0 k1 l0 aa (aa.length : Int) (wrap64 (a7 + 1)) aN b4.1 b4.2))) = some (r1, r2, r3, r4, r5) := H
     have g4 := am dp
     clear dp
     by_cases e3 : cA = (rd aa a7)
     ·rw [if_pos e3] at H
      have e4 : (cA != (rd aa a7)) = false := bn e3
      clear e3
      have H' := am H
      clear H
      have bc : 0 ≤ a7 := od (by assumption)
      have bd : a7 < (aa.length : Int) := od (by assumption)
      obtain ⟨e2, dG, ck⟩ := MkR.at_int af.o a7 bc bd
      cases dG
      replace bc := eq_true bc
      replace bd := eq_true bd
      go_wp2_with ((with_reducible refine qAp (f := 20) rfl ?_); refine gL 27 Try.func20 #[.pointer (some ⟨aW, 0, none⟩)] ?_; (with_reducible refine (qAk.calls aW aN al an cA cB cC w _ ?side1 ?side2 g4.o).mono ?_); (case side1 => exact aD.o); (case side2 => exact HB.o); rintro e hN ⟨rfl, hi, hb, hk⟩; refine ⟨_, rfl, ?_⟩; have n_ := a2 (MkR.keepS af.o hk aD.o (by decide)) (a2 (qAf.blk hk aE.o aQ.o (by simp)) (a2 (hb) (am (hi)))); clear af aE HB aD; obtain ⟨af, aE, HB, aD⟩ := n_)
      go_roundg k1
      case measure => have := b9.o; omega
      case rel => exact ⟨(wrap64 (a7 + 1)), (cB), (cC), (by rfl), H', ⟨by have := b9.o; omega⟩, ⟨by exact af.o⟩, ⟨by exact aE.o⟩, ⟨by exact aD.o⟩, ⟨by exact HB.o⟩⟩
     rw [if_neg e3] at H
     have e4 : (cA != (rd aa a7)) = true := bne_iff_ne.mpr e3
     replace H := bm H
     obtain ⟨⟨dQ, dR⟩, dq, H⟩ := H
     replace H : (qAc.l0 k1 l0 aa (aa.length : Int) (wrap64 (a7 + 1)) aN dQ dR) = some (r1, r2, r3, r4, r5) := H
     have ga := am dq
     clear dq
     have H' := am H
     clear H
     have bc : 0 ≤ a7 := od (by assumption)
     have bd : a7 < (aa.length : Int) := od (by assumption)
     obtain ⟨e2, dG, ck⟩ := MkR.at_int af.o a7 bc bd
     cases dG
     replace bc := eq_true bc
     replace bd := eq_true bd
     go_wp2_with (first | ((with_reducible refine qAp (f := 20) rfl ?_); refine gL 27 Try.func20 #[.pointer (some ⟨aW, 0, none⟩)] ?_; (with_reducible refine (qAk.calls aW aN al an cA cB cC w _ ?side1 ?side2 g4.o).mono ?_); (case side1 => exact aD.o); (case side2 => exact HB.o); rintro e hO ⟨rfl, hi, hb, hk⟩; refine ⟨_, rfl, ?_⟩; have n_ := a2 (MkR.keepS af.o hk aD.o (by decide)) (a2 (qAf.blk hk aE.o aQ.o (by simp)) (a2 (hb) (am (hi)))); clear af aE HB aD; obtain ⟨af, aE, HB, aD⟩ := n_) | ((with_reducible refine qAp (f := 21) rfl ?_); refine gL 31 Try.func21 #[.pointer (some ⟨aW, 0, none⟩), .int .i64 52] ?_; (with_reducible refine (qAB.calls aW aN cB cC 52 dQ dR w _ ?side1 ?side2 ga.o).mono ?_); (case side1 => exact aD.o); (case side2 => exact HB.o); rintro e hP ⟨rfl, hi, hb, hk⟩; refine ⟨_, rfl, ?_⟩; have n_ := a2 (MkR.keepS af.o hk aD.o (by decide)) (a2 (qAf.blk hk aE.o aQ.o (by simp)) (a2 (hb) (am (hi)))); clear af aE HB aD; obtain ⟨af, aE, HB, aD⟩ := n_))
     go_roundg k1
     case measure => have := b9.o; omega
     case rel => exact ⟨(wrap64 (a7 + 1)), (dQ), (dR), (by rfl), H', ⟨by have := b9.o; omega⟩, ⟨by exact af.o⟩, ⟨by exact aE.o⟩, ⟨by exact aD.o⟩, ⟨by exact HB.o⟩⟩
    rw [if_neg dj] at H
    replace dj := d0 dj
    replace H := bm H
    obtain ⟨⟨aR, dS, dT⟩, dr, H⟩ := H
    replace H : ((qAF.f aN dS dT).bind fun bK => (qAc.l1 k1 l0 bK.1 aN bK.2.1 bK.2.2 aR ([] : List (S71)))) = some (r1, r2, r3, r4, r5) := H
    have gb := am dr
    clear dr
    replace H := bm H
    obtain ⟨⟨dU, dV, dW⟩, dt, H⟩ := H
    replace H : (qAc.l1 k1 l0 dU aN dV dW aR ([] : List (S71))) = some (r1, r2, r3, r4, r5) := H
    have gc := am dt
    clear dt
    have H' := am H
    clear H
    go_wp2_with (first | ((with_reducible refine qAp (f := 22) rfl ?_); refine gL 34 Try.func22 #[.pointer (some ⟨aW, 0, none⟩), .int .i64 32] ?_; (with_reducible refine (qAx.calls aW aN al an 32 aR dS dT w _ ?side1 ?side2 gb.o).mono ?_); (case side1 => exact aD.o); (case side2 => exact HB.o); rintro e hQ ⟨rfl, hi, hb, hk⟩; refine ⟨_, rfl, ?_⟩; have n_ := a2 (MkR.keepS af.o hk aD.o (by decide)) (a2 (qAf.blk hk aE.o aQ.o (by simp)) (a2 (hb) (am (hi)))); clear af aE HB aD; obtain ⟨af, aE, HB, aD⟩ := n_) | ((with_reducible refine qAJ (N := 7) rfl ?_); refine bx 7 #[.string ⟨#[]⟩, .slice none 0 0, .slice none 0 0, .slice none 0 0] 27 ?_; intro aY hg hH hbox hb; have n_ := a2 (MkR.below af.o hb) (a2 (qAd aE.o hb) (a2 (qAi.below aD.o hb) (a2 (qAj HB.o hb) (a2 (hbox) (a2 (by rw [hg]; exact (qAe HB.o) : w.heap.size ≤ aY) (a2 (by rw [hg]; exact Nat.ne_of_lt (qAw aE.o) : aX ≠ aY) (a2 (by rw [hg]; exact Nat.ne_of_lt (qAi.lt aD.o) : aW ≠ aY) (am (by rw [hg]; exact Nat.ne_of_gt (qAi.lt aD.o) : aY ≠ aW))))))))); clear af aE aD HB; obtain ⟨af, aE, aD, HB, aG, bp, ai, bC, aT⟩ := n_; clear hb hbox hg; obtain ⟨cc, cd, ce, cf⟩ := c4_ hH aG.o; obtain ⟨cg, ch, ci, cj⟩ := z4_ aG.o) | ((with_reducible refine qAp (f := 23) rfl ?_); refine gL 37 Try.func23 #[.pointer (some ⟨aW, 0, none⟩)] ?_; (with_reducible refine (qAF.calls aW aN dS dT dU dV dW w _ ?side1 ?side2 gc.o).mono ?_); (case side1 => repeat (with_reducible first | exact aD.o | refine qAi.far ?_ bC.o (by (with_reducible repeat (apply TyB.set)); exact TyB.of aG.o) (by decide) _)); (case side2 => repeat (with_reducible first | exact HB.o | refine qAq ?_ bp.o)); rintro e hR ⟨rfl, hi, hb, hk⟩; refine ⟨_, rfl, ?_⟩; have n_ := a2 (qAf.blk hk (g' := aX) (o := .cells #[.string ⟨#[]⟩, .slice none 0 0, .slice none 0 0, .slice none 0 0] 27 (0, 0)) (by refine qAg ?_ ai.o _; refine qAg ?_ ai.o _; refine qAg ?_ ai.o _; refine qAg ?_ ai.o _; exact aE.o) aQ.o (by simp)) (a2 (qAf.blk hk (g' := aY) (o := .cells #[.string aR, .slice none 0 0, .slice none 0 0, .slice none 0 0] 27 (0, 0)) (by refine qAo (cs := #[.string aR, .slice none 0 0, .slice none 0 0, .slice none 0 0]) ?_ 3 _ rfl; refine qAo (cs := #[.string aR, .slice none 0 0, .slice none 0 0, .slice none 0 0]) ?_ 2 _ rfl; refine qAo (cs := #[.string aR, .slice none 0 0, .slice none 0 0, .slice none 0 0]) ?_ 1 _ rfl; refine qAo (cs := #[.string ⟨#[]⟩, .slice none 0 0, .slice none 0 0, .slice none 0 0]) ?_ 0 _ rfl; exact aG.o) aT.o (by simp)) (a2 (hb) (am (hi)))); clear af aE aG HB aD; obtain ⟨aE, aG, HB, aD⟩ := n_))
    go_loopg [8] k1 (fun kq v8 w' => ∃ (bD : Int) (aq : Int) (av : Int) (aH : List (S71)) (aU : Value), v8 = .int .i64 bD ∧ qAa (qAc.l1 kq l0 bD aN aq av aR aH = some (r1, r2, r3, r4, r5)) ∧ qAa (kq ≤ k1) ∧ qAa (Kd.R k71 71 w' w.heap.size (fun _ => True) aU aH) ∧ qAa (w'.heap[aX]? = some (.cells #[.string ⟨#[]⟩, (.slice none 0 0), (.slice none 0 0), (.slice none 0 0)] 27 (0, 0))) ∧ qAa (w'.heap[aY]? = some (.cells #[.string aR, aU, (.slice none 0 0), (.slice none 0 0)] 27 (0, 0))) ∧ qAa (qAi w w' aW aN aq av) ∧ qAa (Below w.heap.size w w'))
    case atStart => exact ⟨(dU), (dV), (dW), ([] : List (S71)), (.slice none 0 0), (by rfl), H', ⟨Nat.le_refl _⟩, ⟨by (exact Kd.R_nil _ _ _ _ _)⟩, ⟨by exact aE.o⟩, ⟨by exact aG.o⟩, ⟨by exact aD.o⟩, ⟨by exact HB.o⟩⟩
    case round =>
     clear H'
     obtain ⟨bD, aq, av, aH, aU, rfl, HA, cI, aA, aE, aG, aD, HB⟩ := hrel
     cases gk with
     | zero => exact absurd HA.o (by simp [qAc.l1])
     | succ k2 =>
      have H := HA.o
      clear HA
      simp only [qAc.l1] at H
      have dC := am H
      clear H
      go_upto_region 12 with (fail)
      go_cut [44] (fun hE wc => ∃ (kq : Nat) (bZ : Bool) (ab : Int) (ad : Int), hE = .bool bZ ∧ qAa (qAc.j2 kq l0 bD bZ aN ab ad aR aH = some (r1, r2, r3, r4, r5)) ∧ qAa (kq ≤ k2) ∧ qAa (Kd.R k71 71 wc w.heap.size (fun _ => True) aU aH) ∧ qAa (wc.heap[aX]? = some (.cells #[.string ⟨#[]⟩, (.slice none 0 0), (.slice none 0 0), (.slice none 0 0)] 27 (0, 0))) ∧ qAa (wc.heap[aY]? = some (.cells #[.string aR, aU, (.slice none 0 0), (.slice none 0 0)] 27 (0, 0))) ∧ qAa (qAi w wc aW aN ab ad) ∧ qAa (Below w.heap.size w wc))
      case first =>
       have H := dC.o
       clear dC
       by_cases dk : bD > 0
       rotate_left
       ·rw [if_neg dk] at H
        replace dk := d0 dk
        (skip)
        have H' := am H
        clear H
        go_wp2
        go_meet
        case rel => exact ⟨_, (false), (aq), (av), (by rfl), H', ⟨by have := b9.o; have := cI.o; (omega)⟩, ⟨by exact aA.o⟩, ⟨by exact aE.o⟩, ⟨by exact aG.o⟩, ⟨by exact aD.o⟩, ⟨by exact HB.o⟩⟩
       rw [if_pos dk] at H
       replace dk := d1 dk
       (skip)
       replace H := bm H
       obtain ⟨⟨dX, dY, dZ⟩, du, H⟩ := H
       replace H : (qAc.j2 k2 l0 bD (dX == 0) aN dY dZ aR aH) = some (r1, r2, r3, r4, r5) := H
       have gf := am du
       clear du
       have H' := am H
       clear H
       go_wp2_with (go_at_call 24; (with_reducible refine (qA6.calls aW aN aq av dX dY dZ w _ ?side1 ?side2 gf.o).mono ?_); (case side1 => exact aD.o); (case side2 => exact HB.o); rintro e hS ⟨rfl, hi, hb, hk⟩; have n_ := a2 (Kd.R_kp (qAi.apart aD.o aA.o (by decide)) hk) (a2 (qAf.blk hk aE.o aQ.o (by simp)) (a2 (qAf.blk hk aG.o aT.o (by simp)) (a2 (hb) (am (hi))))); clear aA aE aG HB aD; obtain ⟨aA, aE, aG, HB, aD⟩ := n_)
       go_meet
       case rel => exact ⟨_, (dX == 0), (dY), (dZ), (by rfl), H', ⟨by have := b9.o; have := cI.o; (omega)⟩, ⟨by exact aA.o⟩, ⟨by exact aE.o⟩, ⟨by exact aG.o⟩, ⟨by exact aD.o⟩, ⟨by exact HB.o⟩⟩
      case rest =>
       clear dC
       obtain ⟨kq, bZ, ab, ad, rfl, HA, bQ, aA, aE, aG, aD, HB⟩ := hcut
       cases kq with
       | zero => exact absurd HA.o (by simp [qAc.j2])
       | succ bR =>
        have H := HA.o
        clear HA
        simp only [qAc.j2] at H
        by_cases fi : bZ = true
        ·subst fi
         replace H : ((qAx.f aN ab ad 32).bind fun bL => ((qAk.f aN bL.2.1 bL.2.2).bind fun bA => ((qAO.f aN bA.2.1 bA.2.2).bind fun ao => (if aH.length < 4398046511104 then (qAc.l1 bR l0 (wrap64 (bD - 1)) aN ao.2.1 ao.2.2 aR (aH ++ [(⟨bL.1, (⟨wrap64 (bA.1), ao.1⟩ : S69)⟩ : S71)])) else (none))))) = some (r1, r2, r3, r4, r5) := by rw [if_pos rfl] at H; exact H
         replace H := bm H
         obtain ⟨⟨b7, d2, d3⟩, dv, H⟩ := H
         replace H : ((qAk.f aN d2 d3).bind fun bA => ((qAO.f aN bA.2.1 bA.2.2).bind fun ao => (if aH.length < 4398046511104 then (qAc.l1 bR l0 (wrap64 (bD - 1)) aN ao.2.1 ao.2.2 aR (aH ++ [(⟨b7, (⟨wrap64 (bA.1), ao.1⟩ : S69)⟩ : S71)])) else (none)))) = some (r1, r2, r3, r4, r5) := H
         have gg := am dv
         clear dv
         replace H := bm H
         obtain ⟨⟨bh, d4, d5⟩, dw, H⟩ := H
         replace H : ((qAO.f aN d4 d5).bind fun ao => (if aH.length < 4398046511104 then (qAc.l1 bR l0 (wrap64 (bD - 1)) aN ao.2.1 ao.2.2 aR (aH ++ [(⟨b7, (⟨wrap64 (bh), ao.1⟩ : S69)⟩ : S71)])) else (none))) = some (r1, r2, r3, r4, r5) := H
         have gh := am dw
         clear dw
         replace H := bm H
         obtain ⟨⟨cD, cp, cq⟩, dx, H⟩ := H
         replace H : (if aH.length < 4398046511104 then (qAc.l1 bR l0 (wrap64 (bD - 1)) aN cp cq aR (aH ++ [(⟨b7, (⟨wrap64 (bh), cD⟩ : S69)⟩ : S71)])) else (none)) = some (r1, r2, r3, r4, r5) := H
         have gi := am dx
         clear dx
         obtain ⟨fj, H⟩ := gd H
         have eW := am fj
         clear fj
         obtain ⟨cu, cW⟩ : ∃ y_ : List (S71), y_ = (aH ++ [(⟨b7, (⟨wrap64 (bh), cD⟩ : S69)⟩ : S71)]) := ⟨_, rfl⟩
         replace H : (qAc.l1 bR l0 (wrap64 (bD - 1)) aN cp cq aR cu) = some (r1, r2, r3, r4, r5) := by (rw [cW]; with_reducible exact H)
         have eZ := am cW
         clear cW
         have H' := am H
         clear H
         try go_wp2
         have n_ := a2 (Kd.R_drew aA.o) (a2 (qAU aE.o) (a2 (qAU aG.o) (a2 (qAi.drew aD.o) (am (qBi HB.o)))))
         clear aA aE aG aD HB
         obtain ⟨aA, aE, aG, aD, HB⟩ := n_
         refine qCY (n := 15) (S := fun w' => w'.cell? ⟨aY, 0, none⟩ = some (.string aR) ∧ w'.cell? ⟨aY, 1, none⟩ = some (aU) ∧ w'.cell? ⟨aY, 2, none⟩ = some (.slice none 0 0) ∧ w'.cell? ⟨aY, 3, none⟩ = some (.slice none 0 0)) (ds := [14]) (mK 15 0) (by kernel_rfl) rfl rfl (c4_ _ aG.o) (fun hHeld => ?_); refine qB8 qAc.tab14 qAc.bits14 (fun HT_ HW_ => ?_)
         generalize wc.drew = hT at aA aE aG aD HB hHeld ⊢
         refine pu 0 47 (mK 15 1) (qA8 HT_.o (by kernel_rfl)) ?_
         refine pu 2 49 (mK 15 5) (qA8 HT_.o (by kernel_rfl)) ?_
         refine pu 4 51 (mK 15 21) (qA8 HT_.o (by kernel_rfl)) ?_
         refine pu 7 54 (mK 15 149) (qA8 HT_.o (by kernel_rfl)) ?_
         refine tk 1 48 (mK 15 151) (qAQ HT_.o HW_.o (by kernel_rfl)) hHeld ?_
         refine one_ (i := 3) (N := some 50) (mK 15 159) rfl rfl (qBf HT_.o (by kernel_rfl)) (by decide) (fun K hK => ?_)
         refine qCy Try.func22 (by kernel_rfl) rfl #[.pointer (some ⟨aW, 0, none⟩), .int .i64 32] (by rfl) rfl rfl (by (try simp only [List.map_toArray, List.map_cons, List.map_nil]); (rfl)) ?_
         with_reducible refine (qAx.calls aW aN ab ad 32 b7 d2 d3 w _ ?side1 ?side2 gg.o).mono ?_
         (case side1 => exact aD.o)
         (case side2 => exact HB.o)
         rintro e hU ⟨rfl, hi, hb, hk⟩
         refine ⟨_, rfl, ?_⟩
         have n_ := a2 (Kd.R_kp (qAi.apart aD.o aA.o (by decide)) hk) (a2 (qAf.blk hk aE.o aQ.o (by simp)) (a2 (qAf.blk hk aG.o aT.o (by simp)) (a2 (hb) (am (hi)))))
         clear aA aE aG HB aD
         obtain ⟨aA, aE, aG, HB, aD⟩ := n_
         (try clear hb)
         (skip)
         (try clear hk)
         (try clear hi)
         refine hK.o _ _ (c4_ _ aG.o) (fun hHeld => ?_)
         clear hK K
         refine nm ?_
         refine one_ (i := 5) (N := some 52) (mK 15 191) rfl rfl (qBf HT_.o (by kernel_rfl)) (by decide) (fun K hK => ?_)
         refine qCy Try.func20 (by kernel_rfl) rfl #[.pointer (some ⟨aW, 0, none⟩)] (by rfl) rfl rfl (by (try simp only [List.map_toArray, List.map_cons, List.map_nil]); (rfl)) ?_
         with_reducible refine (qAk.calls aW aN d2 d3 bh d4 d5 w _ ?side1 ?side2 gh.o).mono ?_
         (case side1 => exact aD.o)
         (case side2 => exact HB.o)
         rintro e hV ⟨rfl, hi, hb, hk⟩
         refine ⟨_, rfl, ?_⟩
         have n_ := a2 (Kd.R_kp (qAi.apart aD.o aA.o (by decide)) hk) (a2 (qAf.blk hk aE.o aQ.o (by simp)) (a2 (qAf.blk hk aG.o aT.o (by simp)) (a2 (hb) (am (hi)))))
         clear aA aE aG HB aD
         obtain ⟨aA, aE, aG, HB, aD⟩ := n_
         (try clear hb)
         (skip)
         (try clear hk)
         (try clear hi)
         refine hK.o _ _ (c4_ _ aG.o) (fun hHeld => ?_)
         clear hK K
         refine nm ?_
         refine qEk (i := 6) (N := some 53) (v := ?_) (a' := ?_) (mK 15 255) rfl rfl (qA8 HT_.o (by kernel_rfl)) (fun _ _ _ h => h) (Or.inl ⟨by rfl, ?_⟩) ?_ ?_
         rotate_left
         ·intro w'
          go_simp
          with_reducible rfl
         rotate_left
         ·simp only [Act.put, List.setIfInBounds_toArray, List.set_cons_zero, List.set_cons_succ, i64_w]
          rfl
         refine one_ (i := 8) (N := some 55) (mK 15 511) rfl rfl (qBf HT_.o (by kernel_rfl)) (by decide) (fun K hK => ?_)
         refine qCy Try.func25 (by kernel_rfl) rfl #[.pointer (some ⟨aW, 0, none⟩)] (by rfl) rfl rfl (by (try simp only [List.map_toArray, List.map_cons, List.map_nil]); (rfl)) ?_
         with_reducible refine (qAO.calls aW aN d4 d5 cD cp cq w _ ?side1 ?side2 gi.o).mono ?_
         (case side1 => exact aD.o)
         (case side2 => exact HB.o)
         rintro e hW ⟨rfl, hi, hb, hk⟩
         refine ⟨_, rfl, ?_⟩
         have n_ := a2 (Kd.R_kp (qAi.apart aD.o aA.o (by decide)) hk) (a2 (qAf.blk hk aE.o aQ.o (by simp)) (a2 (qAf.blk hk aG.o aT.o (by simp)) (a2 (hb) (am (hi)))))
         clear aA aE aG HB aD
         obtain ⟨aA, aE, aG, HB, aD⟩ := n_
         (try clear hb)
         (skip)
         (try clear hk)
         (try clear hi)
         refine hK.o _ _ (c4_ _ aG.o) (fun hHeld => ?_)
         clear hK K
         refine nm ?_
         refine pu 9 56 (mK 15 1023) (qA8 HT_.o (by kernel_rfl)) ?_
         refine pu 10 57 (mK 15 2047) (qA8 HT_.o (by kernel_rfl)) ?_
         refine one_ (i := 11) (N := some 58) (mK 15 4095) rfl rfl (qBf HT_.o (by kernel_rfl)) (by decide) (fun K hK => ?_)
         refine value_ (w1 := ?_) (v := ?_) (by rfl) rfl ?_ ?_
         rotate_left 2
         ·go_simp
          constructor
          ·rfl
          rfl
         refine hK.o _ _ ⟨(qAb (qAE aG.o _) 0).trans rfl, (qAb (qAE aG.o _) 1).trans rfl, (qAb (qAE aG.o _) 2).trans rfl, (qAb (qAE aG.o _) 3).trans rfl⟩ (fun hHeld => ?_)
         clear hK K
         refine nm ?_
         refine one_ (i := 12) (N := some 59) (mK 15 8191) rfl rfl (qBf HT_.o (by kernel_rfl)) (by decide) (fun K hK => ?_)
         refine Kd.R_append_step k71 (w0 := w) w.heap.size (by rfl) (.tmp 48) (.tmp 58) 23 71 (.agg #[(.string ⟨#[]⟩), (.int .i64 0), (.int .u64 0)]) 32 rfl Try.underlying23 info71 rfl (by decide) (by omega) aU aH (⟨b7, (⟨wrap64 (bh), cD⟩ : S69)⟩ : S71) [.string b7, .int .i64 (wrap64 (bh)), .int .u64 cD] (fun _ => True) (fun _ => False) rfl rfl ?aP (fun _ hk => hk.elim) ?aF ?aO ?aB ?aS ?aL ?_
         (case aP => exact k71_mkM _ _ _ (⟨b7, (⟨wrap64 (bh), cD⟩ : S69)⟩ : S71))
         (case aB => exact HB.o)
         (case aF => exact (fun _ _ => trivial))
         (case aO => exact aA.o)
         (case aS => exact (qAe HB.o))
         (case aL => have := eW.o; omega)
         intro gy hX ho hb hg es
         rw [← eZ.o] at ho
         have n_ := a2 (qAH (g := aX) (o := .cells #[.string ⟨#[]⟩, .slice none 0 0, .slice none 0 0, .slice none 0 0] 27 (0, 0)) aE.o hg (Kd.R_ne aA.o aE.o (by decide))) (a2 (qAH (g := aY) (o := .cells #[.string aR, aU, .slice none 0 0, .slice none 0 0] 27 (0, 0)) aG.o hg (Kd.R_ne aA.o aG.o (by decide))) (a2 (qAi.grownR aD.o hg aD.o aA.o (by decide) (fun b_ t_ h_ => h_)) (a2 (hb) (am (ho)))))
         clear aE aG aD HB aA
         obtain ⟨aE, aG, aD, HB, cw⟩ := n_
         clear ho hb hg es
         obtain ⟨eQ, eh, gE⟩ := Kd.R_slice cw.o
         (subst gE)
         refine hK.o _ _ (c4_ _ aG.o) (fun hHeld => ?_)
         clear hK K
         refine nm ?_
         refine pu 13 60 (mK 15 16383) (qA8 HT_.o (by kernel_rfl)) ?_
         refine last_ (i := 14) (N := none) (mK 15 32767) rfl rfl (qBf HT_.o (by kernel_rfl)) (by decide) (fun K hK => ?_)
         have hfs43 := qAr aG.o 1
         refine skip_ (w1 := ?_) (by rfl) rfl ?_ ?_
         rotate_left
         ·go_simp
          rfl
         refine hK.o _ _ ?_
         clear hK K
         refine qE1 (qCk HT_.o (by kernel_rfl)) ?_
         try go_wp2
         go_roundg bR
         case measure => have := b9.o; have := cI.o; have := bQ.o; omega
         case rel => exact ⟨(wrap64 (bD - 1)), (cp), (cq), (cu), (.slice eQ cu.length eh), (by rfl), H', ⟨by have := b9.o; have := cI.o; have := bQ.o; omega⟩, ⟨by exact Kd.R_mono (Kd.R_far (p := ⟨aY, 1, none⟩) (Kd.R_types cw.o aG.o (by decide)) (fun _ hk => hk.2) (.slice eQ cu.length eh)) (fun _ hk => trivial)⟩, ⟨by refine qAg ?_ ai.o _; exact aE.o⟩, ⟨by refine qAo (cs := #[.string aR, aU, .slice none 0 0, .slice none 0 0]) ?_ 1 _ rfl; exact aG.o⟩, ⟨by repeat (with_reducible first | exact aD.o | refine qAi.far ?_ bC.o (by exact TyB.of aG.o) (by decide) _)⟩, ⟨by repeat (with_reducible first | exact HB.o | refine qAq ?_ bp.o)⟩⟩
        replace fi := Bool.eq_false_iff.mpr fi
        subst fi
        replace H : ((qAF.f aN ab ad).bind fun bM => (qAc.l2 bR l0 bM.1 aN bM.2.1 bM.2.2 aR aH ([] : List (S80)))) = some (r1, r2, r3, r4, r5) := by rw [if_neg (show ¬ (false = true) by decide)] at H; exact H
        replace H := bm H
        obtain ⟨⟨d6, d7, d8⟩, dy, H⟩ := H
        replace H : (qAc.l2 bR l0 d6 aN d7 d8 aR aH ([] : List (S80))) = some (r1, r2, r3, r4, r5) := H
        have gj := am dy
        clear dy
        have H' := am H
        clear H
        go_wp2_with ((with_reducible refine qAp (f := 23) rfl ?_); refine gL 62 Try.func23 #[.pointer (some ⟨aW, 0, none⟩)] ?_; (with_reducible refine (qAF.calls aW aN ab ad d6 d7 d8 w _ ?side1 ?side2 gj.o).mono ?_); (case side1 => exact aD.o); (case side2 => exact HB.o); rintro e hY ⟨rfl, hi, hb, hk⟩; refine ⟨_, rfl, ?_⟩; have n_ := a2 (Kd.R_kp (qAi.apart aD.o aA.o (by decide)) hk) (a2 (qAf.blk hk aE.o aQ.o (by simp)) (a2 (qAf.blk hk aG.o aT.o (by simp)) (a2 (hb) (am (hi))))); clear aA aE aG HB aD; obtain ⟨aA, aE, aG, HB, aD⟩ := n_)
        go_loopg [9] bR (fun kq v9 w' => ∃ (bF : Int) (ar : Int) (aw : Int) (aJ : List (S80)) (aV : Value), v9 = .int .i64 bF ∧ qAa (qAc.l2 kq l0 bF aN ar aw aR aH aJ = some (r1, r2, r3, r4, r5)) ∧ qAa (kq ≤ bR) ∧ qAa (Kd.R k71 71 w' w.heap.size (fun _ => True) aU aH) ∧ qAa (Kd.S k80 80 w' w.heap.size (fun _ => True) aV aJ) ∧ qAa (w'.heap[aX]? = some (.cells #[.string ⟨#[]⟩, (.slice none 0 0), (.slice none 0 0), (.slice none 0 0)] 27 (0, 0))) ∧ qAa (w'.heap[aY]? = some (.cells #[.string aR, aU, aV, (.slice none 0 0)] 27 (0, 0))) ∧ qAa (qAi w w' aW aN ar aw) ∧ qAa (Below w.heap.size w w'))
        case atStart => exact ⟨(d6), (d7), (d8), ([] : List (S80)), (.slice none 0 0), (by rfl), H', ⟨Nat.le_refl _⟩, ⟨by exact aA.o⟩, ⟨by (exact Kd.S_nil _ _ _ _ _)⟩, ⟨by exact aE.o⟩, ⟨by exact aG.o⟩, ⟨by exact aD.o⟩, ⟨by exact HB.o⟩⟩
        case round =>
         clear H'
         obtain ⟨bF, ar, aw, aJ, aV, rfl, HA, cv, aA, aC, aE, aG, aD, HB⟩ := hrel
         cases gk with
         | zero => exact absurd HA.o (by simp [qAc.l2])
         | succ k4 =>
          have H := HA.o
          clear HA
          simp only [qAc.l2] at H
          have dD := am H
          clear H
          go_upto_region 16 with (fail)
          go_cut [69] (fun hF wc => ∃ (kq : Nat) (b0 : Bool) (ac : Int) (ae : Int), hF = .bool b0 ∧ qAa (qAc.j4 kq l0 bF b0 aN ac ae aR aH aJ = some (r1, r2, r3, r4, r5)) ∧ qAa (kq ≤ k4) ∧ qAa (Kd.R k71 71 wc w.heap.size (fun _ => True) aU aH) ∧ qAa (Kd.S k80 80 wc w.heap.size (fun _ => True) aV aJ) ∧ qAa (wc.heap[aX]? = some (.cells #[.string ⟨#[]⟩, (.slice none 0 0), (.slice none 0 0), (.slice none 0 0)] 27 (0, 0))) ∧ qAa (wc.heap[aY]? = some (.cells #[.string aR, aU, aV, (.slice none 0 0)] 27 (0, 0))) ∧ qAa (qAi w wc aW aN ac ae) ∧ qAa (Below w.heap.size w wc))
          case first =>
           have H := dD.o
           clear dD
           by_cases dl : bF > 0
           rotate_left
           ·rw [if_neg dl] at H
            replace dl := d0 dl
            (skip)
            have H' := am H
            clear H
            go_wp2
            go_meet
            case rel => exact ⟨_, (false), (ar), (aw), (by rfl), H', ⟨by have := b9.o; have := cI.o; have := bQ.o; have := cv.o; (omega)⟩, ⟨by exact aA.o⟩, ⟨by exact aC.o⟩, ⟨by exact aE.o⟩, ⟨by exact aG.o⟩, ⟨by exact aD.o⟩, ⟨by exact HB.o⟩⟩
           rw [if_pos dl] at H
           replace dl := d1 dl
           (skip)
           replace H := bm H
           obtain ⟨⟨d9, da, db⟩, dz, H⟩ := H
           replace H : (qAc.j4 k4 l0 bF (d9 == 0) aN da db aR aH aJ) = some (r1, r2, r3, r4, r5) := H
           have gl := am dz
           clear dz
           have H' := am H
           clear H
           go_wp2_with (go_at_call 24; (with_reducible refine (qA6.calls aW aN ar aw d9 da db w _ ?side1 ?side2 gl.o).mono ?_); (case side1 => exact aD.o); (case side2 => exact HB.o); rintro e hZ ⟨rfl, hi, hb, hk⟩; have n_ := a2 (Kd.R_kp (qAi.apart aD.o aA.o (by decide)) hk) (a2 (Kd.S_mono (Kd.S_keep (qAi.apartS aD.o aC.o (by decide)) hk (fun _ h => h.2)) (fun _ h => h.1)) (a2 (qAf.blk hk aE.o aQ.o (by simp)) (a2 (qAf.blk hk aG.o aT.o (by simp)) (a2 (hb) (am (hi)))))); clear aA aC aE aG HB aD; obtain ⟨aA, aC, aE, aG, HB, aD⟩ := n_)
           go_meet
           case rel => exact ⟨_, (d9 == 0), (da), (db), (by rfl), H', ⟨by have := b9.o; have := cI.o; have := bQ.o; have := cv.o; (omega)⟩, ⟨by exact aA.o⟩, ⟨by exact aC.o⟩, ⟨by exact aE.o⟩, ⟨by exact aG.o⟩, ⟨by exact aD.o⟩, ⟨by exact HB.o⟩⟩
          case rest =>
           clear dD
           obtain ⟨kq, b0, ac, ae, rfl, HA, bu, aA, aC, aE, aG, aD, HB⟩ := hcut
           cases kq with
           | zero => exact absurd HA.o (by simp [qAc.j4])
           | succ bH =>
            have H := HA.o
            clear HA
            simp only [qAc.j4] at H
            by_cases fk : b0 = true
            ·subst fk
             replace H : ((qAx.f aN ac ae 32).bind fun bN => ((qBl.f bH aN bN.2.1 bN.2.2).bind fun ag => (if aJ.length < 1466015503701 then (qAc.l2 bH l0 (wrap64 (bF - 1)) aN ag.2.2.2.2.1 ag.2.2.2.2.2 aR aH (aJ ++ [(⟨bN.1, (⟨(⟨ag.1, ag.2.1⟩ : S74), ag.2.2.1, ag.2.2.2.1⟩ : S77)⟩ : S80)])) else (none)))) = some (r1, r2, r3, r4, r5) := by rw [if_pos rfl] at H; exact H
             replace H := bm H
             obtain ⟨⟨bi, dc, dd⟩, eA, H⟩ := H
             replace H : ((qBl.f bH aN dc dd).bind fun ag => (if aJ.length < 1466015503701 then (qAc.l2 bH l0 (wrap64 (bF - 1)) aN ag.2.2.2.2.1 ag.2.2.2.2.2 aR aH (aJ ++ [(⟨bi, (⟨(⟨ag.1, ag.2.1⟩ : S74), ag.2.2.1, ag.2.2.2.1⟩ : S77)⟩ : S80)])) else (none))) = some (r1, r2, r3, r4, r5) := H
             have gm := am eA
             clear eA
             replace H := bm H
             obtain ⟨⟨bj, cE, bk, bl, cr, ct⟩, eB, H⟩ := H
             replace H : (if aJ.length < 1466015503701 then (qAc.l2 bH l0 (wrap64 (bF - 1)) aN cr ct aR aH (aJ ++ [(⟨bi, (⟨(⟨bj, cE⟩ : S74), bk, bl⟩ : S77)⟩ : S80)])) else (none)) = some (r1, r2, r3, r4, r5) := H
             have gn := am eB
             clear eB
             obtain ⟨fl, H⟩ := gd H
             have eX := am fl
             clear fl
             obtain ⟨cZ, cX⟩ : ∃ y_ : List (S80), y_ = (aJ ++ [(⟨bi, (⟨(⟨bj, cE⟩ : S74), bk, bl⟩ : S77)⟩ : S80)]) := ⟨_, rfl⟩
             replace H : (qAc.l2 bH l0 (wrap64 (bF - 1)) aN cr ct aR aH cZ) = some (r1, r2, r3, r4, r5) := by (rw [cX]; with_reducible exact H)
             have e0 := am cX
             clear cX
             have H' := am H
             clear H
             try go_wp2
             have n_ := a2 (Kd.R_drew aA.o) (a2 (Kd.S_drew aC.o) (a2 (qAU aE.o) (a2 (qAU aG.o) (a2 (qAi.drew aD.o) (am (qBi HB.o))))))
             clear aA aC aE aG aD HB
             obtain ⟨aA, aC, aE, aG, aD, HB⟩ := n_
             refine qCY (n := 11) (S := fun w' => w'.cell? ⟨aY, 0, none⟩ = some (.string aR) ∧ w'.cell? ⟨aY, 1, none⟩ = some (aU) ∧ w'.cell? ⟨aY, 2, none⟩ = some (aV) ∧ w'.cell? ⟨aY, 3, none⟩ = some (.slice none 0 0)) (ds := [10]) (mK 11 0) (by kernel_rfl) rfl rfl (c4_ _ aG.o) (fun hHeld => ?_); refine qB8 qAc.tab18 qAc.bits18 (fun HT_ HW_ => ?_)
             generalize wc.drew = h0 at aA aC aE aG aD HB hHeld ⊢
             refine pu 0 72 (mK 11 1) (qA8 HT_.o (by kernel_rfl)) ?_
             refine pu 2 74 (mK 11 5) (qA8 HT_.o (by kernel_rfl)) ?_
             refine pu 4 76 (mK 11 21) (qA8 HT_.o (by kernel_rfl)) ?_
             refine tk 1 73 (mK 11 23) (qAQ HT_.o HW_.o (by kernel_rfl)) hHeld ?_
             refine one_ (i := 3) (N := some 75) (mK 11 31) rfl rfl (qBf HT_.o (by kernel_rfl)) (by decide) (fun K hK => ?_)
             refine qCy Try.func22 (by kernel_rfl) rfl #[.pointer (some ⟨aW, 0, none⟩), .int .i64 32] (by rfl) rfl rfl (by (try simp only [List.map_toArray, List.map_cons, List.map_nil]); (rfl)) ?_
             with_reducible refine (qAx.calls aW aN ac ae 32 bi dc dd w _ ?side1 ?side2 gm.o).mono ?_
             (case side1 => exact aD.o)
             (case side2 => exact HB.o)
             rintro e h1 ⟨rfl, hi, hb, hk⟩
             refine ⟨_, rfl, ?_⟩
             have n_ := a2 (Kd.R_kp (qAi.apart aD.o aA.o (by decide)) hk) (a2 (Kd.S_mono (Kd.S_keep (qAi.apartS aD.o aC.o (by decide)) hk (fun _ h => h.2)) (fun _ h => h.1)) (a2 (qAf.blk hk aE.o aQ.o (by simp)) (a2 (qAf.blk hk aG.o aT.o (by simp)) (a2 (hb) (am (hi))))))
             clear aA aC aE aG HB aD
             obtain ⟨aA, aC, aE, aG, HB, aD⟩ := n_
             (try clear hb)
             (skip)
             (try clear hk)
             (try clear hi)
             refine hK.o _ _ (c4_ _ aG.o) (fun hHeld => ?_)
             clear hK K
             refine nm ?_
             refine one_ (i := 5) (N := some 77) (mK 11 63) rfl rfl (qBf HT_.o (by kernel_rfl)) (by decide) (fun K hK => ?_)
             refine qCy Try.func26 (by kernel_rfl) rfl #[.pointer (some ⟨aW, 0, none⟩)] (by rfl) rfl rfl (by (try simp only [List.map_toArray, List.map_cons, List.map_nil]); (rfl)) ?_
             with_reducible refine (qBl.calls bH aW aN dc dd bj cE bk bl cr ct w _ ?side1 ?side2 gn.o).mono ?_
             (case side1 => exact aD.o)
             (case side2 => exact HB.o)
             rintro e h2 ⟨gz, hA, hB, rfl, cU, gX, gY, hi, hb, hk⟩
             refine ⟨_, rfl, ?_⟩
             have n_ := a2 (Kd.R_kp (qAi.apart aD.o aA.o (by decide)) hk) (a2 (Kd.S_mono (Kd.S_told (Kd.S_told (Kd.S_told (Kd.S_oldK (qAi.apartS aD.o aC.o (by decide)) hk) (Kd.R_base cU)) (Kd.R_base gX)) (Kd.R_base gY)) (fun _ h_ => h_.1)) (a2 (qAf.blk hk aE.o aQ.o (by simp)) (a2 (qAf.blk hk aG.o aT.o (by simp)) (a2 (Kd.R_lower cU (qAe HB.o)) (a2 (Kd.R_lower gX (qAe HB.o)) (a2 (Kd.R_lower gY (qAe HB.o)) (a2 (hb) (am (hi)))))))))
             clear aA aC aE aG HB aD
             obtain ⟨aA, aC, aE, aG, bq, br, bs, HB, aD⟩ := n_
             (try clear hb)
             (skip)
             (try clear hk)
             (try clear hi)
             (try clear cU)
             (try clear gX)
             (try clear gY)
             obtain ⟨eR, ei, gF⟩ := Kd.R_slice bs.o
             (subst gF)
             obtain ⟨eS, ej, gG⟩ := Kd.R_slice br.o
             (subst gG)
             obtain ⟨eT, ek, gH⟩ := Kd.R_slice bq.o
             (subst gH)
             refine hK.o _ _ (c4_ _ aG.o) (fun hHeld => ?_)
             clear hK K
             refine nm ?_
             refine pu 6 78 (mK 11 127) (qA8 HT_.o (by kernel_rfl)) ?_
             refine one_ (i := 7) (N := some 79) (mK 11 255) rfl rfl (qBf HT_.o (by kernel_rfl)) (by decide) (fun K hK => ?_)
             refine value_ (w1 := ?_) (v := ?_) (by rfl) rfl ?_ ?_
             rotate_left 2
             ·go_simp
              constructor
              ·rfl
              rfl
             refine hK.o _ _ ⟨(qAb (qAE aG.o _) 0).trans rfl, (qAb (qAE aG.o _) 1).trans rfl, (qAb (qAE aG.o _) 2).trans rfl, (qAb (qAE aG.o _) 3).trans rfl⟩ (fun hHeld => ?_)
             clear hK K
             refine nm ?_
             refine one_ (i := 8) (N := some 80) (mK 11 511) rfl rfl (qBf HT_.o (by kernel_rfl)) (by decide) (fun K hK => ?_)
             refine Kd.S_append_step k80 (w0 := w) w.heap.size (by rfl) (.tmp 73) (.tmp 79) 24 80 (.agg #[(.string ⟨#[]⟩), (.slice none 0 0), (.int .i64 0), (.slice none 0 0), (.slice none 0 0)]) 96 rfl Try.underlying24 info80 rfl (by decide) (by omega) aV aJ (⟨bi, (⟨(⟨bj, cE⟩ : S74), bk, bl⟩ : S77)⟩ : S80) [.string bi, .slice eT bj.length ek, .int .i64 cE, .slice eS bk.length ej, .slice eR bl.length ei] (fun _ => True) (fun k_ => some k_ = (.slice eT bj.length ek : Value).ownBlock ∨ some k_ = (.slice eS bk.length ej : Value).ownBlock ∨ some k_ = (.slice eR bl.length ei : Value).ownBlock) rfl rfl ?aP (fun k_ hk_ => hk_.elim (fun h_ => (Kd.R_mono (ok' := fun k_ => (fun _ => True) k_ ∧ some k_ ≠ (aV : Value).ownBlock) (Kd.R_apart' bq.o (Kd.S_typed aC.o) (by decide)) (fun k_ hk => ⟨trivial, hk.2⟩)).1 k_ h_.symm) (fun h_ => h_.elim (fun h_ => (Kd.R_mono (ok' := fun k_ => (fun _ => True) k_ ∧ some k_ ≠ (aV : Value).ownBlock) (Kd.R_apart' br.o (Kd.S_typed aC.o) (by decide)) (fun k_ hk => ⟨trivial, hk.2⟩)).1 k_ h_.symm) (fun h_ => (Kd.R_mono (ok' := fun k_ => (fun _ => True) k_ ∧ some k_ ≠ (aV : Value).ownBlock) (Kd.R_apart' bs.o (Kd.S_typed aC.o) (by decide)) (fun k_ hk => ⟨trivial, hk.2⟩)).1 k_ h_.symm))) ?aF ?aO ?aB ?aS ?aL ?_
             (case aP => exact k80_mkM _ _ _ (⟨bi, (⟨(⟨bj, cE⟩ : S74), bk, bl⟩ : S77)⟩ : S80) (Kd.R_mono (Kd.R_tight rfl (Kd.R_mono (ok' := fun k_ => (fun _ => True) k_ ∧ some k_ ≠ (aV : Value).ownBlock) (Kd.R_apart' bq.o (Kd.S_typed aC.o) (by decide)) (fun k_ hk => ⟨trivial, hk.2⟩))) (fun _ h_ => Or.inl h_)) (Kd.R_mono (Kd.R_tight rfl (Kd.R_mono (ok' := fun k_ => (fun _ => True) k_ ∧ some k_ ≠ (aV : Value).ownBlock) (Kd.R_apart' br.o (Kd.S_typed aC.o) (by decide)) (fun k_ hk => ⟨trivial, hk.2⟩))) (fun _ h_ => Or.inr (Or.inl h_))) (Kd.R_mono (Kd.R_tight rfl (Kd.R_mono (ok' := fun k_ => (fun _ => True) k_ ∧ some k_ ≠ (aV : Value).ownBlock) (Kd.R_apart' bs.o (Kd.S_typed aC.o) (by decide)) (fun k_ hk => ⟨trivial, hk.2⟩))) (fun _ h_ => Or.inr (Or.inr (h_)))))
             (case aB => exact HB.o)
             (case aF => exact (fun _ _ => trivial))
             (case aO => exact (by exact Kd.S_mono aC.o (fun k_ hk => ⟨trivial, fun e_ => e_.elim (fun h_ => hk.1.1.2 h_) (fun h_ => h_.elim (fun h_ => hk.1.2 h_) (fun h_ => hk.2 h_))⟩)))
             (case aS => exact (qAe HB.o))
             (case aL => have := eX.o; omega)
             intro hC h3 ho hb hg es
             rw [← e0.o] at ho
             have n_ := a2 (Kd.R_over' aA.o (Kd.S_typed aC.o) (by decide) hg) (a2 (qAH (g := aX) (o := .cells #[.string ⟨#[]⟩, .slice none 0 0, .slice none 0 0, .slice none 0 0] 27 (0, 0)) aE.o hg (Kd.S_ne aC.o aE.o (by decide))) (a2 (qAH (g := aY) (o := .cells #[.string aR, aU, aV, .slice none 0 0] 27 (0, 0)) aG.o hg (Kd.S_ne aC.o aG.o (by decide))) (a2 (qAi.grownRS aD.o hg aD.o aC.o (by decide) (fun b_ t_ h_ => h_)) (a2 (hb) (am (ho))))))
             clear aA aE aG aD HB aC bq br bs
             obtain ⟨aA, aE, aG, aD, HB, cx⟩ := n_
             clear ho hb hg es
             obtain ⟨dB, dF, gI⟩ := Kd.S_slice cx.o
             (subst gI)
             refine hK.o _ _ (c4_ _ aG.o) (fun hHeld => ?_)
             clear hK K
             refine nm ?_
             refine pu 9 81 (mK 11 1023) (qA8 HT_.o (by kernel_rfl)) ?_
             refine last_ (i := 10) (N := none) (mK 11 2047) rfl rfl (qBf HT_.o (by kernel_rfl)) (by decide) (fun K hK => ?_)
             have hfs62 := qAr aG.o 2
             refine skip_ (w1 := ?_) (by rfl) rfl ?_ ?_
             rotate_left
             ·go_simp
              rfl
             refine hK.o _ _ ?_
             clear hK K
             refine qE1 (qCk HT_.o (by kernel_rfl)) ?_
             try go_wp2
             go_roundg bH
             case measure => have := b9.o; have := cI.o; have := bQ.o; have := cv.o; have := bu.o; omega
             case rel => exact ⟨(wrap64 (bF - 1)), (cr), (ct), (cZ), (.slice dB cZ.length dF), (by rfl), H', ⟨by have := b9.o; have := cI.o; have := bQ.o; have := cv.o; have := bu.o; omega⟩, ⟨by exact Kd.R_mono (Kd.R_far (p := ⟨aY, 2, none⟩) (Kd.R_types aA.o aG.o (by decide)) (fun _ hk => hk.2) (.slice dB cZ.length dF)) (fun _ hk => trivial)⟩, ⟨by exact Kd.S_mono (Kd.S_far (p := ⟨aY, 2, none⟩) (Kd.S_types cx.o aG.o (by decide)) (fun _ hk => hk.2) (.slice dB cZ.length dF)) (fun _ hk => trivial)⟩, ⟨by refine qAg ?_ ai.o _; exact aE.o⟩, ⟨by refine qAo (cs := #[.string aR, aU, aV, .slice none 0 0]) ?_ 2 _ rfl; exact aG.o⟩, ⟨by repeat (with_reducible first | exact aD.o | refine qAi.far ?_ bC.o (by exact TyB.of aG.o) (by decide) _)⟩, ⟨by repeat (with_reducible first | exact HB.o | refine qAq ?_ bp.o)⟩⟩
            replace fk := Bool.eq_false_iff.mpr fk
            subst fk
            replace H : ((qAF.f aN ac ae).bind fun bO => (qAc.l3 bH l0 bO.1 aN bO.2.1 bO.2.2 aR aH aJ ([] : List (S82)))) = some (r1, r2, r3, r4, r5) := by rw [if_neg (show ¬ (false = true) by decide)] at H; exact H
            replace H := bm H
            obtain ⟨⟨dH, dI, dJ⟩, eC, H⟩ := H
            replace H : (qAc.l3 bH l0 dH aN dI dJ aR aH aJ ([] : List (S82))) = some (r1, r2, r3, r4, r5) := H
            have go := am eC
            clear eC
            have H' := am H
            clear H
            go_wp2_with ((with_reducible refine qAp (f := 23) rfl ?_); refine gL 83 Try.func23 #[.pointer (some ⟨aW, 0, none⟩)] ?_; (with_reducible refine (qAF.calls aW aN ac ae dH dI dJ w _ ?side1 ?side2 go.o).mono ?_); (case side1 => exact aD.o); (case side2 => exact HB.o); rintro e h4 ⟨rfl, hi, hb, hk⟩; refine ⟨_, rfl, ?_⟩; have n_ := a2 (Kd.R_kp (qAi.apart aD.o aA.o (by decide)) hk) (a2 (Kd.S_mono (Kd.S_keep (qAi.apartS aD.o aC.o (by decide)) hk (fun _ h => h.2)) (fun _ h => h.1)) (a2 (qAf.blk hk aE.o aQ.o (by simp)) (a2 (qAf.blk hk aG.o aT.o (by simp)) (a2 (hb) (am (hi)))))); clear aA aC aE aG HB aD; obtain ⟨aA, aC, aE, aG, HB, aD⟩ := n_)
            go_loopg [10] bH (fun kq gv w' => ∃ (aj : Int) (au : Int) (ax : Int) (aK : List (S82)) (ak : Value), gv = .int .i64 aj ∧ qAa (qAc.l3 kq l0 aj aN au ax aR aH aJ aK = some (r1, r2, r3, r4, r5)) ∧ qAa (kq ≤ bH) ∧ qAa (Kd.R k71 71 w' w.heap.size (fun _ => True) aU aH) ∧ qAa (Kd.S k80 80 w' w.heap.size (fun _ => True) aV aJ) ∧ qAa (Kd.R k82 82 w' w.heap.size (fun _ => True) ak aK) ∧ qAa (w'.heap[aX]? = some (.cells #[.string ⟨#[]⟩, (.slice none 0 0), (.slice none 0 0), (.slice none 0 0)] 27 (0, 0))) ∧ qAa (w'.heap[aY]? = some (.cells #[.string aR, aU, aV, ak] 27 (0, 0))) ∧ qAa (qAi w w' aW aN au ax) ∧ qAa (Below w.heap.size w w'))
            case atStart => exact ⟨(dH), (dI), (dJ), ([] : List (S82)), (.slice none 0 0), (by rfl), H', ⟨Nat.le_refl _⟩, ⟨by exact aA.o⟩, ⟨by exact aC.o⟩, ⟨by (exact Kd.R_nil _ _ _ _ _)⟩, ⟨by exact aE.o⟩, ⟨by exact aG.o⟩, ⟨by exact aD.o⟩, ⟨by exact HB.o⟩⟩
            case round =>
             clear H'
             obtain ⟨aj, au, ax, aK, ak, rfl, HA, ff, aA, aC, aI, aE, aG, aD, HB⟩ := hrel
             cases gk with
             | zero => exact absurd HA.o (by simp [qAc.l3])
             | succ k6 =>
              have H := HA.o
              clear HA
              simp only [qAc.l3] at H
              have dE := am H
              clear H
              go_upto_region 20 with (fail)
              go_cut [90] (fun hG wc => ∃ (kq : Nat) (b1 : Bool) (a5 : Int) (a6 : Int), hG = .bool b1 ∧ qAa (qAc.j6 kq l0 aj b1 aN a5 a6 aR aH aJ aK = some (r1, r2, r3, r4, r5)) ∧ qAa (kq ≤ k6) ∧ qAa (Kd.R k71 71 wc w.heap.size (fun _ => True) aU aH) ∧ qAa (Kd.S k80 80 wc w.heap.size (fun _ => True) aV aJ) ∧ qAa (Kd.R k82 82 wc w.heap.size (fun _ => True) ak aK) ∧ qAa (wc.heap[aX]? = some (.cells #[.string ⟨#[]⟩, (.slice none 0 0), (.slice none 0 0), (.slice none 0 0)] 27 (0, 0))) ∧ qAa (wc.heap[aY]? = some (.cells #[.string aR, aU, aV, ak] 27 (0, 0))) ∧ qAa (qAi w wc aW aN a5 a6) ∧ qAa (Below w.heap.size w wc))
              case first =>
               have H := dE.o
               clear dE
               by_cases dm : aj > 0
               rotate_left
               ·rw [if_neg dm] at H
                replace dm := d0 dm
                (skip)
                have H' := am H
                clear H
                go_wp2
                go_meet
                case rel => exact ⟨_, (false), (au), (ax), (by rfl), H', ⟨by have := b9.o; have := cI.o; have := bQ.o; have := cv.o; have := bu.o; have := ff.o; (omega)⟩, ⟨by exact aA.o⟩, ⟨by exact aC.o⟩, ⟨by exact aI.o⟩, ⟨by exact aE.o⟩, ⟨by exact aG.o⟩, ⟨by exact aD.o⟩, ⟨by exact HB.o⟩⟩
               rw [if_pos dm] at H
               replace dm := d1 dm
               (skip)
               replace H := bm H
               obtain ⟨⟨dK, de, df⟩, eD, H⟩ := H
               replace H : (qAc.j6 k6 l0 aj (dK == 0) aN de df aR aH aJ aK) = some (r1, r2, r3, r4, r5) := H
               have gp := am eD
               clear eD
               have H' := am H
               clear H
               go_wp2_with (go_at_call 24; (with_reducible refine (qA6.calls aW aN au ax dK de df w _ ?side1 ?side2 gp.o).mono ?_); (case side1 => exact aD.o); (case side2 => exact HB.o); rintro e h5 ⟨rfl, hi, hb, hk⟩; have n_ := a2 (Kd.R_kp (qAi.apart aD.o aA.o (by decide)) hk) (a2 (Kd.S_mono (Kd.S_keep (qAi.apartS aD.o aC.o (by decide)) hk (fun _ h => h.2)) (fun _ h => h.1)) (a2 (Kd.R_kp (qAi.apart aD.o aI.o (by decide)) hk) (a2 (qAf.blk hk aE.o aQ.o (by simp)) (a2 (qAf.blk hk aG.o aT.o (by simp)) (a2 (hb) (am (hi))))))); clear aA aC aI aE aG HB aD; obtain ⟨aA, aC, aI, aE, aG, HB, aD⟩ := n_)
               go_meet
               case rel => exact ⟨_, (dK == 0), (de), (df), (by rfl), H', ⟨by have := b9.o; have := cI.o; have := bQ.o; have := cv.o; have := bu.o; have := ff.o; (omega)⟩, ⟨by exact aA.o⟩, ⟨by exact aC.o⟩, ⟨by exact aI.o⟩, ⟨by exact aE.o⟩, ⟨by exact aG.o⟩, ⟨by exact aD.o⟩, ⟨by exact HB.o⟩⟩
              case rest =>
               clear dE
               obtain ⟨kq, b1, a5, a6, rfl, HA, eU, aA, aC, aI, aE, aG, aD, HB⟩ := hcut
               cases kq with
               | zero => exact absurd HA.o (by simp [qAc.j6])
               | succ bE =>
                have H := HA.o
                clear HA
                simp only [qAc.j6] at H
                by_cases fm : b1 = true
                ·subst fm
                 replace H : ((qAG.f aN a5 a6).bind fun bP => ((qAG.f aN bP.2.1 bP.2.2).bind fun bB => ((qAk.f aN bB.2.1 bB.2.2).bind fun ap => ((qAx.f aN ap.2.1 ap.2.2 32).bind fun ah => ((qAx.f aN ah.2.1 ah.2.2 32).bind fun a8 => (if aK.length < 2513169434916 then (qAc.l3 bE l0 (wrap64 (aj - 1)) aN a8.2.1 a8.2.2 aR aH aJ (aK ++ [(⟨bP.1, bB.1, wrap64 (ap.1), ah.1, a8.1⟩ : S82)])) else (none))))))) = some (r1, r2, r3, r4, r5) := by rw [if_pos rfl] at H; exact H
                 replace H := bm H
                 obtain ⟨⟨bU, dg, dL⟩, eE, H⟩ := H
                 replace H : ((qAG.f aN dg dL).bind fun bB => ((qAk.f aN bB.2.1 bB.2.2).bind fun ap => ((qAx.f aN ap.2.1 ap.2.2 32).bind fun ah => ((qAx.f aN ah.2.1 ah.2.2 32).bind fun a8 => (if aK.length < 2513169434916 then (qAc.l3 bE l0 (wrap64 (aj - 1)) aN a8.2.1 a8.2.2 aR aH aJ (aK ++ [(⟨bU, bB.1, wrap64 (ap.1), ah.1, a8.1⟩ : S82)])) else (none)))))) = some (r1, r2, r3, r4, r5) := H
                 have gq := am eE
                 clear eE
                 replace H := bm H
                 obtain ⟨⟨bY, dh, dM⟩, eF, H⟩ := H
                 replace H : ((qAk.f aN dh dM).bind fun ap => ((qAx.f aN ap.2.1 ap.2.2 32).bind fun ah => ((qAx.f aN ah.2.1 ah.2.2 32).bind fun a8 => (if aK.length < 2513169434916 then (qAc.l3 bE l0 (wrap64 (aj - 1)) aN a8.2.1 a8.2.2 aR aH aJ (aK ++ [(⟨bU, bY, wrap64 (ap.1), ah.1, a8.1⟩ : S82)])) else (none))))) = some (r1, r2, r3, r4, r5) := H
                 have gr := am eF
                 clear eF
                 replace H := bm H
                 obtain ⟨⟨b6, dN, dO⟩, eG, H⟩ := H
                 replace H : ((qAx.f aN dN dO 32).bind fun ah => ((qAx.f aN ah.2.1 ah.2.2 32).bind fun a8 => (if aK.length < 2513169434916 then (qAc.l3 bE l0 (wrap64 (aj - 1)) aN a8.2.1 a8.2.2 aR aH aJ (aK ++ [(⟨bU, bY, wrap64 (b6), ah.1, a8.1⟩ : S82)])) else (none)))) = some (r1, r2, r3, r4, r5) := H
                 have gs := am eG
                 clear eG
                 replace H := bm H
                 obtain ⟨⟨bg, dP, di⟩, eH, H⟩ := H
                 replace H : ((qAx.f aN dP di 32).bind fun a8 => (if aK.length < 2513169434916 then (qAc.l3 bE l0 (wrap64 (aj - 1)) aN a8.2.1 a8.2.2 aR aH aJ (aK ++ [(⟨bU, bY, wrap64 (b6), bg, a8.1⟩ : S82)])) else (none))) = some (r1, r2, r3, r4, r5) := H
                 have gt := am eH
                 clear eH
                 replace H := bm H
                 obtain ⟨⟨cF, cl, cm⟩, eI, H⟩ := H
                 replace H : (if aK.length < 2513169434916 then (qAc.l3 bE l0 (wrap64 (aj - 1)) aN cl cm aR aH aJ (aK ++ [(⟨bU, bY, wrap64 (b6), bg, cF⟩ : S82)])) else (none)) = some (r1, r2, r3, r4, r5) := H
                 have gu := am eI
                 clear eI
                 obtain ⟨fn, H⟩ := gd H
                 have eY := am fn
                 clear fn
                 obtain ⟨cH, cY⟩ : ∃ y_ : List (S82), y_ = (aK ++ [(⟨bU, bY, wrap64 (b6), bg, cF⟩ : S82)]) := ⟨_, rfl⟩
                 replace H : (qAc.l3 bE l0 (wrap64 (aj - 1)) aN cl cm aR aH aJ cH) = some (r1, r2, r3, r4, r5) := by (rw [cY]; with_reducible exact H)
                 have e1 := am cY
                 clear cY
                 have H' := am H
                 clear H
                 try go_wp2
                 have n_ := a2 (Kd.R_drew aA.o) (a2 (Kd.S_drew aC.o) (a2 (Kd.R_drew aI.o) (a2 (qAU aE.o) (a2 (qAU aG.o) (a2 (qAi.drew aD.o) (am (qBi HB.o)))))))
                 clear aA aC aI aE aG aD HB
                 obtain ⟨aA, aC, aI, aE, aG, aD, HB⟩ := n_
                 refine qCY (n := 18) (S := fun w' => w'.cell? ⟨aY, 0, none⟩ = some (.string aR) ∧ w'.cell? ⟨aY, 1, none⟩ = some (aU) ∧ w'.cell? ⟨aY, 2, none⟩ = some (aV) ∧ w'.cell? ⟨aY, 3, none⟩ = some (ak)) (ds := [17]) (mK 18 0) (by kernel_rfl) rfl rfl (c4_ _ aG.o) (fun hHeld => ?_); refine qB8 qAc.tab22 qAc.bits22 (fun HT_ HW_ => ?_)
                 generalize wc.drew = h6 at aA aC aI aE aG aD HB hHeld ⊢
                 refine pu 0 93 (mK 18 1) (qA8 HT_.o (by kernel_rfl)) ?_
                 refine pu 2 95 (mK 18 5) (qA8 HT_.o (by kernel_rfl)) ?_
                 refine pu 4 97 (mK 18 21) (qA8 HT_.o (by kernel_rfl)) ?_
                 refine pu 6 99 (mK 18 85) (qA8 HT_.o (by kernel_rfl)) ?_
                 refine pu 9 102 (mK 18 597) (qA8 HT_.o (by kernel_rfl)) ?_
                 refine pu 11 104 (mK 18 2645) (qA8 HT_.o (by kernel_rfl)) ?_
                 refine tk 1 94 (mK 18 2647) (qAQ HT_.o HW_.o (by kernel_rfl)) hHeld ?_
                 refine one_ (i := 3) (N := some 96) (mK 18 2655) rfl rfl (qBf HT_.o (by kernel_rfl)) (by decide) (fun K hK => ?_)
                 refine qCy Try.func27 (by kernel_rfl) rfl #[.pointer (some ⟨aW, 0, none⟩)] (by rfl) rfl rfl (by (try simp only [List.map_toArray, List.map_cons, List.map_nil]); (rfl)) ?_
                 with_reducible refine (qAG.calls aW aN a5 a6 bU dg dL w _ ?side1 ?side2 gq.o).mono ?_
                 (case side1 => exact aD.o)
                 (case side2 => exact HB.o)
                 rintro e h7 ⟨rfl, hi, hb, hk⟩
                 refine ⟨_, rfl, ?_⟩
                 have n_ := a2 (Kd.R_kp (qAi.apart aD.o aA.o (by decide)) hk) (a2 (Kd.S_mono (Kd.S_keep (qAi.apartS aD.o aC.o (by decide)) hk (fun _ h => h.2)) (fun _ h => h.1)) (a2 (Kd.R_kp (qAi.apart aD.o aI.o (by decide)) hk) (a2 (qAf.blk hk aE.o aQ.o (by simp)) (a2 (qAf.blk hk aG.o aT.o (by simp)) (a2 (hb) (am (hi)))))))
                 clear aA aC aI aE aG HB aD
                 obtain ⟨aA, aC, aI, aE, aG, HB, aD⟩ := n_
                 (try clear hb)
                 (skip)
                 (try clear hk)
                 (try clear hi)
                 refine hK.o _ _ (c4_ _ aG.o) (fun hHeld => ?_)
                 clear hK K
                 refine nm ?_
                 refine one_ (i := 5) (N := some 98) (mK 18 2687) rfl rfl (qBf HT_.o (by kernel_rfl)) (by decide) (fun K hK => ?_)
                 refine qCy Try.func27 (by kernel_rfl) rfl #[.pointer (some ⟨aW, 0, none⟩)] (by rfl) rfl rfl (by (try simp only [List.map_toArray, List.map_cons, List.map_nil]); (rfl)) ?_
                 with_reducible refine (qAG.calls aW aN dg dL bY dh dM w _ ?side1 ?side2 gr.o).mono ?_
                 (case side1 => exact aD.o)
                 (case side2 => exact HB.o)
                 rintro e h8 ⟨rfl, hi, hb, hk⟩
                 refine ⟨_, rfl, ?_⟩
                 have n_ := a2 (Kd.R_kp (qAi.apart aD.o aA.o (by decide)) hk) (a2 (Kd.S_mono (Kd.S_keep (qAi.apartS aD.o aC.o (by decide)) hk (fun _ h => h.2)) (fun _ h => h.1)) (a2 (Kd.R_kp (qAi.apart aD.o aI.o (by decide)) hk) (a2 (qAf.blk hk aE.o aQ.o (by simp)) (a2 (qAf.blk hk aG.o aT.o (by simp)) (a2 (hb) (am (hi)))))))
                 clear aA aC aI aE aG HB aD
                 obtain ⟨aA, aC, aI, aE, aG, HB, aD⟩ := n_
                 (try clear hb)
                 (skip)
                 (try clear hk)
                 (try clear hi)
                 refine hK.o _ _ (c4_ _ aG.o) (fun hHeld => ?_)
                 clear hK K
                 refine nm ?_
                 refine one_ (i := 7) (N := some 100) (mK 18 2815) rfl rfl (qBf HT_.o (by kernel_rfl)) (by decide) (fun K hK => ?_)
                 refine qCy Try.func20 (by kernel_rfl) rfl #[.pointer (some ⟨aW, 0, none⟩)] (by rfl) rfl rfl (by (try simp only [List.map_toArray, List.map_cons, List.map_nil]); (rfl)) ?_
                 with_reducible refine (qAk.calls aW aN dh dM b6 dN dO w _ ?side1 ?side2 gs.o).mono ?_
                 (case side1 => exact aD.o)
                 (case side2 => exact HB.o)
                 rintro e h9 ⟨rfl, hi, hb, hk⟩
                 refine ⟨_, rfl, ?_⟩
                 have n_ := a2 (Kd.R_kp (qAi.apart aD.o aA.o (by decide)) hk) (a2 (Kd.S_mono (Kd.S_keep (qAi.apartS aD.o aC.o (by decide)) hk (fun _ h => h.2)) (fun _ h => h.1)) (a2 (Kd.R_kp (qAi.apart aD.o aI.o (by decide)) hk) (a2 (qAf.blk hk aE.o aQ.o (by simp)) (a2 (qAf.blk hk aG.o aT.o (by simp)) (a2 (hb) (am (hi)))))))
                 clear aA aC aI aE aG HB aD
                 obtain ⟨aA, aC, aI, aE, aG, HB, aD⟩ := n_
                 (try clear hb)
                 (skip)
                 (try clear hk)
                 (try clear hi)
                 refine hK.o _ _ (c4_ _ aG.o) (fun hHeld => ?_)
                 clear hK K
                 refine nm ?_
                 refine qEk (i := 8) (N := some 101) (v := ?_) (a' := ?_) (mK 18 3071) rfl rfl (qA8 HT_.o (by kernel_rfl)) (fun _ _ _ h => h) (Or.inl ⟨by rfl, ?_⟩) ?_ ?_
                 rotate_left
                 ·intro w'
                  go_simp
                  with_reducible rfl
                 rotate_left
                 ·simp only [Act.put, List.setIfInBounds_toArray, List.set_cons_zero, List.set_cons_succ, i64_w]
                  rfl
                 refine one_ (i := 10) (N := some 103) (mK 18 4095) rfl rfl (qBf HT_.o (by kernel_rfl)) (by decide) (fun K hK => ?_)
                 refine qCy Try.func22 (by kernel_rfl) rfl #[.pointer (some ⟨aW, 0, none⟩), .int .i64 32] (by rfl) rfl rfl (by (try simp only [List.map_toArray, List.map_cons, List.map_nil]); (rfl)) ?_
                 with_reducible refine (qAx.calls aW aN dN dO 32 bg dP di w _ ?side1 ?side2 gt.o).mono ?_
                 (case side1 => exact aD.o)
                 (case side2 => exact HB.o)
                 rintro e ha ⟨rfl, hi, hb, hk⟩
                 refine ⟨_, rfl, ?_⟩
                 have n_ := a2 (Kd.R_kp (qAi.apart aD.o aA.o (by decide)) hk) (a2 (Kd.S_mono (Kd.S_keep (qAi.apartS aD.o aC.o (by decide)) hk (fun _ h => h.2)) (fun _ h => h.1)) (a2 (Kd.R_kp (qAi.apart aD.o aI.o (by decide)) hk) (a2 (qAf.blk hk aE.o aQ.o (by simp)) (a2 (qAf.blk hk aG.o aT.o (by simp)) (a2 (hb) (am (hi)))))))
                 clear aA aC aI aE aG HB aD
                 obtain ⟨aA, aC, aI, aE, aG, HB, aD⟩ := n_
                 (try clear hb)
                 (skip)
                 (try clear hk)
                 (try clear hi)
                 refine hK.o _ _ (c4_ _ aG.o) (fun hHeld => ?_)
                 clear hK K
                 refine nm ?_
                 refine one_ (i := 12) (N := some 105) (mK 18 8191) rfl rfl (qBf HT_.o (by kernel_rfl)) (by decide) (fun K hK => ?_)
                 refine qCy Try.func22 (by kernel_rfl) rfl #[.pointer (some ⟨aW, 0, none⟩), .int .i64 32] (by rfl) rfl rfl (by (try simp only [List.map_toArray, List.map_cons, List.map_nil]); (rfl)) ?_
                 with_reducible refine (qAx.calls aW aN dP di 32 cF cl cm w _ ?side1 ?side2 gu.o).mono ?_
                 (case side1 => exact aD.o)
                 (case side2 => exact HB.o)
                 rintro e hc ⟨rfl, hi, hb, hk⟩
                 refine ⟨_, rfl, ?_⟩
                 have n_ := a2 (Kd.R_kp (qAi.apart aD.o aA.o (by decide)) hk) (a2 (Kd.S_mono (Kd.S_keep (qAi.apartS aD.o aC.o (by decide)) hk (fun _ h => h.2)) (fun _ h => h.1)) (a2 (Kd.R_kp (qAi.apart aD.o aI.o (by decide)) hk) (a2 (qAf.blk hk aE.o aQ.o (by simp)) (a2 (qAf.blk hk aG.o aT.o (by simp)) (a2 (hb) (am (hi)))))))
                 clear aA aC aI aE aG HB aD
                 obtain ⟨aA, aC, aI, aE, aG, HB, aD⟩ := n_
                 (try clear hb)
                 (skip)
                 (try clear hk)
                 (try clear hi)
                 refine hK.o _ _ (c4_ _ aG.o) (fun hHeld => ?_)
                 clear hK K
                 refine nm ?_
                 refine pu 13 106 (mK 18 16383) (qA8 HT_.o (by kernel_rfl)) ?_
                 refine one_ (i := 14) (N := some 107) (mK 18 32767) rfl rfl (qBf HT_.o (by kernel_rfl)) (by decide) (fun K hK => ?_)
                 refine value_ (w1 := ?_) (v := ?_) (by rfl) rfl ?_ ?_
                 rotate_left 2
                 ·go_simp
                  constructor
                  ·rfl
                  rfl
                 refine hK.o _ _ ⟨(qAb (qAE aG.o _) 0).trans rfl, (qAb (qAE aG.o _) 1).trans rfl, (qAb (qAE aG.o _) 2).trans rfl, (qAb (qAE aG.o _) 3).trans rfl⟩ (fun hHeld => ?_)
                 clear hK K
                 refine nm ?_
                 refine one_ (i := 15) (N := some 108) (mK 18 65535) rfl rfl (qBf HT_.o (by kernel_rfl)) (by decide) (fun K hK => ?_)
                 refine Kd.R_append_step k82 (w0 := w) w.heap.size (by rfl) (.tmp 94) (.tmp 107) 25 82 (.agg #[(.int .i64 0), (.int .i64 0), (.int .i64 0), (.string ⟨#[]⟩), (.string ⟨#[]⟩)]) 56 rfl Try.underlying25 info82 rfl (by decide) (by omega) ak aK (⟨bU, bY, wrap64 (b6), bg, cF⟩ : S82) [.int .i64 bU, .int .i64 bY, .int .i64 (wrap64 (b6)), .string bg, .string cF] (fun _ => True) (fun _ => False) rfl rfl ?aP (fun _ hk => hk.elim) ?aF ?aO ?aB ?aS ?aL ?_
                 (case aP => exact k82_mkM _ _ _ (⟨bU, bY, wrap64 (b6), bg, cF⟩ : S82))
                 (case aB => exact HB.o)
                 (case aF => exact (fun _ _ => trivial))
                 (case aO => exact aI.o)
                 (case aS => exact (qAe HB.o))
                 (case aL => have := eY.o; omega)
                 intro hD he ho hb hg es
                 rw [← e1.o] at ho
                 have n_ := a2 (Kd.R_over' aA.o (Kd.R_typed aI.o) (by decide) hg) (a2 (Kd.S_over' aC.o (Kd.R_typed aI.o) (by decide) hg) (a2 (qAH (g := aX) (o := .cells #[.string ⟨#[]⟩, .slice none 0 0, .slice none 0 0, .slice none 0 0] 27 (0, 0)) aE.o hg (Kd.R_ne aI.o aE.o (by decide))) (a2 (qAH (g := aY) (o := .cells #[.string aR, aU, aV, ak] 27 (0, 0)) aG.o hg (Kd.R_ne aI.o aG.o (by decide))) (a2 (qAi.grownR aD.o hg aD.o aI.o (by decide) (fun b_ t_ h_ => h_)) (a2 (hb) (am (ho)))))))
                 clear aA aC aE aG aD HB aI
                 obtain ⟨aA, aC, aE, aG, aD, HB, cy⟩ := n_
                 clear ho hb hg es
                 obtain ⟨c1, ca, gJ⟩ := Kd.R_slice cy.o
                 (subst gJ)
                 refine hK.o _ _ (c4_ _ aG.o) (fun hHeld => ?_)
                 clear hK K
                 refine nm ?_
                 refine pu 16 109 (mK 18 131071) (qA8 HT_.o (by kernel_rfl)) ?_
                 refine last_ (i := 17) (N := none) (mK 18 262143) rfl rfl (qBf HT_.o (by kernel_rfl)) (by decide) (fun K hK => ?_)
                 have hfs84 := qAr aG.o 3
                 refine skip_ (w1 := ?_) (by rfl) rfl ?_ ?_
                 rotate_left
                 ·go_simp
                  rfl
                 refine hK.o _ _ ?_
                 clear hK K
                 refine qE1 (qCk HT_.o (by kernel_rfl)) ?_
                 try go_wp2
                 go_roundg bE
                 case measure => have := b9.o; have := cI.o; have := bQ.o; have := cv.o; have := bu.o; have := ff.o; have := eU.o; omega
                 case rel => exact ⟨(wrap64 (aj - 1)), (cl), (cm), (cH), (.slice c1 cH.length ca), (by rfl), H', ⟨by have := b9.o; have := cI.o; have := bQ.o; have := cv.o; have := bu.o; have := ff.o; have := eU.o; omega⟩, ⟨by exact Kd.R_mono (Kd.R_far (p := ⟨aY, 3, none⟩) (Kd.R_types aA.o aG.o (by decide)) (fun _ hk => hk.2) (.slice c1 cH.length ca)) (fun _ hk => trivial)⟩, ⟨by exact Kd.S_mono (Kd.S_far (p := ⟨aY, 3, none⟩) (Kd.S_types aC.o aG.o (by decide)) (fun _ hk => hk.2) (.slice c1 cH.length ca)) (fun _ hk => trivial)⟩, ⟨by exact Kd.R_mono (Kd.R_far (p := ⟨aY, 3, none⟩) (Kd.R_types cy.o aG.o (by decide)) (fun _ hk => hk.2) (.slice c1 cH.length ca)) (fun _ hk => trivial)⟩, ⟨by refine qAg ?_ ai.o _; exact aE.o⟩, ⟨by refine qAo (cs := #[.string aR, aU, aV, ak]) ?_ 3 _ rfl; exact aG.o⟩, ⟨by repeat (with_reducible first | exact aD.o | refine qAi.far ?_ bC.o (by exact TyB.of aG.o) (by decide) _)⟩, ⟨by repeat (with_reducible first | exact HB.o | refine qAq ?_ bp.o)⟩⟩
                replace fm := Bool.eq_false_iff.mpr fm
                subst fm
                replace H : ((qAN.f aN a5 a6).bind fun cQ => (if cQ.1 = 0 then ((qA9.f aR aH aJ aK).bind fun bG => (if bG.2 = 0 then ((qAu.f bE l0 bG.1).bind fun bT => (if bT = true then (some (aR, aH, aJ, aK, 0)) else (some ((⟨#[]⟩ : ByteArray), ([] : List (S71)), ([] : List (S80)), ([] : List (S82)), 52)))) else (some ((⟨#[]⟩ : ByteArray), ([] : List (S71)), ([] : List (S80)), ([] : List (S82)), 52)))) else (some ((⟨#[]⟩ : ByteArray), ([] : List (S71)), ([] : List (S80)), ([] : List (S82)), 52)))) = some (r1, r2, r3, r4, r5) := by rw [if_neg (show ¬ (false = true) by decide)] at H; exact H
                replace H := bm H
                obtain ⟨⟨b8, bw, bz⟩, eJ, H⟩ := H
                replace H : (if b8 = 0 then ((qA9.f aR aH aJ aK).bind fun bG => (if bG.2 = 0 then ((qAu.f bE l0 bG.1).bind fun bT => (if bT = true then (some (aR, aH, aJ, aK, 0)) else (some ((⟨#[]⟩ : ByteArray), ([] : List (S71)), ([] : List (S80)), ([] : List (S82)), 52)))) else (some ((⟨#[]⟩ : ByteArray), ([] : List (S71)), ([] : List (S80)), ([] : List (S82)), 52)))) else (some ((⟨#[]⟩ : ByteArray), ([] : List (S71)), ([] : List (S80)), ([] : List (S82)), 52))) = some (r1, r2, r3, r4, r5) := H
                have fe := am eJ
                clear eJ
                by_cases e9 : b8 = 0
                rotate_left
                ·rw [if_neg e9] at H
                 have ea : (b8 != 0) = true := bne_iff_ne.mpr e9
                 simp only [Option.some.injEq, Prod.mk.injEq] at H
                 obtain ⟨rfl, rfl, rfl, rfl, rfl⟩ := H
                 go_wp2_with ((with_reducible refine qAp (f := 28) rfl ?_); refine gL 111 Try.func28 #[.pointer (some ⟨aW, 0, none⟩)] ?_; (with_reducible refine (qAN.calls aW aN a5 a6 b8 bw bz w _ ?side1 ?side2 fe.o).mono ?_); (case side1 => exact aD.o); (case side2 => exact HB.o); rintro e g2 ⟨rfl, hi, hb, hk⟩; refine ⟨_, rfl, ?_⟩; have n_ := a2 (qAf.blk hk aE.o aQ.o (by simp)) (am (hb)); clear aA aC aI aE aG HB aD; obtain ⟨aE, HB⟩ := n_; obtain ⟨fR, fS, fT, fU⟩ := c4_ g2 aE.o; obtain ⟨f8, f9, fa, fb⟩ := z4_ aE.o)
                 refine bodyPost_ret (qC7 rfl _ _ aX 27 #[.string ⟨#[]⟩, .slice none 0 0, .slice none 0 0, .slice none 0 0] (0, 0) _ rfl (by refine qAo (cs := #[.string ⟨#[]⟩, .slice none 0 0, .slice none 0 0, .slice none 0 0]) ?_ 3 _ rfl; refine qAo (cs := #[.string ⟨#[]⟩, .slice none 0 0, .slice none 0 0, .slice none 0 0]) ?_ 2 _ rfl; refine qAo (cs := #[.string ⟨#[]⟩, .slice none 0 0, .slice none 0 0, .slice none 0 0]) ?_ 1 _ rfl; refine qAo (cs := #[.string ⟨#[]⟩, .slice none 0 0, .slice none 0 0, .slice none 0 0]) ?_ 0 _ rfl; exact aE.o) Try.underlying27 rfl (by kernel_rfl)) rfl ?_
                 exact ⟨_, _, _, by rfl, by (exact Kd.R_nil _ _ _ _ _), by (exact Kd.S_nil _ _ _ _ _), by (exact Kd.R_nil _ _ _ _ _), by repeat (with_reducible first | exact HB.o | refine qAq ?_ bV.o)⟩
                rw [if_pos e9] at H
                have ea : (b8 != 0) = false := bn e9
                clear e9
                replace H := bm H
                obtain ⟨⟨bS, bo⟩, eK, H⟩ := H
                replace H : (if bo = 0 then ((qAu.f bE l0 bS).bind fun bT => (if bT = true then (some (aR, aH, aJ, aK, 0)) else (some ((⟨#[]⟩ : ByteArray), ([] : List (S71)), ([] : List (S80)), ([] : List (S82)), 52)))) else (some ((⟨#[]⟩ : ByteArray), ([] : List (S71)), ([] : List (S80)), ([] : List (S82)), 52))) = some (r1, r2, r3, r4, r5) := H
                have fv := am eK
                clear eK
                by_cases eb : bo = 0
                rotate_left
                ·rw [if_neg eb] at H
                 have ec : (bo != 0) = true := bne_iff_ne.mpr eb
                 simp only [Option.some.injEq, Prod.mk.injEq] at H
                 obtain ⟨rfl, rfl, rfl, rfl, rfl⟩ := H
                 go_wp2_with (first | ((with_reducible refine qAp (f := 28) rfl ?_); refine gL 111 Try.func28 #[.pointer (some ⟨aW, 0, none⟩)] ?_; (with_reducible refine (qAN.calls aW aN a5 a6 b8 bw bz w _ ?side1 ?side2 fe.o).mono ?_); (case side1 => exact aD.o); (case side2 => exact HB.o); rintro e g0 ⟨rfl, hi, hb, hk⟩; refine ⟨_, rfl, ?_⟩; have n_ := a2 (Kd.R_kp (qAi.apart aD.o aA.o (by decide)) hk) (a2 (Kd.S_mono (Kd.S_keep (qAi.apartS aD.o aC.o (by decide)) hk (fun _ h => h.2)) (fun _ h => h.1)) (a2 (Kd.R_kp (qAi.apart aD.o aI.o (by decide)) hk) (a2 (qAf.blk hk aE.o aQ.o (by simp)) (a2 (qAf.blk hk aG.o aT.o (by simp)) (a2 (hb) (am (hi))))))); clear aA aC aI aE aG HB aD; obtain ⟨aA, aC, aI, aE, aG, HB, aD⟩ := n_; obtain ⟨fJ, fK, fL, fM⟩ := c4_ g0 aG.o; obtain ⟨eN, ee, ep⟩ := Kd.R_slice aA.o; subst ep; obtain ⟨eO, ef, eq⟩ := Kd.S_slice aC.o; subst eq; obtain ⟨eP, eg, er⟩ := Kd.R_slice aI.o; subst er) | ((with_reducible refine qAp (f := 9) rfl ?_); refine gL 116 Try.func9 #[.agg #[.string aR, .slice eN aH.length ee, .slice eO aJ.length ef, .slice eP aK.length eg]] ?_; (with_reducible refine (qA9.calls aR _ _ aH _ _ aJ _ _ aK bS bo _ ?side1 ?side2 ?side3 ?side4 ?side5 ?side6 fv.o).mono ?_); (case side1 => exact (Kd.R_reads' aA.o).2.2); (case side2 => exact (Kd.R_reads' aA.o).2.1); (case side3 => exact (Kd.S_reads' aC.o).2.2); (case side4 => exact (Kd.S_reads' aC.o).2.1); (case side5 => exact (Kd.R_reads' aI.o).2.2); (case side6 => exact (Kd.R_reads' aI.o).2.1); rintro e g1 ⟨fc, rfl, cU, hb⟩; refine ⟨_, rfl, ?_⟩; have n_ := a2 (qAd aE.o hb) (am (qAj HB.o hb)); clear aA aC aI aE aG aD HB; obtain ⟨aE, HB⟩ := n_; obtain ⟨fN, fO, fP, fQ⟩ := c4_ g1 aE.o; obtain ⟨f3, f4, f5, f6⟩ := z4_ aE.o))
                 refine bodyPost_ret (qC7 rfl _ _ aX 27 #[.string ⟨#[]⟩, .slice none 0 0, .slice none 0 0, .slice none 0 0] (0, 0) _ rfl (by refine qAo (cs := #[.string ⟨#[]⟩, .slice none 0 0, .slice none 0 0, .slice none 0 0]) ?_ 3 _ rfl; refine qAo (cs := #[.string ⟨#[]⟩, .slice none 0 0, .slice none 0 0, .slice none 0 0]) ?_ 2 _ rfl; refine qAo (cs := #[.string ⟨#[]⟩, .slice none 0 0, .slice none 0 0, .slice none 0 0]) ?_ 1 _ rfl; refine qAo (cs := #[.string ⟨#[]⟩, .slice none 0 0, .slice none 0 0, .slice none 0 0]) ?_ 0 _ rfl; exact aE.o) Try.underlying27 rfl (by kernel_rfl)) rfl ?_
                 exact ⟨_, _, _, by rfl, by (exact Kd.R_nil _ _ _ _ _), by (exact Kd.S_nil _ _ _ _ _), by (exact Kd.R_nil _ _ _ _ _), by repeat (with_reducible first | exact HB.o | refine qAq ?_ bV.o)⟩
                rw [if_pos eb] at H
                have ec : (bo != 0) = false := bn eb
                clear eb
                replace H := bm H
                obtain ⟨bT, eL, H⟩ := H
                replace H : (if bT = true then (some (aR, aH, aJ, aK, 0)) else (some ((⟨#[]⟩ : ByteArray), ([] : List (S71)), ([] : List (S80)), ([] : List (S82)), 52))) = some (r1, r2, r3, r4, r5) := H
                have g6 := am eL
                clear eL
                by_cases fo : bT = true
                rotate_left
                ·replace fo := Bool.eq_false_iff.mpr fo
                 subst fo
                 replace H : (some ((⟨#[]⟩ : ByteArray), ([] : List (S71)), ([] : List (S80)), ([] : List (S82)), 52)) = some (r1, r2, r3, r4, r5) := by rw [if_neg (show ¬ (false = true) by decide)] at H; exact H
                 simp only [Option.some.injEq, Prod.mk.injEq] at H
                 obtain ⟨rfl, rfl, rfl, rfl, rfl⟩ := H
                 go_wp2_with (first | ((with_reducible refine qAp (f := 28) rfl ?_); refine gL 111 Try.func28 #[.pointer (some ⟨aW, 0, none⟩)] ?_; (with_reducible refine (qAN.calls aW aN a5 a6 b8 bw bz w _ ?side1 ?side2 fe.o).mono ?_); (case side1 => exact aD.o); (case side2 => exact HB.o); rintro e gZ ⟨rfl, hi, hb, hk⟩; refine ⟨_, rfl, ?_⟩; have n_ := a2 (Kd.R_kp (qAi.apart aD.o aA.o (by decide)) hk) (a2 (Kd.S_mono (Kd.S_keep (qAi.apartS aD.o aC.o (by decide)) hk (fun _ h => h.2)) (fun _ h => h.1)) (a2 (Kd.R_kp (qAi.apart aD.o aI.o (by decide)) hk) (a2 (qAf.blk hk aE.o aQ.o (by simp)) (a2 (qAf.blk hk aG.o aT.o (by simp)) (a2 (hb) (am (hi))))))); clear aA aC aI aE aG HB aD; obtain ⟨aA, aC, aI, aE, aG, HB, aD⟩ := n_; obtain ⟨fB, fC, fD, fE⟩ := c4_ gZ aG.o; obtain ⟨cJ, cR, el⟩ := Kd.R_slice aA.o; subst el; obtain ⟨cK, cS, em⟩ := Kd.S_slice aC.o; subst em; obtain ⟨cL, cT, en⟩ := Kd.R_slice aI.o; subst en) | ((with_reducible refine qAp (f := 9) rfl ?_); refine gL 116 Try.func9 #[.agg #[.string aR, .slice cJ aH.length cR, .slice cK aJ.length cS, .slice cL aK.length cT]] ?_; (with_reducible refine (qA9.calls aR _ _ aH _ _ aJ _ _ aK bS bo _ ?side1 ?side2 ?side3 ?side4 ?side5 ?side6 fv.o).mono ?_); (case side1 => exact (Kd.R_reads' aA.o).2.2); (case side2 => exact (Kd.R_reads' aA.o).2.1); (case side3 => exact (Kd.S_reads' aC.o).2.2); (case side4 => exact (Kd.S_reads' aC.o).2.1); (case side5 => exact (Kd.R_reads' aI.o).2.2); (case side6 => exact (Kd.R_reads' aI.o).2.1); rintro e bI ⟨fc, rfl, cU, hb⟩; refine ⟨_, rfl, ?_⟩; have n_ := a2 (Kd.R_below aA.o hb) (a2 (Kd.S_below aC.o hb) (a2 (Kd.R_below aI.o hb) (a2 (Kd.R_lower cU (qAe HB.o)) (a2 (qAd aE.o hb) (a2 (qAd aG.o hb) (a2 (qAi.below aD.o hb) (am (qAj HB.o hb)))))))); clear aA aC aI aE aG aD HB; obtain ⟨aA, aC, aI, az, aE, aG, aD, HB⟩ := n_; obtain ⟨eM, ed, eo⟩ := Kd.R_slice az.o; subst eo) | (go_at_call 29; (with_reducible refine (qAu.calls bE _ _ l0 _ _ bS false _ ?side1 ?side2 ?side3 ?side4 g6.o).mono ?_); (case side1 => exact (Kd.C_below fz.o HB.o)); (case side2 => exact fy.o); (case side3 => exact (Kd.R_reads' az.o).2.2); (case side4 => exact (Kd.R_reads' az.o).2.1); rintro e w' ⟨rfl, ⟨nd, rfl⟩⟩; (try (rw [drewN_self bI]; generalize hq_ : World.drewN bI _ = bI; have n0_ : qAa (Kd.R (Kd.int .u8) 5 bI w.heap.size (fun _ => True) (.slice eM bS.length ed) bS) := ⟨by rw [← hq_]; exact (by (with_reducible repeat (apply Kd.R_drewN)); exact az.o)⟩; have n1_ : qAa (Kd.R k71 71 bI w.heap.size (fun _ => True) (.slice cJ aH.length cR) aH) := ⟨by rw [← hq_]; exact (by (with_reducible repeat (apply Kd.R_drewN)); exact aA.o)⟩; have n2_ : qAa (Kd.S k80 80 bI w.heap.size (fun _ => True) (.slice cK aJ.length cS) aJ) := ⟨by rw [← hq_]; exact (by (with_reducible repeat (apply Kd.S_drewN)); exact aC.o)⟩; have n3_ : qAa (Kd.R k82 82 bI w.heap.size (fun _ => True) (.slice cL aK.length cT) aK) := ⟨by rw [← hq_]; exact (by (with_reducible repeat (apply Kd.R_drewN)); exact aI.o)⟩; have n4_ : qAa (bI.heap[aX]? = some (.cells #[.string ⟨#[]⟩, .slice none 0 0, .slice none 0 0, .slice none 0 0] 27 (0, 0))) := ⟨by rw [← hq_]; exact (by (with_reducible repeat (refine qBK ?_ _)); exact aE.o)⟩; have n5_ : qAa (bI.heap[aY]? = some (.cells #[.string aR, .slice cJ aH.length cR, .slice cK aJ.length cS, .slice cL aK.length cT] 27 (0, 0))) := ⟨by rw [← hq_]; exact (by (with_reducible repeat (refine qBK ?_ _)); exact aG.o)⟩; have n6_ : qAa (qAi w bI aW aN bw bz) := ⟨by rw [← hq_]; exact (by repeat (with_reducible first | exact aD.o | apply qAi.drewN))⟩; have n7_ : qAa (Below w.heap.size w bI) := ⟨by rw [← hq_]; exact (by repeat (with_reducible first | exact HB.o | apply qA4))⟩; clear az aA aC aI aE aG aD HB hq_; have aE := n4_; have HB := n7_; clear n0_ n1_ n2_ n3_ n4_ n5_ n6_ n7_)); obtain ⟨fF, fG, fH, fI⟩ := c4_ bI aE.o; obtain ⟨fZ, f0, f1, f2⟩ := z4_ aE.o))
                 refine bodyPost_ret (qC7 rfl _ _ aX 27 #[.string ⟨#[]⟩, .slice none 0 0, .slice none 0 0, .slice none 0 0] (0, 0) _ rfl (by refine qAo (cs := #[.string ⟨#[]⟩, .slice none 0 0, .slice none 0 0, .slice none 0 0]) ?_ 3 _ rfl; refine qAo (cs := #[.string ⟨#[]⟩, .slice none 0 0, .slice none 0 0, .slice none 0 0]) ?_ 2 _ rfl; refine qAo (cs := #[.string ⟨#[]⟩, .slice none 0 0, .slice none 0 0, .slice none 0 0]) ?_ 1 _ rfl; refine qAo (cs := #[.string ⟨#[]⟩, .slice none 0 0, .slice none 0 0, .slice none 0 0]) ?_ 0 _ rfl; exact aE.o) Try.underlying27 rfl (by kernel_rfl)) rfl ?_
                 exact ⟨_, _, _, by rfl, by (exact Kd.R_nil _ _ _ _ _), by (exact Kd.S_nil _ _ _ _ _), by (exact Kd.R_nil _ _ _ _ _), by repeat (with_reducible first | exact HB.o | refine qAq ?_ bV.o)⟩
                subst fo
                replace H : (some (aR, aH, aJ, aK, 0)) = some (r1, r2, r3, r4, r5) := by rw [if_pos rfl] at H; exact H
                simp only [Option.some.injEq, Prod.mk.injEq] at H
                obtain ⟨rfl, rfl, rfl, rfl, rfl⟩ := H
                go_wp2_with (first | ((with_reducible refine qAp (f := 28) rfl ?_); refine gL 111 Try.func28 #[.pointer (some ⟨aW, 0, none⟩)] ?_; (with_reducible refine (qAN.calls aW aN a5 a6 b8 bw bz w _ ?side1 ?side2 fe.o).mono ?_); (case side1 => exact aD.o); (case side2 => exact HB.o); rintro e hI ⟨rfl, hi, hb, hk⟩; refine ⟨_, rfl, ?_⟩; have n_ := a2 (Kd.R_kp (qAi.apart aD.o aA.o (by decide)) hk) (a2 (Kd.S_mono (Kd.S_keep (qAi.apartS aD.o aC.o (by decide)) hk (fun _ h => h.2)) (fun _ h => h.1)) (a2 (Kd.R_kp (qAi.apart aD.o aI.o (by decide)) hk) (a2 (qAf.blk hk aE.o aQ.o (by simp)) (a2 (qAf.blk hk aG.o aT.o (by simp)) (a2 (hb) (am (hi))))))); clear aA aC aI aE aG HB aD; obtain ⟨aA, aC, aI, aE, aG, HB, aD⟩ := n_; obtain ⟨fp, fq, fr, fs⟩ := c4_ hI aG.o; obtain ⟨bW, bX, gK⟩ := Kd.R_slice aA.o; subst gK; obtain ⟨b2, b5, gM⟩ := Kd.S_slice aC.o; subst gM; obtain ⟨ba, bb, gN⟩ := Kd.R_slice aI.o; subst gN) | ((with_reducible refine qAp (f := 9) rfl ?_); refine gL 116 Try.func9 #[.agg #[.string aR, .slice bW aH.length bX, .slice b2 aJ.length b5, .slice ba aK.length bb]] ?_; (with_reducible refine (qA9.calls aR _ _ aH _ _ aJ _ _ aK bS bo _ ?side1 ?side2 ?side3 ?side4 ?side5 ?side6 fv.o).mono ?_); (case side1 => exact (Kd.R_reads' aA.o).2.2); (case side2 => exact (Kd.R_reads' aA.o).2.1); (case side3 => exact (Kd.S_reads' aC.o).2.2); (case side4 => exact (Kd.S_reads' aC.o).2.1); (case side5 => exact (Kd.R_reads' aI.o).2.2); (case side6 => exact (Kd.R_reads' aI.o).2.1); rintro e cG ⟨fc, rfl, cU, hb⟩; refine ⟨_, rfl, ?_⟩; have n_ := a2 (Kd.R_below aA.o hb) (a2 (Kd.S_below aC.o hb) (a2 (Kd.R_below aI.o hb) (a2 (Kd.R_lower cU (qAe HB.o)) (a2 (qAd aE.o hb) (a2 (qAd aG.o hb) (a2 (qAi.below aD.o hb) (am (qAj HB.o hb)))))))); clear aA aC aI aE aG aD HB; obtain ⟨aA, aC, aI, az, aE, aG, aD, HB⟩ := n_; obtain ⟨fx, gC, gO⟩ := Kd.R_slice az.o; subst gO) | (go_at_call 29; (with_reducible refine (qAu.calls bE _ _ l0 _ _ bS true _ ?side1 ?side2 ?side3 ?side4 g6.o).mono ?_); (case side1 => exact (Kd.C_below fz.o HB.o)); (case side2 => exact fy.o); (case side3 => exact (Kd.R_reads' az.o).2.2); (case side4 => exact (Kd.R_reads' az.o).2.1); rintro e w' ⟨rfl, ⟨nd, rfl⟩⟩; (try (rw [drewN_self cG]; generalize hq_ : World.drewN cG _ = cG; have n0_ : qAa (Kd.R (Kd.int .u8) 5 cG w.heap.size (fun _ => True) (.slice fx bS.length gC) bS) := ⟨by rw [← hq_]; exact (by (with_reducible repeat (apply Kd.R_drewN)); exact az.o)⟩; have n1_ : qAa (Kd.R k71 71 cG w.heap.size (fun _ => True) (.slice bW aH.length bX) aH) := ⟨by rw [← hq_]; exact (by (with_reducible repeat (apply Kd.R_drewN)); exact aA.o)⟩; have n2_ : qAa (Kd.S k80 80 cG w.heap.size (fun _ => True) (.slice b2 aJ.length b5) aJ) := ⟨by rw [← hq_]; exact (by (with_reducible repeat (apply Kd.S_drewN)); exact aC.o)⟩; have n3_ : qAa (Kd.R k82 82 cG w.heap.size (fun _ => True) (.slice ba aK.length bb) aK) := ⟨by rw [← hq_]; exact (by (with_reducible repeat (apply Kd.R_drewN)); exact aI.o)⟩; have n4_ : qAa (cG.heap[aX]? = some (.cells #[.string ⟨#[]⟩, .slice none 0 0, .slice none 0 0, .slice none 0 0] 27 (0, 0))) := ⟨by rw [← hq_]; exact (by (with_reducible repeat (refine qBK ?_ _)); exact aE.o)⟩; have n5_ : qAa (cG.heap[aY]? = some (.cells #[.string aR, .slice bW aH.length bX, .slice b2 aJ.length b5, .slice ba aK.length bb] 27 (0, 0))) := ⟨by rw [← hq_]; exact (by (with_reducible repeat (refine qBK ?_ _)); exact aG.o)⟩; have n6_ : qAa (qAi w cG aW aN bw bz) := ⟨by rw [← hq_]; exact (by repeat (with_reducible first | exact aD.o | apply qAi.drewN))⟩; have n7_ : qAa (Below w.heap.size w cG) := ⟨by rw [← hq_]; exact (by repeat (with_reducible first | exact HB.o | apply qA4))⟩; clear az aA aC aI aE aG aD HB hq_; have aA := n1_; have aC := n2_; have aI := n3_; have aE := n4_; have aG := n5_; have HB := n7_; clear n0_ n1_ n2_ n3_ n4_ n5_ n6_ n7_)); obtain ⟨et, eu, ev, ew⟩ := c4_ cG aG.o; obtain ⟨ex, ey, ez, fA⟩ := c4_ cG aE.o; obtain ⟨fV, fW, fX, fY⟩ := z4_ aE.o))
                refine bodyPost_ret (qC7 rfl _ _ aX 27 #[.string aR, .slice bW aH.length bX, .slice b2 aJ.length b5, .slice ba aK.length bb] (0, 0) _ rfl (by refine qAo (cs := #[.string aR, .slice bW aH.length bX, .slice b2 aJ.length b5, .slice none 0 0]) ?_ 3 _ rfl; refine qAo (cs := #[.string aR, .slice bW aH.length bX, .slice none 0 0, .slice none 0 0]) ?_ 2 _ rfl; refine qAo (cs := #[.string aR, .slice none 0 0, .slice none 0 0, .slice none 0 0]) ?_ 1 _ rfl; refine qAo (cs := #[.string ⟨#[]⟩, .slice none 0 0, .slice none 0 0, .slice none 0 0]) ?_ 0 _ rfl; exact aE.o) Try.underlying27 rfl (by kernel_rfl)) rfl ?_
                exact ⟨_, _, _, by rfl, by exact Kd.R_mono (Kd.R_far (p := ⟨aX, 3, none⟩) (Kd.R_far (p := ⟨aX, 2, none⟩) (Kd.R_far (p := ⟨aX, 1, none⟩) (Kd.R_far (p := ⟨aX, 0, none⟩) (Kd.R_types aA.o aE.o (by decide)) (fun _ hk => hk.2) (.string aR)) (fun _ hk => hk.2) (.slice bW aH.length bX)) (fun _ hk => hk.2) (.slice b2 aJ.length b5)) (fun _ hk => hk.2) (.slice ba aK.length bb)) (fun _ hk => trivial), by exact Kd.S_mono (Kd.S_far (p := ⟨aX, 3, none⟩) (Kd.S_far (p := ⟨aX, 2, none⟩) (Kd.S_far (p := ⟨aX, 1, none⟩) (Kd.S_far (p := ⟨aX, 0, none⟩) (Kd.S_types aC.o aE.o (by decide)) (fun _ hk => hk.2) (.string aR)) (fun _ hk => hk.2) (.slice bW aH.length bX)) (fun _ hk => hk.2) (.slice b2 aJ.length b5)) (fun _ hk => hk.2) (.slice ba aK.length bb)) (fun _ hk => trivial), by exact Kd.R_mono (Kd.R_far (p := ⟨aX, 3, none⟩) (Kd.R_far (p := ⟨aX, 2, none⟩) (Kd.R_far (p := ⟨aX, 1, none⟩) (Kd.R_far (p := ⟨aX, 0, none⟩) (Kd.R_types aI.o aE.o (by decide)) (fun _ hk => hk.2) (.string aR)) (fun _ hk => hk.2) (.slice bW aH.length bX)) (fun _ hk => hk.2) (.slice b2 aJ.length b5)) (fun _ hk => hk.2) (.slice ba aK.length bb)) (fun _ hk => trivial), by repeat (with_reducible first | exact HB.o | refine qAq ?_ bV.o)⟩
end Q
end
end Go.Proofs.Ytfjpnjbinbhcfaa
