/- CodeShapes, where what it reads is of bulk at most 1048576: any place of any function: the program's Shape and the document's tell the same stack, the same count of tries, and whether it is come to. -/
import Derived.Test.YtfddibbignedkaaGreatDoorW1
import Derived.Test.YtfddibbignedkaaGreatDoorCards
import Derived.Test.YtfddibbignedkaaGreatDoorTie
import Derived.WalkKit
import Derived.ProofKit
import Derived.OpenShut
import Derived.ShutString
import Derived.Below
import Derived.LaidMore
import Derived.Lay
import Derived.SevenTiedAt
import Derived.Stop.Joined
import Derived.MakeChecks
import Derived.JoinedCond
import Derived.Deep.DeepHandedRow
set_option maxHeartbeats 8000000
set_option maxRecDepth 100000
set_option linter.unusedVariables false
set_option linter.unusedSimpArgs false
namespace Go.Proofs.YtfddibbignedkaaGreatDoor
section
namespace Q
open Go.RowKit YA YB YC
open Val Ins
def qBo (R : Option (List S113) × Int × Int) (at_ : Int) : List Int × Int × Bool :=
 match R.1 with
 | none => ([], 0, false)
 | some out => if 0 ≤ at_ ∧ at_ < out.length ∧ (qAl out at_).f0 = true then ((qAl out at_).f1, ((qAl out at_).f2.length : Int), true) else ([], 0, false)
theorem qDt (ps : List Int) (res : Int) (ls : List Int) (code : List S51) (fs : List S34) (vs : List Int) : ((qAE ps res ls code fs vs).1 = none ∧ (qAE ps res ls code fs vs).2.2 ≠ 0) ∨ ∃ out, qAE ps res ls code fs vs = (some out, 0, 0) := by
 by_cases h : (qAE ps res ls code fs vs).2.2 = 0
 rotate_left
 ·exact .inl ⟨(One.shapes_err h).1, h⟩
 obtain ⟨R, hR⟩ := One.shapes_zero h
 exact .inr ⟨R, hR.eq⟩
theorem shape_any {W : World} (A1 A2 A3 A4 A5 : Option Addr) (c1 c2 c3 c4 c5 : Nat) (res at_ : Int) {ps ls vs : List Int} {fs : List S34} {code : List S51} {okF : Nat → Prop} (hP : Kd.F (Kd.int .i64) W okF A1 ps.length ps) (hL : Kd.F (Kd.int .i64) W okF A2 ls.length ls) (hC : Kd.F k51 W okF A3 code.length code) (hF : Kd.F k34 W okF A4 fs.length fs) (hV : Kd.F (Kd.int .i64) W okF A5 vs.length vs) (hc1 : ps.length ≤ c1) (hc2 : ls.length ≤ c2)
  (hp1 : ps.length ≤ 2000000) (hl1 : ls.length ≤ 2000000) (hv1 : vs.length ≤ 2000000) (hf1 : fs.length ≤ 2000000) (hn3 : code.length ≤ 2000000) (hfs : ∀ x ∈ fs, x.f0.length ≤ 2000000) (hu : ∀ x ∈ code, u64S x = true) :
  Calls Tryz.prog 27 #[.agg #[.slice A1 ps.length c1, .int .i64 res, .slice A2 ls.length c2, .slice A3 code.length c3], .agg #[.slice A4 fs.length c4, .slice A5 vs.length c5], .int .i64 at_] W fun e w' => ∃ v, e = .returned (.tuple #[v, .int .i64 (qBo (qAE ps res ls code fs vs) at_).2.1, .bool (qBo (qAE ps res ls code fs vs) at_).2.2]) ∧ Kd.R (Kd.int .i64) 3 w' W.heap.size (fun _ => True) v (qBo (qAE ps res ls code fs vs) at_).1 ∧ Below W.heap.size W w' := by
 have hBB : Below W.heap.size W ((W.alloc (.cells #[.slice A1 ps.length c1, .int .i64 res, .slice A2 ls.length c2, .slice A3 code.length c3] 37)).alloc (.cells #[.slice A4 fs.length c4, .slice A5 vs.length c5] 41)) := ((Below.refl _ _).alloc (Nat.le_refl _) _).alloc (by simp) _
 have hs := fun W' (hW' : Below W.heap.size W W') => shapes_any (W := W') A1 A2 A3 A4 A5 c1 c2 c3 c4 c5 res (Kd.F_below hP hW') (Kd.F_below hL hW') (Kd.F_below hC hW') (Kd.F_below hF hW') (Kd.F_below hV hW') hc1 hc2 hp1 hl1 hv1 hf1 hn3 hfs hu
 have hor := qDt ps res ls code fs vs
 have hlen : ∀ out, qAE ps res ls code fs vs = (some out, 0, 0) → out.length ≤ 2000000 := fun out ho => by
  obtain ⟨R, hR⟩ := One.shapes_zero (ps := ps) (res := res) (ls := ls) (code := code) (fs := fs) (vs := vs) (by rw [ho])
  have := hR.eq
  rw [ho] at this
  injection this with this _
  injection this with this
  rw [this, hR.len]; exact hn3
 have hst : ∀ out, qAE ps res ls code fs vs = (some out, 0, 0) → ∀ i : Int, 0 ≤ i → i < out.length → (qAl out i).f1.length ≤ 2000000 := fun out ho i h0 h1 => by
  obtain ⟨R, hR⟩ := One.shapes_zero (ps := ps) (res := res) (ls := ls) (code := code) (fs := fs) (vs := vs) (by rw [ho])
  have := hR.eq
  rw [ho] at this
  injection this with this _
  injection this with this
  subst this
  have hm : qAl out i ∈ out := by
   unfold qAl
   rw [List.getD_eq_getElem?_getD, List.getElem?_eq_getElem (by omega)]
   exact List.getElem_mem _
  have := (hR.sh _ hm).1
  omega
 obtain ⟨RR, hRR⟩ : ∃ RR, RR = qAE ps res ls code fs vs := ⟨_, rfl⟩
 rw [← hRR] at hs hor hlen hst ⊢
 obtain ⟨q1, hq1⟩ : ∃ q, q = ps.length := ⟨_, rfl⟩
 obtain ⟨q2, hq2⟩ : ∃ q, q = ls.length := ⟨_, rfl⟩
 obtain ⟨q3, hq3⟩ : ∃ q, q = code.length := ⟨_, rfl⟩
 obtain ⟨q4, hq4⟩ : ∃ q, q = fs.length := ⟨_, rfl⟩
 obtain ⟨q5, hq5⟩ : ∃ q, q = vs.length := ⟨_, rfl⟩
 rw [← hq1, ← hq2, ← hq3, ← hq4, ← hq5] at hs hBB ⊢
 have HS := am hs
 have HBB := am hBB
 clear hP hL hC hF hV hc1 hc2 hp1 hl1 hv1 hf1 hn3 hfs hu hRR hs hBB hq1 hq2 hq3 hq4 hq5
 rcases hor with ⟨hno, hne⟩ | ⟨out, hout⟩
 ·have hq : (RR.2.2 != 0) = true := bne_iff_ne.mpr hne
  have hA : qBo RR at_ = ([], 0, false) := by unfold qBo; rw [hno]
  rw [hA]
  have HNO := am hno
  clear hno hlen hst hA
  obtain ⟨er, her⟩ : ∃ er, er = RR.2.2 := ⟨_, rfl⟩
  go_enter Tryz.func27, Tryz.ntmps27
  go_wp2_with (go_at_call 41; refine (HS.out _ HBB.out).mono ?_; rintro e w1 ⟨v, rfl, _, hn, hb⟩; obtain rfl := hn HNO.out; clear hn; have HB1 : qAc (Below W.heap.size W w1) := ⟨HBB.out.trans (hb.mono HBB.out.size)⟩; clear hb)
  go_ret3
  exact ⟨_, rfl, Kd.R_nil _ _ _ _ _, HB1.out⟩
 ·skip
  have hst1 := hst out hout
  clear hst
  clear hlen
  subst hout
  have hA : qBo (some out, 0, 0) at_ = if 0 ≤ at_ ∧ at_ < out.length ∧ (qAl out at_).f0 = true then ((qAl out at_).f1, ((qAl out at_).f2.length : Int), true) else ([], 0, false) := rfl
  rw [hA]
  clear hA
  by_cases h0 : at_ < 0
  ·rw [if_neg (by omega)]
   clear hst1
   go_enter Tryz.func27, Tryz.ntmps27
   go_wp2_with (go_at_call 41; refine (HS.out _ HBB.out).mono ?_; rintro e w1 ⟨v, rfl, _, _, hb⟩; have HB1 : qAc (Below W.heap.size W w1) := ⟨HBB.out.trans (hb.mono HBB.out.size)⟩; clear hb)
   go_ret3
   exact ⟨_, rfl, Kd.R_nil _ _ _ _ _, HB1.out⟩
  by_cases h1 : (out.length : Int) ≤ at_
  ·rw [if_neg (by omega)]
   clear hst1
   go_enter Tryz.func27, Tryz.ntmps27
   go_wp2_with (go_at_call 41; refine (HS.out _ HBB.out).mono ?_; rintro e w1 ⟨v, rfl, hn, _, hb⟩; have HB1 : qAc (Below W.heap.size W w1) := ⟨HBB.out.trans (hb.mono HBB.out.size)⟩; clear hb; obtain ⟨A, c, rfl, hac, hCC⟩ := Kd.N_reads (hn out rfl); clear hn hCC)
   go_ret3
   exact ⟨_, rfl, Kd.R_nil _ _ _ _ _, HB1.out⟩
  have hst := hst1 at_ (by omega) (by omega)
  clear hst1
  obtain ⟨x, hx⟩ : ∃ x, x = qAl out at_ := ⟨_, rfl⟩
  rw [← hx] at hst ⊢
  have hat := fun (w1 : World) (A : Option Addr) (hCC : Kd.C k113 w1 A out.length out) => at_T113 hCC at_ (by omega) (by omega)
  rw [← hx] at hat
  clear hx
  have HAT := am hat
  obtain ⟨n, hn⟩ : ∃ n, n = out.length := ⟨_, rfl⟩
  have h2 : at_ < (n : Int) := by omega
  rw [← hn] at HAT h1 ⊢
  have HN := am hn
  have h3 : 0 ≤ at_ := by omega
  have HST := am hst
  clear hst hat hn
  cases hm : x.f0 with
  | false =>
   rw [if_neg (by simp)]
   have HM := am hm
   clear hm
   go_enter Tryz.func27, Tryz.ntmps27
   go_wp2_with (go_at_call 41; refine (HS.out _ HBB.out).mono ?_; rintro e w1 ⟨v, rfl, hn, _, hb⟩; have HB1 : qAc (Below W.heap.size W w1) := ⟨HBB.out.trans (hb.mono HBB.out.size)⟩; clear hb; obtain ⟨A, c, rfl, hac, hCC⟩ := Kd.N_reads (hn out rfl); clear hn; obtain ⟨ad, A1, c1, A2, c2, rfl, k0, k1, k2, _⟩ := HAT.out w1 A (by rw [HN.out]; exact hCC); rw [HM.out] at k0; rw [← HN.out]; clear hCC)
   go_ret3
   exact ⟨_, rfl, Kd.R_nil _ _ _ _ _, HB1.out⟩
  | true =>
   rw [if_pos ⟨h3, h2, rfl⟩]
   have HM := am hm
   clear hm
   go_enter Tryz.func27, Tryz.ntmps27
   go_wp2_with ((go_at_call 41; refine (HS.out _ HBB.out).mono ?_; rintro e w1 ⟨v, rfl, hn, _, hb⟩; have HB1 : qAc (Below W.heap.size W w1) := ⟨HBB.out.trans (hb.mono HBB.out.size)⟩; clear hb; obtain ⟨A, c, rfl, hac, hCC⟩ := Kd.N_reads (hn out rfl); clear hn; obtain ⟨ad, A1, c1, A2, c2, rfl, k0, k1, k2, hl1, hC1, _⟩ := HAT.out w1 A (by rw [HN.out]; exact hCC); rw [HM.out] at k0; rw [← HN.out]; clear hCC; have HC1 := am hC1; clear hC1))
   go_region_held3 (fun W' => W'.cell? ⟨(ad.add (at_.toNat * 3)).block, (ad.add (at_.toNat * 3)).off + 1, none⟩ = some (.slice A1 x.f1.length c1) ∧ W'.cell? ⟨(ad.add (at_.toNat * 3)).block, (ad.add (at_.toNat * 3)).off + 2, none⟩ = some (.slice A2 x.f2.length c2))
    (first | go_keep | exact ⟨(hb2.cell (World.block_lt_of_cell? _ _ k1)).trans k1, (hb2.cell (World.block_lt_of_cell? _ _ k2)).trans k2⟩)
    ((go_at_call 54; refine (qCr A1 c1 x.f1 _ (Kd.C_drew HC1.out) HST.out).mono ?_; rintro e w2 ⟨v2, rfl, hR2, hb2⟩; have HR2 := am hR2; clear hR2))
   all_goals go_wp2_with fail
   all_goals go_ret3
   all_goals exact ⟨_, rfl, Kd.R_lower HR2.out HB1.out.size, HB1.out.drew.trans (hb2.mono HB1.out.size)⟩
def qBs.f (l0_0 : List Int) (a0_1 : Int) (l0_2 : List Int) (l0_3 : List (S51)) (l1_0 : List (S34)) (l1_1 : List Int) (a2 : Int) : Option (List Int × Int × Bool) := if vSz l0_0 l0_2 l0_3 l1_0 l1_1 = true then some (qBo (qAE l0_0 a0_1 l0_2 l0_3 l1_0 l1_1) a2) else none
theorem qBs.calls (A0_0 : Option Addr) (c0_0 : Nat) (l0_0 : List Int) (a0_1 : Int) (A0_2 : Option Addr) (c0_2 : Nat) (l0_2 : List Int) (A0_3 : Option Addr) (c0_3 : Nat) (l0_3 : List (S51)) (A1_0 : Option Addr) (c1_0 : Nat) (l1_0 : List (S34)) (A1_1 : Option Addr) (c1_1 : Nat) (l1_1 : List Int) (a2 : Int) (r1 : List Int) (r2 : Int) (r3 : Bool) (w : World) (hr0_0 : Kd.C (Kd.int .i64) w A0_0 l0_0.length l0_0) (hc0_0 : l0_0.length ≤ c0_0) (hr0_2 : Kd.C (Kd.int .i64) w A0_2 l0_2.length l0_2) (hc0_2 : l0_2.length ≤ c0_2) (hr0_3 : Kd.C k51 w A0_3 l0_3.length l0_3) (hc0_3 : l0_3.length ≤ c0_3) (hr1_0 : Kd.C k34 w A1_0 l1_0.length l1_0) (hc1_0 : l1_0.length ≤ c1_0) (hr1_1 : Kd.C (Kd.int .i64) w A1_1 l1_1.length l1_1) (hc1_1 : l1_1.length ≤ c1_1) (h : qBs.f l0_0 a0_1 l0_2 l0_3 l1_0 l1_1 a2 = some (r1, r2, r3)) :
  Calls Tryz.prog 27 #[.agg #[.slice A0_0 l0_0.length c0_0, .int .i64 a0_1, .slice A0_2 l0_2.length c0_2, .slice A0_3 l0_3.length c0_3], .agg #[.slice A1_0 l1_0.length c1_0, .slice A1_1 l1_1.length c1_1], .int .i64 a2] w fun e w' => ∃ v0_ : Value, e = .returned (.tuple #[v0_, .int .i64 r2, .bool r3]) ∧ Kd.R (Kd.int .i64) 3 w' w.heap.size (fun _ => True) v0_ r1 ∧ Below w.heap.size w w' := by
 unfold qBs.f at h
 split at h
 ·rename_i hs
  injection h with h
  simp only [vSz, Bool.and_eq_true, decide_eq_true_eq, List.all_eq_true] at hs
  obtain ⟨h1, h2, h3, h4, h5, h6, h7⟩ := hs
  have hv := shape_any A0_0 A0_2 A0_3 A1_0 A1_1 c0_0 c0_2 c0_3 c1_0 c1_1 a0_1 a2 (okF := fun _ => True) (Kd.F_mono (Kd.C_F (Kd.heap_int _) hr0_0) (fun _ _ => trivial)) (Kd.F_mono (Kd.C_F (Kd.heap_int _) hr0_2) (fun _ _ => trivial)) (Kd.F_mono (Kd.C_F heapIns hr0_3) (fun _ _ => trivial)) (Kd.F_mono (Kd.C_F heapSig hr1_0) (fun _ _ => trivial)) (Kd.F_mono (Kd.C_F (Kd.heap_int _) hr1_1) (fun _ _ => trivial)) hc0_0 hc0_2 h1 h2 h5 h4 h3 h7 h6
  rw [h] at hv
  exact hv
 ·cases h
namespace RV
theorem shapeAt_out {m : List Bool} {s : List S117} (h : m.length = s.length) (at_ : Int) : qBo (some (outP m s), 0, 0) at_ = if 0 ≤ at_ ∧ at_ < m.length ∧ rdOf false m at_ = true then ((qA6 s at_).f0, ((qA6 s at_).f1.length : Int), true) else ([], 0, false) := by
 show (if 0 ≤ at_ ∧ at_ < (outP m s).length ∧ (qAl (outP m s) at_).f0 = true then ((qAl (outP m s) at_).f1, ((qAl (outP m s) at_).f2.length : Int), true) else ([], 0, false)) = _
 rw [outP_len h]
 by_cases h0 : 0 ≤ at_ ∧ at_ < m.length
 rotate_left
 ·rw [if_neg (fun e => h0 ⟨e.1, e.2.1⟩), if_neg (fun e => h0 ⟨e.1, e.2.1⟩)]
 rw [rd_out h h0.1 h0.2]
 show (if 0 ≤ at_ ∧ at_ < (m.length : Int) ∧ rdOf false m at_ = true then ((qA6 s at_).f0, (((qA6 s at_).f1.map opP).length : Int), true) else ([], 0, false)) = _
 rw [List.length_map]
theorem at_rshape {W : World} {ok : Nat → Prop} {v2 : Value} {s : List S117} (hN : Kd.N k117 117 W 0 ok v2 s) (i : Int) (h0 : 0 ≤ i) (h1 : i < s.length) :
  ∃ ad c D1 d1 D2 d2, v2 = .slice (some ad) s.length c ∧ s.length ≤ c ∧ W.cell? (ad.add (i.toNat * 2)) = some (.slice D1 (qA6 s i).f0.length d1) ∧ W.cell? ⟨(ad.add (i.toNat * 2)).block, (ad.add (i.toNat * 2)).off + 1, none⟩ = some (.slice D2 (qA6 s i).f1.length d2) ∧ (qA6 s i).f0.length ≤ d1 ∧ Kd.F (Kd.int .i64) W ok D1 (qA6 s i).f0.length (qA6 s i).f0 := by
 obtain ⟨A, c, rfl, hac, _⟩ := Kd.N_reads hN
 obtain ⟨ad, cs, rfl, hcl, hK, hcc0, _⟩ := Kd.F_get (Kd.N_F hN) z117 i h0 h1
 have hcc : ∀ j u, cs[j]? = some u → W.cell? (ad.add (i.toNat * 2 + j)) = some u := hcc0
 obtain ⟨D1, d1, D2, d2, hcs, hd1, _, hd2, _⟩ := qBW (Kd.FK_now hK)
 subst hcs
 refine ⟨ad, c, D1, d1, D2, d2, rfl, hac, hcc 0 _ rfl, by rw [← qAU _ _ 1 (by omega)]; exact hcc 1 _ rfl, hd1, fun W' hW => ?_⟩
 obtain ⟨D1', d1', D2', d2', hcs', _, hC1, _, _⟩ := qBW (hK W' hW)
 simp only [List.cons.injEq, Value.slice.injEq] at hcs'
 rw [hcs'.1.1]
 exact hC1
theorem at_met {W : World} {ok : Nat → Prop} {v1 : Value} {m : List Bool} (hR : Kd.R Kd.bool 4 W 0 ok v1 m) (i : Int) (h0 : 0 ≤ i) (h1 : i < m.length) :
  ∃ bd c, v1 = .slice (some bd) m.length c ∧ m.length ≤ c ∧ W.cell? (bd.add i.toNat) = some (.bool (rdOf false m i)) := by
 obtain ⟨A, c, rfl⟩ := Kd.R_slice hR
 have hr := (Kd.R_reads' hR).2
 obtain ⟨ad, cs, rfl, hcl, hK, hcc⟩ := Kd.C_get hr.2 false i h0 h1
 obtain rfl : cs = [Value.bool (m.getD i.toNat false)] := hK
 refine ⟨ad, c, rfl, hr.1, ?_⟩
 have := hcc 0 _ rfl
 rw [show i.toNat * Kd.bool.sz + 0 = i.toNat from Nat.mul_one _] at this
 exact this
theorem rshape_any {W : World} (A1 A2 A3 A4 A5 : Option Addr) (c1 c2 c3 c4 c5 : Nat) (res at_ : Int) {ps ls vs : List Int} {fs : List S24} {code : List S50} {okF : Nat → Prop} (hP : Kd.F (Kd.int .i64) W okF A1 ps.length ps) (hL : Kd.F (Kd.int .i64) W okF A2 ls.length ls) (hC : Kd.F k50 W okF A3 code.length code) (hF : Kd.F k24 W okF A4 fs.length fs) (hV : Kd.F (Kd.int .i64) W okF A5 vs.length vs) (hc1 : ps.length ≤ c1) (hc2 : ls.length ≤ c2) (hc3 : code.length ≤ c3) (hc4 : fs.length ≤ c4) (hc5 : vs.length ≤ c5)
  (hp1 : ps.length ≤ 2000000) (hl1 : ls.length ≤ 2000000) (hv1 : vs.length ≤ 2000000) (hf1 : fs.length ≤ 2000000) (hn3 : code.length ≤ 2000000) (hfs : ∀ x ∈ fs, x.f0.length ≤ 2000000) (hu : ∀ x ∈ code, 0 ≤ x.f2.f1 ∧ x.f2.f1 < 18446744073709551616) :
  Calls Tryz.prog 28 #[.agg #[.slice A1 ps.length c1, .int .i64 res, .slice A2 ls.length c2, .slice A3 code.length c3], .agg #[.slice A4 fs.length c4, .slice A5 vs.length c5], .int .i64 at_] W fun e w' => ∃ v, e = .returned (.tuple #[v, .int .i64 (qBo (qAE ps res ls (code.map insP) (fs.map sgP) vs) at_).2.1, .bool (qBo (qAE ps res ls (code.map insP) (fs.map sgP) vs) at_).2.2]) ∧ Kd.V (Kd.int .i64) 3 w' W.heap.size (fun _ => True) v (qBo (qAE ps res ls (code.map insP) (fs.map sgP) vs) at_).1 ∧ Below W.heap.size W w' := by
 have hBB : Below W.heap.size W ((W.alloc (.cells #[.slice A1 ps.length c1, .int .i64 res, .slice A2 ls.length c2, .slice A3 code.length c3] 27)).alloc (.cells #[.slice A4 fs.length c4, .slice A5 vs.length c5] 30)) := ((Below.refl _ _).alloc (Nat.le_refl _) _).alloc (by simp) _
 have hor := qDt ps res ls (code.map insP) (fs.map sgP) vs
 obtain ⟨R, hRR, hlen, hs⟩ := found_shapes2 (W := (W.alloc (.cells #[.slice A1 ps.length c1, .int .i64 res, .slice A2 ls.length c2, .slice A3 code.length c3] 27)).alloc (.cells #[.slice A4 fs.length c4, .slice A5 vs.length c5] 30)) A1 A2 A3 A4 A5 c1 c2 c3 c4 c5 res (Kd.F_below hP hBB) (Kd.F_below hL hBB) (Kd.F_below hC hBB) (Kd.F_below hF hBB) (Kd.F_below hV hBB) hc1 hc2 hc3 hc4 hc5 hp1 hl1 hv1 hf1 hn3 hfs hu
 rw [hRR] at hor ⊢
 clear hRR
 have b0 : ((W.alloc (.cells #[.slice A1 ps.length c1, .int .i64 res, .slice A2 ls.length c2, .slice A3 code.length c3] 27)).alloc (.cells #[.slice A4 fs.length c4, .slice A5 vs.length c5] 30)).heap[W.heap.size]? = some (.cells #[.slice A1 ps.length c1, .int .i64 res, .slice A2 ls.length c2, .slice A3 code.length c3] 27 (0, 0)) := qAe (qAG W _) (qAi (Below.refl _ _) _)
 obtain ⟨q1, hq1⟩ : ∃ q, q = ps.length := ⟨_, rfl⟩
 obtain ⟨q2, hq2⟩ : ∃ q, q = ls.length := ⟨_, rfl⟩
 obtain ⟨q3, hq3⟩ : ∃ q, q = code.length := ⟨_, rfl⟩
 obtain ⟨q4, hq4⟩ : ∃ q, q = fs.length := ⟨_, rfl⟩
 obtain ⟨q5, hq5⟩ : ∃ q, q = vs.length := ⟨_, rfl⟩
 rw [← hq1, ← hq2, ← hq3, ← hq4, ← hq5] at hs hBB b0
 rw [← hq1, ← hq2, ← hq3, ← hq4, ← hq5]
 rw [← hq3] at hlen hn3
 have HS := am hs
 have HBB := am hBB
 have HB0 := am b0
 clear hP hL hC hF hV hc1 hc2 hc3 hc4 hc5 hp1 hl1 hv1 hf1 hfs hu hs hBB hq1 hq2 hq3 hq4 hq5 b0
 obtain ⟨R1, R2, R3⟩ := R
 cases R1 with
 | none =>
  rcases hor with ⟨_, hne⟩ | ⟨out, hout⟩
  ·have hq : (R3 != 0) = true := bne_iff_ne.mpr hne
   have hA : qBo ((none : Option (List Bool × List S117)).map (fun q => outP q.1 q.2), R2, R3) at_ = ([], 0, false) := rfl
   rw [hA]
   clear hA hlen hne
   go_enter Tryz.func28, Tryz.ntmps28
   go_wp2_with (go_at_call 43; refine HS.out.mono ?_; rintro e w1 ⟨v1, v2, rfl, _, hb⟩; have HB1 : qAc (Below W.heap.size W w1) := ⟨HBB.out.trans (hb.mono HBB.out.size)⟩; clear hb)
   go_ret3
   exact ⟨_, rfl, ⟨none, 0, rfl, Nat.le_refl _, Kd.F_nil _ _ _⟩, HB1.out⟩
  cases hout
 | some ms =>
  obtain ⟨m, s⟩ := ms
  obtain ⟨hm, hsl⟩ := hlen m s rfl
  have h0e : R2 = 0 ∧ R3 = 0 := by
   rcases hor with ⟨h, _⟩ | ⟨out, hout⟩
   ·cases h
   injection hout with _ h
   injection h with h1 h2
   exact ⟨h1, h2⟩
  obtain ⟨rfl, rfl⟩ := h0e
  clear hor hlen
  have hA : qBo ((some (m, s)).map (fun q => outP q.1 q.2), 0, 0) at_ = _ := shapeAt_out (hm.trans hsl.symm) at_
  rw [hA]
  clear hA
  rw [hm]
  by_cases h0 : at_ < 0
  ·rw [if_neg (by omega)]
   clear hm hsl
   go_enter Tryz.func28, Tryz.ntmps28
   go_wp2_with (go_at_call 43; refine HS.out.mono ?_; rintro e w1 ⟨v1, v2, rfl, _, hb⟩; have HB1 : qAc (Below W.heap.size W w1) := ⟨HBB.out.trans (hb.mono HBB.out.size)⟩; clear hb)
   go_ret3
   exact ⟨_, rfl, ⟨none, 0, rfl, Nat.le_refl _, Kd.F_nil _ _ _⟩, HB1.out⟩
  by_cases h1 : (q3 : Int) ≤ at_
  ·rw [if_neg (by omega)]
   clear hm hsl
   go_enter Tryz.func28, Tryz.ntmps28
   go_wp2_with (go_at_call 43; refine HS.out.mono ?_; rintro e w1 ⟨v1, v2, rfl, _, hb⟩; have HB1 : qAc (Below W.heap.size W w1) := ⟨HBB.out.trans (hb.mono HBB.out.size)⟩; have k3 := (qAa (qAe HB0.out hb) 3).trans rfl; clear hb)
   go_ret3
   exact ⟨_, rfl, ⟨none, 0, rfl, Nat.le_refl _, Kd.F_nil _ _ _⟩, HB1.out⟩
  have h2 : at_ < (q3 : Int) := by omega
  have h3 : 0 ≤ at_ := by omega
  obtain ⟨x, hx⟩ : ∃ x, x = qA6 s at_ := ⟨_, rfl⟩
  obtain ⟨b, hbq⟩ : ∃ b, b = rdOf false m at_ := ⟨_, rfl⟩
  rw [← hx, ← hbq]
  have HM := am hm
  have HSL := am hsl
  have HX := am hx
  have HQ := am hbq
  have hat : ∀ (w1 : World) (v2 : Value), Kd.N k117 117 w1 0 (fun _ => True) v2 s → ∃ ad c D1 d1 D2 d2, v2 = .slice (some ad) q3 c ∧ q3 ≤ c ∧ w1.cell? (ad.add (at_.toNat * 2)) = some (.slice D1 x.f0.length d1) ∧ w1.cell? ⟨(ad.add (at_.toNat * 2)).block, (ad.add (at_.toNat * 2)).off + 1, none⟩ = some (.slice D2 x.f1.length d2) ∧ x.f0.length ≤ d1 ∧ Kd.F (Kd.int .i64) w1 (fun _ => True) D1 x.f0.length x.f0 := fun w1 v2 hN => by
   have h := at_rshape hN at_ h3 (by omega)
   rw [← hx, hsl] at h
   exact h
  have hbt : ∀ (w1 : World) (v1 : Value), Kd.R Kd.bool 4 w1 0 (fun _ => True) v1 m → ∃ bd c, v1 = .slice (some bd) q3 c ∧ q3 ≤ c ∧ w1.cell? (bd.add at_.toNat) = some (.bool b) := fun w1 v1 hR => by
   have h := at_met hR at_ h3 (by omega)
   rw [← hbq, hm] at h
   exact h
  have HAT := am hat
  have HBT := am hbt
  clear hm hsl hx hbq hat hbt HM HSL HX HQ h0 h1
  cases b with
  | false =>
   rw [if_neg (by simp)]
   go_enter Tryz.func28, Tryz.ntmps28
   go_wp2_with (go_at_call 43; refine HS.out.mono ?_; rintro e w1 ⟨v1, v2, rfl, hms, hb⟩; obtain ⟨hR, hN⟩ := hms m s rfl; clear hms; obtain ⟨bd, cb, rfl, hbc, kb⟩ := HBT.out _ _ hR; obtain ⟨ad, c, D1, d1, D2, d2, rfl, hac, k1, k2, _⟩ := HAT.out _ _ hN; clear hR hN; have HB1 : qAc (Below W.heap.size W w1) := ⟨HBB.out.trans (hb.mono HBB.out.size)⟩; have k3 := (qAa (qAe HB0.out hb) 3).trans rfl; clear hb)
   go_ret3
   exact ⟨_, rfl, ⟨none, 0, rfl, Nat.le_refl _, Kd.F_nil _ _ _⟩, HB1.out⟩
  | true =>
   rw [if_pos ⟨h3, h2, rfl⟩]
   go_enter Tryz.func28, Tryz.ntmps28
   go_wp2_with (go_at_call 43; refine HS.out.mono ?_; rintro e w1 ⟨v1, v2, rfl, hms, hb⟩; obtain ⟨hR, hN⟩ := hms m s rfl; clear hms; obtain ⟨bd, cb, rfl, hbc, kb⟩ := HBT.out _ _ hR; obtain ⟨ad, c, D1, d1, D2, d2, rfl, hac, k1, k2, hdl, hF⟩ := HAT.out _ _ hN; clear hR hN; have HF := am hF; clear hF; have HB1 : qAc (Below W.heap.size W w1) := ⟨HBB.out.trans (hb.mono HBB.out.size)⟩; have k3 := (qAa (qAe HB0.out hb) 3).trans rfl; clear hb)
   go_region_held3 (fun W' => W'.cell? (ad.add (at_.toNat * 2)) = some (.slice D1 x.f0.length d1) ∧ W'.cell? ⟨(ad.add (at_.toNat * 2)).block, (ad.add (at_.toNat * 2)).off + 1, none⟩ = some (.slice D2 x.f1.length d2)) ((go_keep)) (fail)
   all_goals go_wp2_with fail
   all_goals go_ret3
   all_goals exact ⟨_, rfl, ⟨D1, d1, rfl, hdl, by (exact HF.out)⟩, by (exact HB1.out.drew)⟩
end RV
def qAA.f (l0_0 : List Int) (a0_1 : Int) (l0_2 : List Int) (l0_3 : List (S50)) (l1_0 : List (S24)) (l1_1 : List Int) (a2 : Int) : Option (List Int × Int × Bool) := if vfSz l0_0 l0_2 l0_3 l1_0 l1_1 = true then some (qBo (qAE l0_0 a0_1 l0_2 (l0_3.map RV.insP) (l1_0.map RV.sgP) l1_1) a2) else none
theorem qAA.calls (A0_0 : Option Addr) (c0_0 : Nat) (l0_0 : List Int) (a0_1 : Int) (A0_2 : Option Addr) (c0_2 : Nat) (l0_2 : List Int) (A0_3 : Option Addr) (c0_3 : Nat) (l0_3 : List (S50)) (A1_0 : Option Addr) (c1_0 : Nat) (l1_0 : List (S24)) (A1_1 : Option Addr) (c1_1 : Nat) (l1_1 : List Int) (a2 : Int) (r1 : List Int) (r2 : Int) (r3 : Bool) (w : World) (hr0_0 : Kd.C (Kd.int .i64) w A0_0 l0_0.length l0_0) (hc0_0 : l0_0.length ≤ c0_0) (hr0_2 : Kd.C (Kd.int .i64) w A0_2 l0_2.length l0_2) (hc0_2 : l0_2.length ≤ c0_2) (hr0_3 : Kd.C k50 w A0_3 l0_3.length l0_3) (hc0_3 : l0_3.length ≤ c0_3) (hr1_0 : Kd.C k24 w A1_0 l1_0.length l1_0) (hc1_0 : l1_0.length ≤ c1_0) (hr1_1 : Kd.C (Kd.int .i64) w A1_1 l1_1.length l1_1) (hc1_1 : l1_1.length ≤ c1_1) (h : qAA.f l0_0 a0_1 l0_2 l0_3 l1_0 l1_1 a2 = some (r1, r2, r3)) :
  Calls Tryz.prog 28 #[.agg #[.slice A0_0 l0_0.length c0_0, .int .i64 a0_1, .slice A0_2 l0_2.length c0_2, .slice A0_3 l0_3.length c0_3], .agg #[.slice A1_0 l1_0.length c1_0, .slice A1_1 l1_1.length c1_1], .int .i64 a2] w fun e w' => ∃ v0_ : Value, e = .returned (.tuple #[v0_, .int .i64 r2, .bool r3]) ∧ Kd.V (Kd.int .i64) 3 w' w.heap.size (fun _ => True) v0_ r1 ∧ Below w.heap.size w w' := by
 unfold qAA.f at h
 split at h
 ·rename_i hs
  injection h with h
  simp only [vfSz, u64R, Bool.and_eq_true, decide_eq_true_eq, List.all_eq_true] at hs
  obtain ⟨h1, h2, h3, h4, h5, h6, h7⟩ := hs
  have hv := RV.rshape_any A0_0 A0_2 A0_3 A1_0 A1_1 c0_0 c0_2 c0_3 c1_0 c1_1 a0_1 a2 (okF := fun _ => True) (Kd.F_mono (Kd.C_F (Kd.heap_int _) hr0_0) (fun _ _ => trivial)) (Kd.F_mono (Kd.C_F (Kd.heap_int _) hr0_2) (fun _ _ => trivial)) (Kd.F_mono (Kd.C_F heapInsR hr0_3) (fun _ _ => trivial)) (Kd.F_mono (Kd.C_F heapSigR hr1_0) (fun _ _ => trivial)) (Kd.F_mono (Kd.C_F (Kd.heap_int _) hr1_1) (fun _ _ => trivial)) hc0_0 hc0_2 hc0_3 hc1_0 hc1_1 h1 h2 h5 h4 h3 h7 h6
  rw [h] at hv
  exact hv
 ·cases h
end Q
end
section
namespace Q
open Go.RowKit YA YB YC
attribute [local go_sem] max2_int min2_int max_two min_two max_three min_three max_four min_four
def foundrylaw14_CodeShapes.f (k : Nat) (l0_0 : List Int) (a0_1 : Int) (l0_2 : List Int) (l0_3 : List (S50)) (l1_0 : List (S24)) (l1_1 : List Int) (a2 : Int) : Option (Bool) := (qA5.f k l0_0 a0_1 l0_2 l0_3).bind fun aP => ((qAj.f k l1_0 l1_1).bind fun aV => ((qBs.f aP.1 aP.2.1 aP.2.2.1 aP.2.2.2 aV.1 aV.2 a2).bind fun aG => ((qAA.f l0_0 a0_1 l0_2 l0_3 l1_0 l1_1 a2).bind fun aC => ((qAh.f k aG.1 aC.1).bind fun aT => (if aT = true then (if aG.2.1 = aC.2.1 then (if (aG.2.2 == aC.2.2) = true then ((qA3.f).bind fun aJ => (some aJ)) else (none)) else (none)) else (none))))))
def foundrylaw14_CodeShapes.T1 : Bool × List (List Nat × List Nat) := (true, [([], []), ([0], [0]), ([], []), ([2, 1], [2]), ([], []), ([1, 3, 4, 3], [1, 3, 4]), ([5], [5]), ([6], [6]), ([6], [6]), ([6], [6]), ([7, 5, 0, 1, 2, 3, 4, 5, 6, 7], [7]), ([8, 10, 0, 1, 2, 3, 4, 5, 6, 7, 8, 10], [8]), ([9, 11, 0, 1, 2, 3, 4, 5, 6, 7, 8, 9, 10, 11], [9])])
def foundrylaw14_CodeShapes.B1 : List Nat := [0, 1, 0, 7, 0, 31, 63, 127, 127, 127, 255, 1535, 4095]
theorem foundrylaw14_CodeShapes.tab1 : rtab .any (opsOf Tryz.f6 1) = foundrylaw14_CodeShapes.T1 := by kernel_rfl
theorem foundrylaw14_CodeShapes.bits1 : qC0 foundrylaw14_CodeShapes.T1.2 foundrylaw14_CodeShapes.B1 = true := by kernel_rfl
theorem foundrylaw14_CodeShapes.calls (k : Nat) (aM : Option Addr) (aQ : Nat) (l0_0 : List Int) (a0_1 : Int) (aN : Option Addr) (aR : Nat) (l0_2 : List Int) (aO : Option Addr) (aS : Nat) (l0_3 : List (S50)) (aW : Option Addr) (aY : Nat) (l1_0 : List (S24)) (aX : Option Addr) (aZ : Nat) (l1_1 : List Int) (a2 : Int) (r : Bool) (w : World) (hr0_0 : Kd.C (Kd.int .i64) w aM l0_0.length l0_0) (hc0_0 : l0_0.length ≤ aQ) (hr0_2 : Kd.C (Kd.int .i64) w aN l0_2.length l0_2) (hc0_2 : l0_2.length ≤ aR) (hr0_3 : Kd.C k50 w aO l0_3.length l0_3) (hc0_3 : l0_3.length ≤ aS) (hr1_0 : Kd.C k24 w aW l1_0.length l1_0) (hc1_0 : l1_0.length ≤ aY) (hr1_1 : Kd.C (Kd.int .i64) w aX l1_1.length l1_1) (hc1_1 : l1_1.length ≤ aZ) (h : foundrylaw14_CodeShapes.f k l0_0 a0_1 l0_2 l0_3 l1_0 l1_1 a2 = some r) :
  Calls Tryz.prog 6 #[.agg #[.slice aM l0_0.length aQ, .int .i64 a0_1, .slice aN l0_2.length aR, .slice aO l0_3.length aS], .agg #[.slice aW l1_0.length aY, .slice aX l1_1.length aZ], .int .i64 a2] w fun e w' => e = .returned (.bool r) ∧ Below w.heap.size w w' := by
 have ar := am hr0_0
 have ak := am hc0_0
 clear hr0_0 hc0_0
 have au := am hr0_2
 have al := am hc0_2
 clear hr0_2 hc0_2
 have av := am hr0_3
 have an := am hc0_3
 clear hr0_3 hc0_3
 have aw := am hr1_0
 have ao := am hc1_0
 clear hr1_0 hc1_0
 have ax := am hr1_1
 have ap := am hc1_1
 clear hr1_1 hc1_1
 have HB := am (Below.refl w.heap.size w)
 have H : ((qA5.f k l0_0 a0_1 l0_2 l0_3).bind fun aP => ((qAj.f k l1_0 l1_1).bind fun aV => ((qBs.f aP.1 aP.2.1 aP.2.2.1 aP.2.2.2 aV.1 aV.2 a2).bind fun aG => ((qAA.f l0_0 a0_1 l0_2 l0_3 l1_0 l1_1 a2).bind fun aC => ((qAh.f k aG.1 aC.1).bind fun aT => (if aT = true then (if aG.2.1 = aC.2.1 then (if (aG.2.2 == aC.2.2) = true then ((qA3.f).bind fun aJ => (some aJ)) else (none)) else (none)) else (none))))))) = some r := h
 clear h
 replace H := bm H
 obtain ⟨⟨ac, ad, ae, af⟩, bW, H⟩ := H
 replace H : ((qAj.f k l1_0 l1_1).bind fun aV => ((qBs.f ac ad ae af aV.1 aV.2 a2).bind fun aG => ((qAA.f l0_0 a0_1 l0_2 l0_3 l1_0 l1_1 a2).bind fun aC => ((qAh.f k aG.1 aC.1).bind fun aT => (if aT = true then (if aG.2.1 = aC.2.1 then (if (aG.2.2 == aC.2.2) = true then ((qA3.f).bind fun aJ => (some aJ)) else (none)) else (none)) else (none)))))) = some r := H
 have A4 := am bW
 clear bW
 replace H := bm H
 obtain ⟨⟨ah, ai⟩, bX, H⟩ := H
 replace H : ((qBs.f ac ad ae af ah ai a2).bind fun aG => ((qAA.f l0_0 a0_1 l0_2 l0_3 l1_0 l1_1 a2).bind fun aC => ((qAh.f k aG.1 aC.1).bind fun aT => (if aT = true then (if aG.2.1 = aC.2.1 then (if (aG.2.2 == aC.2.2) = true then ((qA3.f).bind fun aJ => (some aJ)) else (none)) else (none)) else (none))))) = some r := H
 have A5 := am bX
 clear bX
 replace H := bm H
 obtain ⟨⟨ag, a8, a7⟩, bY, H⟩ := H
 replace H : ((qAA.f l0_0 a0_1 l0_2 l0_3 l1_0 l1_1 a2).bind fun aC => ((qAh.f k ag aC.1).bind fun aT => (if aT = true then (if a8 = aC.2.1 then (if (a7 == aC.2.2) = true then ((qA3.f).bind fun aJ => (some aJ)) else (none)) else (none)) else (none)))) = some r := H
 have A6 := am bY
 clear bY
 replace H := bm H
 obtain ⟨⟨aj, ab, a9⟩, bZ, H⟩ := H
 replace H : ((qAh.f k ag aj).bind fun aT => (if aT = true then (if a8 = ab then (if (a7 == a9) = true then ((qA3.f).bind fun aJ => (some aJ)) else (none)) else (none)) else (none))) = some r := H
 have A7 := am bZ
 clear bZ
 replace H := bm H
 obtain ⟨aT, b0, H⟩ := H
 replace H : (if aT = true then (if a8 = ab then (if (a7 == a9) = true then ((qA3.f).bind fun aJ => (some aJ)) else (none)) else (none)) else (none)) = some r := H
 have A8 := am b0
 clear b0
 by_cases c9 : aT = true
 ·subst c9
  replace H : (if a8 = ab then (if (a7 == a9) = true then ((qA3.f).bind fun aJ => (some aJ)) else (none)) else (none)) = some r := by rw [if_pos rfl] at H; exact H
  by_cases c10 : a8 = ab
  ·rw [if_pos c10] at H
   have b1 : (a8 == ab) = true := beq_iff_eq.mpr c10
   have b2 : (a8 != ab) = false := bn c10
   clear c10
   by_cases az : (a7 == a9) = true
   ·rw [if_pos az] at H
    have b3 : (a7 == a9) = true := az
    (try (have b4 : decide (a7 = a9) = true := by simpa using az))
    (try (have b5 : (a7 == a9) = true := by simpa using az))
    clear az
    replace H := bm H
    obtain ⟨aJ, bA, H⟩ := H
    replace H : (some aJ) = some r := H
    have b7 := am bA
    clear bA
    obtain rfl := Option.some.inj H
    go_enter Tryz.func6, Tryz.ntmps6
    try go_wp2_with (first | ((with_reducible refine qAS (N := 3) rfl ?_); refine bx 3 #[.slice aM l0_0.length aQ, .int .i64 a0_1, .slice aN l0_2.length aR, .slice aO l0_3.length aS] 27 ?_; intro aF hg bi hbox hb; have n0_ := am (qAu (by exact HB.o) hb); have n1_ := am (hbox); have n2_ := am ((by rw [hg]; exact (qAm (by exact HB.o)) : w.heap.size ≤ aF)); have n3_ := am ((by rw [hg]; exact (qAm (by exact HB.o)) : w.heap.size ≤ aF)); clear HB; have HB := n0_; have aA := n1_; clear n0_ n1_ n2_ n3_; clear hb hbox hg) | ((with_reducible refine qAS (N := 4) rfl ?_); refine bx 4 #[.slice aW l1_0.length aY, .slice aX l1_1.length aZ] 30 ?_; intro aL hg bh hbox hb; have n0_ := am (qAe (g := aF) (o := .cells #[.slice aM l0_0.length aQ, .int .i64 a0_1, .slice aN l0_2.length aR, .slice aO l0_3.length aS] 27 (0, 0)) (by exact aA.o) hb); have n1_ := am (qAu (by exact HB.o) hb); have n2_ := am (hbox); have n3_ := am ((by rw [hg]; exact (qAm (by exact HB.o)) : w.heap.size ≤ aL)); have n4_ := am ((by rw [hg]; exact (qAm (by exact HB.o)) : w.heap.size ≤ aL)); have n5_ := am ((by rw [hg]; exact Nat.ne_of_lt (qAQ (g := aF) (o := .cells #[.slice aM l0_0.length aQ, .int .i64 a0_1, .slice aN l0_2.length aR, .slice aO l0_3.length aS] 27 (0, 0)) (by exact aA.o)) : aF ≠ aL)); have n6_ := am ((by rw [hg]; exact Nat.ne_of_gt (qAQ (g := aF) (o := .cells #[.slice aM l0_0.length aQ, .int .i64 a0_1, .slice aN l0_2.length aR, .slice aO l0_3.length aS] 27 (0, 0)) (by exact aA.o)) : aL ≠ aF)); clear aA; clear HB; have aA := n0_; have HB := n1_; have aB := n2_; clear n0_ n1_ n2_ n3_ n4_ n5_ n6_; clear hb hbox hg))
    have n0_ := am (qBS aA.o)
    have n1_ := am (qBS aB.o)
    have n2_ := am (qAz HB.o)
    clear aA
    clear aB
    clear HB
    have aA := n0_
    have aB := n1_
    have HB := n2_
    clear n0_ n1_ n2_
    refine start_ (n := 13) (S := fun w' => w'.cell? ⟨aF, 0, none⟩ = some (.slice aM l0_0.length aQ) ∧ w'.cell? ⟨aF, 1, none⟩ = some (.int .i64 a0_1) ∧ w'.cell? ⟨aF, 2, none⟩ = some (.slice aN l0_2.length aR) ∧ w'.cell? ⟨aF, 3, none⟩ = some (.slice aO l0_3.length aS) ∧ w'.cell? ⟨aL, 0, none⟩ = some (.slice aW l1_0.length aY) ∧ w'.cell? ⟨aL, 1, none⟩ = some (.slice aX l1_1.length aZ)) (ds := []) (mK 13 0) (by kernel_rfl) rfl rfl ⟨(qAa aA.o 0).trans rfl, (qAa aA.o 1).trans rfl, (qAa aA.o 2).trans rfl, (qAa aA.o 3).trans rfl, (qAa aB.o 0).trans rfl, (qAa aB.o 1).trans rfl⟩ (fun hHeld => ?_); refine qCD foundrylaw14_CodeShapes.tab1 foundrylaw14_CodeShapes.bits1 (fun HT_ HW_ => ?_)
    generalize bh.drew = bj at aA aB HB hHeld ⊢
    refine pu 4 18 (mK 13 16) (qAW HT_.o (by kernel_rfl)) ?_
    refine tk 0 14 (mK 13 17) (qBv HT_.o HW_.o (by kernel_rfl)) hHeld ?_
    refine tk 2 16 (mK 13 21) (qBv HT_.o HW_.o (by kernel_rfl)) hHeld ?_
    refine one_ (i := 1) (N := some 15) (mK 13 23) rfl rfl (qBN HT_.o (by kernel_rfl)) (by decide) (fun K hK => ?_)
    refine goes_ Tryz.func14 (by kernel_rfl) rfl #[.agg #[.slice aM l0_0.length aQ, .int .i64 a0_1, .slice aN l0_2.length aR, .slice aO l0_3.length aS]] (by rfl) rfl rfl (by (try simp only [List.map_toArray, List.map_cons, List.map_nil]); (rfl)) ?_
    with_reducible refine (qA5.calls k _ _ l0_0 a0_1 _ _ l0_2 _ _ l0_3 ac ad ae af _ ?side1 ?side2 ?side3 ?side4 ?side5 ?side6 A4.o).mono ?_
    (case side1 => repeat ((exact (Kd.C_below ar.o HB.o))))
    (case side2 => exact ak.o)
    (case side3 => repeat ((exact (Kd.C_below au.o HB.o))))
    (case side4 => exact al.o)
    (case side5 => repeat ((exact (Kd.C_below av.o HB.o))))
    (case side6 => exact an.o)
    rintro e bk ⟨b8, b9, ba, rfl, aa, ay, b6, hb⟩
    refine ⟨_, rfl, ?_⟩
    have n0_ := am (Kd.R_lower aa (qAm (by exact HB.o)))
    have n1_ := am (Kd.R_lower ay (qAm (by exact HB.o)))
    have n2_ := am (Kd.R_lower b6 (qAm (by exact HB.o)))
    have n3_ := am (qAe (g := aF) (o := .cells #[.slice aM l0_0.length aQ, .int .i64 a0_1, .slice aN l0_2.length aR, .slice aO l0_3.length aS] 27 (0, 0)) (by exact aA.o) hb)
    have n4_ := am (qAe (g := aL) (o := .cells #[.slice aW l1_0.length aY, .slice aX l1_1.length aZ] 30 (0, 0)) (by exact aB.o) hb)
    have n5_ := am (qAu (by exact HB.o) hb)
    clear aA
    clear aB
    clear HB
    have aD := n0_
    have aE := n1_
    have aH := n2_
    have aA := n3_
    have aB := n4_
    have HB := n5_
    clear n0_ n1_ n2_ n3_ n4_ n5_
    (try clear hb)
    (skip)
    (skip)
    (skip)
    (try clear aa)
    (try clear ay)
    (try clear b6)
    refine hK.o _ _ ⟨(qAa aA.o 0).trans rfl, (qAa aA.o 1).trans rfl, (qAa aA.o 2).trans rfl, (qAa aA.o 3).trans rfl, (qAa aB.o 0).trans rfl, (qAa aB.o 1).trans rfl⟩ (fun hHeld => ?_)
    clear hK K
    refine nm ?_
    refine one_ (i := 3) (N := some 17) (mK 13 31) rfl rfl (qBN HT_.o (by kernel_rfl)) (by decide) (fun K hK => ?_)
    refine goes_ Tryz.func15 (by kernel_rfl) rfl #[.agg #[.slice aW l1_0.length aY, .slice aX l1_1.length aZ]] (by rfl) rfl rfl (by (try simp only [List.map_toArray, List.map_cons, List.map_nil]); (rfl)) ?_
    with_reducible refine (qAj.calls k _ _ l1_0 _ _ l1_1 ah ai _ ?side1 ?side2 ?side3 ?side4 A5.o).mono ?_
    (case side1 => repeat ((exact (Kd.C_below aw.o HB.o))))
    (case side2 => exact ao.o)
    (case side3 => repeat ((exact (Kd.C_below ax.o HB.o))))
    (case side4 => exact ap.o)
    rintro e bo ⟨bb, bc, rfl, aa, ay, hb⟩
    refine ⟨_, rfl, ?_⟩
    have n0_ := am (Kd.R_elder' (by exact aD.o) (Kd.R_base ay) hb)
    have n1_ := am (Kd.R_elder' (by exact aE.o) (Kd.R_base ay) hb)
    have n2_ := am (Kd.R_below (by exact aH.o) hb)
    have n3_ := am (Kd.S_lower (Kd.S_new' (Kd.S_new' aa (Kd.R_lt (by exact aD.o))) (Kd.R_lt (by exact aE.o))) (qAm (by exact HB.o)))
    have n4_ := am (Kd.R_lower (Kd.R_new' (Kd.R_new' ay (Kd.R_lt (by exact aD.o))) (Kd.R_lt (by exact aE.o))) (qAm (by exact HB.o)))
    have n5_ := am (qAe (g := aF) (o := .cells #[.slice aM l0_0.length aQ, .int .i64 a0_1, .slice aN l0_2.length aR, .slice aO l0_3.length aS] 27 (0, 0)) (by exact aA.o) hb)
    have n6_ := am (qAe (g := aL) (o := .cells #[.slice aW l1_0.length aY, .slice aX l1_1.length aZ] 30 (0, 0)) (by exact aB.o) hb)
    have n7_ := am (qAu (by exact HB.o) hb)
    clear aD
    clear aE
    clear aH
    clear aA
    clear aB
    clear HB
    have aD := n0_
    have aE := n1_
    have aH := n2_
    have aK := n3_
    have aI := n4_
    have aA := n5_
    have aB := n6_
    have HB := n7_
    clear n0_ n1_ n2_ n3_ n4_ n5_ n6_ n7_
    (try clear hb)
    (skip)
    (skip)
    (skip)
    (try clear aa)
    (try clear ay)
    obtain ⟨bB, bI, bP⟩ := Kd.R_slice aD.o
    ((subst bP))
    obtain ⟨bC, bJ, bQ⟩ := Kd.R_slice aE.o
    ((subst bQ))
    obtain ⟨bD, bK, bR⟩ := Kd.R_slice aH.o
    ((subst bR))
    obtain ⟨bE, bL, bS⟩ := Kd.S_slice aK.o
    ((subst bS))
    obtain ⟨bF, bM, bT⟩ := Kd.R_slice aI.o
    ((subst bT))
    refine hK.o _ _ ⟨(qAa aA.o 0).trans rfl, (qAa aA.o 1).trans rfl, (qAa aA.o 2).trans rfl, (qAa aA.o 3).trans rfl, (qAa aB.o 0).trans rfl, (qAa aB.o 1).trans rfl⟩ (fun hHeld => ?_)
    clear hK K
    refine nm ?_
    refine one_ (i := 5) (N := some 19) (mK 13 63) rfl rfl (qBN HT_.o (by kernel_rfl)) (by decide) (fun K hK => ?_)
    refine goes_ Tryz.func27 (by kernel_rfl) rfl #[.agg #[.slice bB ac.length bI, .int .i64 ad, .slice bC ae.length bJ, .slice bD af.length bK], .agg #[.slice bE ah.length bL, .slice bF ai.length bM], .int .i64 a2] (by rfl) rfl rfl (by (try simp only [List.map_toArray, List.map_cons, List.map_nil]); (rfl)) ?_
    with_reducible refine (qBs.calls _ _ ac ad _ _ ae _ _ af _ _ ah _ _ ai a2 ag a8 a7 _ ?side1 ?side2 ?side3 ?side4 ?side5 ?side6 ?side7 ?side8 ?side9 ?side10 A6.o).mono ?_
    (case side1 => repeat ((exact (Kd.R_reads' aD.o).2.2)))
    (case side2 => exact (Kd.R_reads' aD.o).2.1)
    (case side3 => repeat ((exact (Kd.R_reads' aE.o).2.2)))
    (case side4 => exact (Kd.R_reads' aE.o).2.1)
    (case side5 => repeat ((exact (Kd.R_reads' aH.o).2.2)))
    (case side6 => exact (Kd.R_reads' aH.o).2.1)
    (case side7 => repeat ((exact (Kd.S_reads' aK.o).2.2)))
    (case side8 => exact (Kd.S_reads' aK.o).2.1)
    (case side9 => repeat ((exact (Kd.R_reads' aI.o).2.2)))
    (case side10 => exact (Kd.R_reads' aI.o).2.1)
    rintro e bp ⟨bd, rfl, aa, hb⟩
    refine ⟨_, rfl, ?_⟩
    have n0_ := am (Kd.R_elder' (by exact aD.o) (Kd.R_base aa) hb)
    have n1_ := am (Kd.R_elder' (by exact aE.o) (Kd.R_base aa) hb)
    have n2_ := am (Kd.R_below (by exact aH.o) hb)
    have n3_ := am (Kd.S_elder' (by exact aK.o) (Kd.R_base aa) hb)
    have n4_ := am (Kd.R_elder' (by exact aI.o) (Kd.R_base aa) hb)
    have n5_ := am (Kd.R_lower (Kd.R_new' (Kd.R_new' (Kd.R_new' aa (Kd.R_lt (by exact aD.o))) (Kd.R_lt (by exact aE.o))) (Kd.R_lt (by exact aI.o))) (qAm (by exact HB.o)))
    have n6_ := am (qAe (g := aF) (o := .cells #[.slice aM l0_0.length aQ, .int .i64 a0_1, .slice aN l0_2.length aR, .slice aO l0_3.length aS] 27 (0, 0)) (by exact aA.o) hb)
    have n7_ := am (qAe (g := aL) (o := .cells #[.slice aW l1_0.length aY, .slice aX l1_1.length aZ] 30 (0, 0)) (by exact aB.o) hb)
    have n8_ := am (qAu (by exact HB.o) hb)
    clear aD
    clear aE
    clear aH
    clear aK
    clear aI
    clear aA
    clear aB
    clear HB
    have aD := n0_
    have aE := n1_
    have aH := n2_
    have aK := n3_
    have aI := n4_
    have aU := n5_
    have aA := n6_
    have aB := n7_
    have HB := n8_
    clear n0_ n1_ n2_ n3_ n4_ n5_ n6_ n7_ n8_
    (try clear hb)
    (skip)
    (skip)
    (skip)
    (try clear aa)
    refine hK.o _ _ ⟨(qAa aA.o 0).trans rfl, (qAa aA.o 1).trans rfl, (qAa aA.o 2).trans rfl, (qAa aA.o 3).trans rfl, (qAa aB.o 0).trans rfl, (qAa aB.o 1).trans rfl⟩ (fun hHeld => ?_)
    clear hK K
    refine nm ?_
    refine pu 6 13 (mK 13 127) (qAW HT_.o (by kernel_rfl)) ?_
    refine pu 7 20 (mK 13 255) (qAW HT_.o (by kernel_rfl)) ?_
    refine pu 8 21 (mK 13 511) (qAW HT_.o (by kernel_rfl)) ?_
    refine pu 9 22 (mK 13 1023) (qAW HT_.o (by kernel_rfl)) ?_
    refine pu 10 7 (mK 13 2047) (qAW HT_.o (by kernel_rfl)) ?_
    refine pu 11 8 (mK 13 4095) (qAW HT_.o (by kernel_rfl)) ?_
    refine pu 12 9 (mK 13 8191) (qAW HT_.o (by kernel_rfl)) ?_
    refine done_ (qDI HT_.o (by kernel_rfl)) ?_
    try go_wp2_with (first | ((with_reducible refine qBj (f := 28) rfl ?_); refine gL 27 Tryz.func28 #[.agg #[.slice aM l0_0.length aQ, .int .i64 a0_1, .slice aN l0_2.length aR, .slice aO l0_3.length aS], .agg #[.slice aW l1_0.length aY, .slice aX l1_1.length aZ], .int .i64 a2] ?_; (with_reducible refine (qAA.calls _ _ l0_0 a0_1 _ _ l0_2 _ _ l0_3 _ _ l1_0 _ _ l1_1 a2 aj ab a9 _ ?side1 ?side2 ?side3 ?side4 ?side5 ?side6 ?side7 ?side8 ?side9 ?side10 A7.o).mono ?_); (case side1 => repeat ((exact (Kd.C_below ar.o HB.o)))); (case side2 => exact ak.o); (case side3 => repeat ((exact (Kd.C_below au.o HB.o)))); (case side4 => exact al.o); (case side5 => repeat ((exact (Kd.C_below av.o HB.o)))); (case side6 => exact an.o); (case side7 => repeat ((exact (Kd.C_below aw.o HB.o)))); (case side8 => exact ao.o); (case side9 => repeat ((exact (Kd.C_below ax.o HB.o)))); (case side10 => exact ap.o); rintro e bq ⟨bg, rfl, aa, hb⟩; refine ⟨_, rfl, ?_⟩; have n0_ := am (Kd.R_below (by exact aD.o) hb); have n1_ := am (Kd.R_below (by exact aE.o) hb); have n2_ := am (Kd.R_below (by exact aH.o) hb); have n3_ := am (Kd.S_below (by exact aK.o) hb); have n4_ := am (Kd.R_below (by exact aI.o) hb); have n5_ := am (Kd.R_below (by exact aU.o) hb); have n6_ := am aa; have n7_ := am (qAe (g := aF) (o := .cells #[.slice aM l0_0.length aQ, .int .i64 a0_1, .slice aN l0_2.length aR, .slice aO l0_3.length aS] 27 (0, 0)) (by exact aA.o) hb); have n8_ := am (qAe (g := aL) (o := .cells #[.slice aW l1_0.length aY, .slice aX l1_1.length aZ] 30 (0, 0)) (by exact aB.o) hb); have n9_ := am (qAu (by exact HB.o) hb); clear aD; clear aE; clear aH; clear aK; clear aI; clear aU; clear aA; clear aB; clear HB; have aD := n0_; have aE := n1_; have aH := n2_; have aK := n3_; have aI := n4_; have aU := n5_; have aq := n6_; have aA := n7_; have aB := n8_; have HB := n9_; clear n0_ n1_ n2_ n3_ n4_ n5_ n6_ n7_ n8_ n9_; (skip); (skip); (skip); obtain ⟨bG, bN, bU⟩ := Kd.R_slice aU.o; subst bU; obtain ⟨bH, bO, bV, hl29_, hf29_⟩ := aq.o; subst bV; have HV29_ := am (And.intro hl29_ hf29_); clear hl29_ hf29_ aq) | ((with_reducible refine qBj (f := 29) rfl ?_); refine gL 33 Tryz.func29 #[.slice bG ag.length bN, .slice bH aj.length bO] ?_; (with_reducible refine (qAh.calls k _ _ ag _ _ aj true _ ?side1 ?side2 ?side3 ?side4 A8.o).mono ?_); (case side1 => repeat ((exact (Kd.R_reads' aU.o).2.2))); (case side2 => exact (Kd.R_reads' aU.o).2.1); (case side3 => repeat ((exact Kd.F_now HV29_.o.2))); (case side4 => exact HV29_.o.1); rintro e w' ⟨rfl, ⟨nd, rfl⟩⟩; refine ⟨_, rfl, ?_⟩) | (go_at_call 17; (with_reducible refine (qA3.calls  aJ _ b7.o).mono ?_); rintro e br ⟨rfl, hb⟩; have n0_ := am (Kd.R_below (by (with_reducible repeat ((apply Kd.R_drewN))); exact aD.o) hb); have n1_ := am (Kd.R_below (by (with_reducible repeat ((apply Kd.R_drewN))); exact aE.o) hb); have n2_ := am (Kd.R_below (by (with_reducible repeat ((apply Kd.R_drewN))); exact aH.o) hb); have n3_ := am (Kd.S_below (by (with_reducible repeat ((apply Kd.S_drewN))); exact aK.o) hb); have n4_ := am (Kd.R_below (by (with_reducible repeat ((apply Kd.R_drewN))); exact aI.o) hb); have n5_ := am (Kd.R_below (by (with_reducible repeat ((apply Kd.R_drewN))); exact aU.o) hb); have n6_ := am True.intro; have n7_ := am (qAe (g := aF) (o := .cells #[.slice aM l0_0.length aQ, .int .i64 a0_1, .slice aN l0_2.length aR, .slice aO l0_3.length aS] 27 (0, 0)) (by (with_reducible repeat ((refine qB8 ?_ _))); exact aA.o) hb); have n8_ := am (qAe (g := aL) (o := .cells #[.slice aW l1_0.length aY, .slice aX l1_1.length aZ] 30 (0, 0)) (by (with_reducible repeat ((refine qB8 ?_ _))); exact aB.o) hb); have n9_ := am (qAu (by repeat ((with_reducible first | exact HB.o | apply qAg))) hb); clear aD; clear aE; clear aH; clear aK; clear aI; clear aU; clear aA; clear aB; clear HB; have HB := n9_; clear n0_ n1_ n2_ n3_ n4_ n5_ n6_ n7_ n8_ n9_; (skip); (skip); (skip)))
    go_ret
    exact ⟨by (rfl), by exact HB.o⟩
   ·rw [if_neg az] at H
    exact absurd H (by simp)
  ·rw [if_neg c10] at H
   exact absurd H (by simp)
 ·replace c9 := Bool.eq_false_iff.mpr c9
  subst c9
  replace H : (none) = some r := by rw [if_neg (show ¬ (false = true) by decide)] at H; exact H
  exact absurd H (by simp)
end Q
end
section
namespace Q
open Go.RowKit YA YB YC
open Val Ins
namespace C14
theorem Good.vf {ps ls : List Int} {code : List S50} {fs : List S24} {vs : List Int} (g : Good ps ls code fs vs) : vfSz ps ls code fs vs = true := by
 have h1 := g.p; have h2 := g.l; have h3 := g.c; have h4 := g.f; have h5 := g.v
 unfold vfSz
 simp only [Bool.and_eq_true, decide_eq_true_eq, List.all_eq_true]
 refine ⟨by omega, by omega, by omega, by omega, by omega, fun x hx => decide_eq_true (g.u x hx), fun x hx => ?_⟩
 have := g.s x hx
 omega
theorem Good.shp {ps ls : List Int} {code : List S50} {fs : List S24} {vs : List Int} (g : Good ps ls code fs vs) (res at_ : Int) : qBs.f ps res ls (code.map ofI) (fs.map ofS) vs at_ = some (qBo (qAE ps res ls (code.map ofI) (fs.map ofS) vs) at_) := if_pos g.sz
theorem Good.rshp {ps ls : List Int} {code : List S50} {fs : List S24} {vs : List Int} (g : Good ps ls code fs vs) (res at_ : Int) : qAA.f ps res ls code fs vs at_ = some (qBo (qAE ps res ls (code.map ofI) (fs.map ofS) vs) at_) := if_pos g.vf
theorem ints_refl (l : List Int) (hl : l.length ≤ 4611686018427387904) : Ev (fun k => qAh.f k l l) true := by
 have loop : ∀ (d : Nat) (i : Int), 0 ≤ i → (l.length : Int) - i = d → Ev (fun k => qAh.l0 k l l i) true := by
  intro d
  induction d with
  | zero =>
   intro i h0 hd
   refine Ev.step (f := fun _ => some true) (fun k => ?_) (Ev.now _)
   simp only [qAh.l0]; rw [if_neg (by omega)]
  | succ d ih =>
   intro i h0 hd
   refine Ev.step (f := fun k => qAh.l0 k l l (i + 1)) (fun k => ?_) (ih (i + 1) (by omega) (by omega))
   simp only [qAh.l0]; rw [if_pos (by omega), if_pos h0, if_pos (by omega), if_pos trivial, qEc (n := l.length) h0 (by omega) hl]
 refine Ev.congr (f := fun k => qAh.l0 k l l 0) (fun k => by unfold qAh.f; rw [if_pos rfl]) ?_
 exact loop l.length 0 (by omega) (by omega)
theorem shapeAt_len (ps : List Int) (res : Int) (ls : List Int) (code : List S51) (fs : List S34) (vs : List Int) (at_ : Int) : (qBo (qAE ps res ls code fs vs) at_).1.length ≤ 512 := by
 rcases qDt ps res ls code fs vs with ⟨h, _⟩ | ⟨out, ho⟩
 ·unfold qBo; rw [h]; simp
 obtain ⟨R, hR⟩ := One.shapes_zero (ps := ps) (res := res) (ls := ls) (code := code) (fs := fs) (vs := vs) (by rw [ho])
 have he := hR.eq
 rw [he]
 show (if 0 ≤ at_ ∧ at_ < R.length ∧ (qAl R at_).f0 = true then ((qAl R at_).f1, ((qAl R at_).f2.length : Int), true) else ([], 0, false)).1.length ≤ 512
 split
 ·rename_i h
  have hm : qAl R at_ ∈ R := getD_mem R z113 at_ h.1 h.2.1
  exact (hR.sh _ hm).1
 simp
theorem shapes_ev (a0 : List Int) (a1 : Int) (a2 : List Int) (a3 : List S50) (b0 : List S24) (b1 : List Int) (at_ : Int) (hg : qBH 1048576 ⟨⟨a0, a1⟩, a2, a3⟩) (hh : qBw 1048576 ⟨b0, b1⟩) : Ev (fun k => foundrylaw14_CodeShapes.f k a0 a1 a2 a3 b0 b1 at_) true := by
 have g := good_of hg hh
 unfold foundrylaw14_CodeShapes.f
 refine Ev.bind (fn_ev a0 a1 a2 a3 g.p g.l g.c) ?_
 refine Ev.bind (frame_ev b0 b1 g.f g.v g.s) ?_
 have hl := shapeAt_len a0 a1 a2 (a3.map ofI) (b0.map ofS) b1 at_
 simp only [g.shp, g.rshp, Option.bind_some]
 refine Ev.bind (ints_refl _ (by omega)) ?_
 simp only [if_true, beq_self_eq_true, live_eq, Option.bind_some]
 exact Ev.now _
end C14
end Q
end
section
namespace codeShapes
open Go.ChangeShapes Go.WideShapes Go.ChangeAt Go.RowKit
theorem own : ownKnob Tryz.prog.godebug = none := by kernel_rfl
theorem laidOut : laidOutB Tryz.prog = true := by kernel_rfl
theorem contract (H : Type) (enc : TypeId × Value → H) (W : World) (base : Nat) (args : Array Value) (ds gs : List (DataW H)) (before : List MemPlace)
  (hval0 : ∀ (j : Nat) t v, Tryz.f6.params[j]? = some t → args[j]? = some v → Value.okWide Tryz.prog W .any base t v)
  (hW : DataW.Whole enc Tryz.prog Tryz.f6.params.toList Rows.codeShapesSpec.vars false W args.toList ds gs before) (hk0 : decide (Rows.uptoBulkAll (ds ++ gs) ≤ 1048576) = true) :
  Calls Tryz.prog 6 args W fun e W' => ∃ v, e = .returned v ∧ Rows.codeShapesSpec.post enc Tryz.prog Tryz.f6 false true false false W args v W' := by
 have hval : ∀ (j : Nat) t v, Tryz.f6.params[j]? = some t → args[j]? = some v → Value.okWide Tryz.prog W .any base t v := hval0
 have hW' := hW
 obtain ⟨p, q, hA0, hV, rfl, hfz, hnd⟩ := hW
 have hA : DataW.TrodAll enc Tryz.prog W 0 (fun _ => true) true Tryz.f6.params.toList args.toList ds p := hA0
 rw [Tryz.params6] at hA hval
 obtain ⟨v0, vs0, d0, ds0, p0, q0, hargs, rfl, rfl, h0, r0⟩ := trodAll_cons hA
 obtain ⟨v1, vs1, d1, ds1, p1, q1, rfl, rfl, rfl, h1, r1⟩ := trodAll_cons r0
 obtain ⟨v2, vs2, d2, ds2, p2, q2, rfl, rfl, rfl, h2, r2⟩ := trodAll_cons r1
 obtain ⟨rfl, rfl, rfl⟩ := trodAll_nil r2
 obtain rfl : args = #[v0, v1, v2] := by cases args; simp_all
 obtain ⟨rfl, rfl⟩ := trodVars_none hV
 have hk := of_decide_eq_true hk0
 simp only [List.append_nil, Rows.uptoBulkAll] at hk
 have k0 := h0
 have lt0 : ∀ x ∈ p0, x.block < W.heap.size := by obtain ⟨m, hm⟩ := k0; exact DataW.trod_lt m _ _ _ hm
 obtain ⟨cs0, rfl, hsz0⟩ := okWide_struct Tryz.underlying27 (hval 0 27 v0 rfl rfl)
 obtain ⟨fuel0, hf0⟩ := h0
 obtain ⟨x0, hK0, hG0⟩ := Q.opens_foundryref14_Fn W 1048576 H enc 0 (fun _ => true) true fuel0 _ _ hf0 (by show Rows.uptoBulk d0 ≤ _; omega)
 obtain ⟨A0, c0, A1, c1, A2, c2, he0, l0, g0, l1, g1, l2, g2⟩ := Q.k27_open hK0
 obtain rfl : cs0 = #[.slice A0 x0.f0.f0.length c0, .int .i64 x0.f0.f1, .slice A1 x0.f1.length c1, .slice A2 x0.f2.length c2] := Array.ext' he0
 clear hf0 hK0
 have k1 := h1
 have lt1 : ∀ x ∈ p1, x.block < W.heap.size := by obtain ⟨m, hm⟩ := k1; exact DataW.trod_lt m _ _ _ hm
 obtain ⟨cs1, rfl, hsz1⟩ := okWide_struct Tryz.underlying30 (hval 1 30 v1 rfl rfl)
 obtain ⟨fuel1, hf1⟩ := h1
 obtain ⟨x1, hK1, hG1⟩ := Q.opens_foundryref14_Frame W 1048576 H enc 0 (fun _ => true) true fuel1 _ _ hf1 (by show Rows.uptoBulk d1 ≤ _; omega)
 obtain ⟨A3, c3, A4, c4, he1, l3, g3, l4, g4⟩ := Q.k30_open hK1
 obtain rfl : cs1 = #[.slice A3 x1.f0.length c3, .slice A4 x1.f1.length c4] := Array.ext' he1
 clear hf1 hK1
 obtain ⟨a2, rfl, rfl, rfl, w2⟩ := open_int Tryz.underlying3 (hval 2 3 v2 rfl rfl) h2
 obtain ⟨k, hkk⟩ := (Q.C14.shapes_ev (x0.f0.f0) (x0.f0.f1) (x0.f1) (x0.f2) (x1.f0) (x1.f1) a2 hG0 hG1).rounds
 clear hA0 hval0
 refine (Q.foundrylaw14_CodeShapes.calls k A0 c0 x0.f0.f0 (x0.f0.f1) A1 c1 x0.f1 A2 c2 x0.f2 A3 c3 x1.f0 A4 c4 x1.f1 a2 true W g0 l0 g1 l1 g2 l2 g3 l3 g4 l4 hkk).mono fun e W' ⟨he', bel⟩ => ?_
 subst he'
 exact ⟨_, rfl, _, _, _, [], _, [], hW', trodAll_mk1 (shut_bool Tryz.underlying4 _), (trodAll_cons_mk (Below.trod laidOut (by kernel_rfl) (of_decide_eq_true (by kernel_rfl)) k0 bel lt0) (trodAll_cons_mk (Below.trod laidOut (by kernel_rfl) (of_decide_eq_true (by kernel_rfl)) k1 bel lt1) (trodAll_cons_mk (shut_int Tryz.underlying3 w2) trodAll_mk0))), rfl, bel.frame _, fun h => by cases h⟩
theorem row_shaped {H : Type} {enc : TypeId × Value → H} {C : Checked} {os : Os} {f : FuncId} {fn : Func} {s : OpenSpec} {conds : List PathCond} {apart : Bool} {laid : List (String × DataW Unit)} (modest : Bool) (w0 : World) (args : Array Value) (hos : w0.os = os)
  (hsh : (w0.forCall (fun _ _ => 0) ⟨#[], args, []⟩).Shaped C.prog)
  (hok : Input.okWideB C.prog (w0.forCall (fun _ _ => 0) ⟨#[], args, []⟩) f ⟨#[], args, []⟩ = true)
  (hrow : s.preRow enc C.prog fn conds apart laid (w0.forCall (fun _ _ => 0) ⟨#[], args, []⟩).memory args) :
  ∃ (w : World) (tape : Tape) (i : Input), w.os = os ∧ (w.forCall tape i).Shaped C.prog ∧ i.vars = [] ∧ Input.okWide C.prog (w.forCall tape i) .any w.heap.size f i ∧
   s.preRow enc C.prog fn conds apart laid (w.forCall tape i).memory i.args ∧ ({ modest := modest } : Assume).holds C.prog (lone (Frame.enter C.prog f i.args .normal) [] (w.forCall tape i)) :=
 ⟨w0, fun _ _ => 0, ⟨#[], args, []⟩, hos, hsh, (Input.okWide_of_okWideB (base := 0) hok).1, (Input.okWide_of_okWideB hok).2, hrow, by
   simp only [Assume.holds]
   exact ⟨by simp, by simp, fun _ => Modest.zero, by simp, by simp⟩⟩
theorem laid_met (os : Os) : laidMet Tryz.prog Rows.codeShapesUptoRow.laid (((World.laidAll Tryz.prog os Rows.codeShapesUptoRow.laid)).forCall (fun _ _ => 0) ⟨#[], #[.agg #[.slice none 0 0, .int .i64 0, .slice none 0 0, .slice none 0 0], .agg #[.slice none 0 0, .slice none 0 0], .int .i64 0], []⟩).memory := laidMet_laidAll _ (by kernel_rfl) (by kernel_rfl)
theorem reads (os : Os) {H : Type} (enc : TypeId × Value → H) : ∃ places, DataW.whole enc Tryz.prog ((World.laidAll Tryz.prog os Rows.codeShapesUptoRow.laid).forCall (fun _ _ => 0) ⟨#[], #[.agg #[.slice none 0 0, .int .i64 0, .slice none 0 0, .slice none 0 0], .agg #[.slice none 0 0, .slice none 0 0], .int .i64 0], []⟩).memory Tryz.f6.params.toList Rows.codeShapesSpec.vars false (#[.agg #[.slice none 0 0, .int .i64 0, .slice none 0 0, .slice none 0 0], .agg #[.slice none 0 0, .slice none 0 0], .int .i64 0] : Array Value).toList 8 = some ([.agg [.agg [.nil, .lit (.int .i64 0)], .nil, .nil], .agg [.nil, .nil], .lit (.int .i64 0)], [], places) :=
 ⟨[], by kernel_rfl⟩
theorem lifted (os : Os) (started : os.Started) (H : Type) (enc : TypeId × Value → H) (F : Stop.Interp) :
  ReturnsInHanded {} Tryz.checked os 6 .any ((Rows.OpenSpec.upto Rows.codeShapesSpec).preRow enc Tryz.prog Tryz.f6 Rows.codeShapesUptoRow.domain false Rows.codeShapesUptoRow.laid) (((Rows.OpenSpec.upto Rows.codeShapesSpec).at F).post enc Tryz.prog Tryz.f6 false true false false) := by
 obtain ⟨places, hx⟩ := reads os enc
 refine returnsInHanded_of_row (C := Tryz.checked) (s := Rows.OpenSpec.upto Rows.codeShapesSpec) own started (by kernel_rfl) Tryz.func6
  (row_shaped (enc := enc) (C := Tryz.checked) false (World.laidAll Tryz.prog os Rows.codeShapesUptoRow.laid) #[.agg #[.slice none 0 0, .int .i64 0, .slice none 0 0, .slice none 0 0], .agg #[.slice none 0 0, .slice none 0 0], .int .i64 0] (World.laidAll_os _ _ _) (World.shaped_of_ZipB (by kernel_rfl) (by kernel_rfl)) (by kernel_rfl)
    (OpenSpec.preRow_of_cond (s := Rows.OpenSpec.upto Rows.codeShapesSpec) 8 hx (by kernel_rfl) (fun k hk => by cases hk; kernel_rfl) (by kernel_rfl) (laid_met os))) ?_
 intro W base args ds gs before hval hW _ hcond _ hL _ _
 exact contract H enc W base args ds gs before hval hW (hcond _ rfl)
theorem saidUpto : Rows.CodeShapesUptoSaid :=
 OpenClaim.holds_of_cond 6 Tryz.f6 rfl rfl rfl rfl rfl rfl rfl ⟨rfl, rfl, rfl, rfl, rfl⟩ rfl rfl rfl rfl rfl (by kernel_rfl) Tryz.func6 (by kernel_rfl)
  (of_decide_eq_true (by kernel_rfl)) (by unfold Func.isWrapper; first | (rw [if_pos (by decide +kernel)]; kernel_rfl) | (rw [if_neg (by decide +kernel)]; exact ⟨rfl, rfl⟩))
  (fun os started H enc _ F => by rw [OpenClaim.pre_eq_preRow]; exact lifted os started H enc F)
theorem plain (f : FuncId) (fn : Func) (hf : Tryz.pinned.checked.prog.funcNamed "foundry/foundrylaw14.CodeShapes" = some f) (hfn : Tryz.pinned.checked.prog.funcs[f]? = some fn) :
  false = Tryz.pinned.checked.prog.looks [] ∧ ∀ (j : Nat) t, fn.params[j]? = some t → Tryz.pinned.checked.prog.wantsStandIn t = false := by
 obtain rfl : f = 6 := Option.some.inj ((show Tryz.prog.funcNamed "foundry/foundrylaw14.CodeShapes" = some 6 by kernel_rfl).symm.trans hf) |>.symm
 obtain rfl : fn = Tryz.f6 := (Option.some.inj (Tryz.func6.symm.trans hfn)).symm
 refine ⟨by kernel_rfl, fun j t ht => ?_⟩
 rw [Tryz.params6] at ht
 have hm : t = 27 ∨ t = 30 ∨ t = 3 := by simpa using Array.mem_of_getElem? ht
 rcases hm with rfl | rfl | rfl
 ·exact (show Tryz.prog.wantsStandIn 27 = false by kernel_rfl)
 ·exact (show Tryz.prog.wantsStandIn 30 = false by kernel_rfl)
 ·exact (show Tryz.prog.wantsStandIn 3 = false by kernel_rfl)
theorem card : Rows.CodeShapesUptoCardSaid :=
 Claim7.holds_tied_plain_at .later [] _ _ _ _ saidUpto (fun _ h => by cases h) (by kernel_rfl) (fun _ h => by cases h) codeShapesUpto_row_tie rfl ⟨rfl, rfl⟩ (by kernel_rfl) rfl plain (by kernel_rfl)
end codeShapes

theorem codeShapes_card : Rows.CodeShapesUptoCardSaid := codeShapes.card
end
end Go.Proofs.YtfddibbignedkaaGreatDoor
