/- Chapter 14: what the laws of this seat share: the words, the contracts of code.Verify, Encode, Text and of the document's Verify. -/
import Derived.Test.YtfddibbignedkaaGreatDoorB3
set_option maxHeartbeats 8000000
set_option maxRecDepth 100000
set_option linter.unusedVariables false
set_option linter.unusedSimpArgs false
namespace Go.Proofs.YtfddibbignedkaaGreatDoor
section
namespace Q
open Go.RowKit YA YC YB
def qDJ.f (a0_0 : Int) (a0_1 : Int) (a0_2 : Int) (a0_3 : Int) : Option (Bool) := if 0 ≤ a0_3 ∧ a0_3 < 18446744073709551616 then some (Ins.okI a0_0 a0_1 a0_2 a0_3) else none
theorem qDJ.calls (a0_0 : Int) (a0_1 : Int) (a0_2 : Int) (a0_3 : Int) (r : Bool) (w : World) (h : qDJ.f a0_0 a0_1 a0_2 a0_3 = some r) :
  Calls Tryz.prog 18 #[.agg #[.int .i64 a0_0, .int .i64 a0_1, .int .i64 a0_2, .int .u64 a0_3]] w fun e w' => e = .returned (.bool r) ∧ Below w.heap.size w w' := by
 unfold qDJ.f at h
 split at h
 case isFalse => cases h
 rename_i hs
 obtain rfl := Option.some.inj h
 exact Ins.right_ins a0_0 a0_1 a0_2 a0_3 hs w
def qCG.f (a0_0 : Int) (_a0_1 : Int) (_a0_2 : Int) (_a0_3 : Int) : Option (Int) := some (Ins.sizeI a0_0)
theorem qCG.calls (a0_0 : Int) (a0_1 : Int) (a0_2 : Int) (a0_3 : Int) (r : Int) (w : World) (h : qCG.f a0_0 a0_1 a0_2 a0_3 = some r) :
  Calls Tryz.prog 24 #[.agg #[.int .i64 a0_0, .int .i64 a0_1, .int .i64 a0_2, .int .u64 a0_3]] w fun e w' => e = .returned (.int .i64 r) ∧ Below w.heap.size w w' := by
 unfold qCG.f at h
 obtain rfl := Option.some.inj h
 exact Ins.size_ins a0_0 a0_1 a0_2 a0_3 w
end Q
end
section
namespace Q
open Go.RowKit YA YC YB
open Val Ins
def qBB (R : Option (List S113) × Int × Int) (at_ : Int) : List Int × Int × Bool :=
 match R.1 with
 | none => ([], 0, false)
 | some out => if 0 ≤ at_ ∧ at_ < out.length ∧ (qA2 out at_).f0 = true then ((qA2 out at_).f1, ((qA2 out at_).f2.length : Int), true) else ([], 0, false)
theorem qDS (ps : List Int) (res : Int) (ls : List Int) (code : List S51) (fs : List S34) (vs : List Int) : ((qAS ps res ls code fs vs).1 = none ∧ (qAS ps res ls code fs vs).2.2 ≠ 0) ∨ ∃ out, qAS ps res ls code fs vs = (some out, 0, 0) := by
 by_cases h : (qAS ps res ls code fs vs).2.2 = 0
 rotate_left
 ·exact .inl ⟨(One.shapes_err h).1, h⟩
 obtain ⟨R, hR⟩ := One.shapes_zero h
 exact .inr ⟨R, hR.eq⟩
theorem shape_any {W : World} (A1 A2 A3 A4 A5 : Option Addr) (c1 c2 c3 c4 c5 : Nat) (res at_ : Int) {ps ls vs : List Int} {fs : List S34} {code : List S51} {okF : Nat → Prop} (hP : Kd.F (Kd.int .i64) W okF A1 ps.length ps) (hL : Kd.F (Kd.int .i64) W okF A2 ls.length ls) (hC : Kd.F k51 W okF A3 code.length code) (hF : Kd.F k34 W okF A4 fs.length fs) (hV : Kd.F (Kd.int .i64) W okF A5 vs.length vs) (hc1 : ps.length ≤ c1) (hc2 : ls.length ≤ c2)
  (hp1 : ps.length ≤ 2000000) (hl1 : ls.length ≤ 2000000) (hv1 : vs.length ≤ 2000000) (hf1 : fs.length ≤ 2000000) (hn3 : code.length ≤ 2000000) (hfs : ∀ x ∈ fs, x.f0.length ≤ 2000000) (hu : ∀ x ∈ code, u64S x = true) :
  Calls Tryz.prog 27 #[.agg #[.slice A1 ps.length c1, .int .i64 res, .slice A2 ls.length c2, .slice A3 code.length c3], .agg #[.slice A4 fs.length c4, .slice A5 vs.length c5], .int .i64 at_] W fun e w' => ∃ v, e = .returned (.tuple #[v, .int .i64 (qBB (qAS ps res ls code fs vs) at_).2.1, .bool (qBB (qAS ps res ls code fs vs) at_).2.2]) ∧ Kd.R (Kd.int .i64) 3 w' W.heap.size (fun _ => True) v (qBB (qAS ps res ls code fs vs) at_).1 ∧ Below W.heap.size W w' := by
 have hBB : Below W.heap.size W ((W.alloc (.cells #[.slice A1 ps.length c1, .int .i64 res, .slice A2 ls.length c2, .slice A3 code.length c3] 37)).alloc (.cells #[.slice A4 fs.length c4, .slice A5 vs.length c5] 41)) := ((Below.refl _ _).alloc (Nat.le_refl _) _).alloc (by simp) _
 have hs := fun W' (hW' : Below W.heap.size W W') => shapes_any (W := W') A1 A2 A3 A4 A5 c1 c2 c3 c4 c5 res (Kd.F_below hP hW') (Kd.F_below hL hW') (Kd.F_below hC hW') (Kd.F_below hF hW') (Kd.F_below hV hW') hc1 hc2 hp1 hl1 hv1 hf1 hn3 hfs hu
 have hor := qDS ps res ls code fs vs
 have hlen : ∀ out, qAS ps res ls code fs vs = (some out, 0, 0) → out.length ≤ 2000000 := fun out ho => by
  obtain ⟨R, hR⟩ := One.shapes_zero (ps := ps) (res := res) (ls := ls) (code := code) (fs := fs) (vs := vs) (by rw [ho])
  have := hR.eq
  rw [ho] at this
  injection this with this _
  injection this with this
  rw [this, hR.len]; exact hn3
 have hst : ∀ out, qAS ps res ls code fs vs = (some out, 0, 0) → ∀ i : Int, 0 ≤ i → i < out.length → (qA2 out i).f1.length ≤ 2000000 := fun out ho i h0 h1 => by
  obtain ⟨R, hR⟩ := One.shapes_zero (ps := ps) (res := res) (ls := ls) (code := code) (fs := fs) (vs := vs) (by rw [ho])
  have := hR.eq
  rw [ho] at this
  injection this with this _
  injection this with this
  subst this
  have hm : qA2 out i ∈ out := by
   unfold qA2
   rw [List.getD_eq_getElem?_getD, List.getElem?_eq_getElem (by omega)]
   exact List.getElem_mem _
  have := (hR.sh _ hm).1
  omega
 obtain ⟨RR, hRR⟩ : ∃ RR, RR = qAS ps res ls code fs vs := ⟨_, rfl⟩
 rw [← hRR] at hs hor hlen hst ⊢
 obtain ⟨q1, hq1⟩ : ∃ q, q = ps.length := ⟨_, rfl⟩
 obtain ⟨q2, hq2⟩ : ∃ q, q = ls.length := ⟨_, rfl⟩
 obtain ⟨q3, hq3⟩ : ∃ q, q = code.length := ⟨_, rfl⟩
 obtain ⟨q4, hq4⟩ : ∃ q, q = fs.length := ⟨_, rfl⟩
 obtain ⟨q5, hq5⟩ : ∃ q, q = vs.length := ⟨_, rfl⟩
 rw [← hq1, ← hq2, ← hq3, ← hq4, ← hq5] at hs hBB ⊢
 have HS := am hs
 have HBB := am hBB
 clear hP hL hC hF hV hc1 hc2 hp1 hl1 hv1 hf1 hn3 hfs hu hRR hs hBB hq1 hq2 hq3 hq4 hq5
 rcases hor with ⟨hno, hne⟩ | ⟨out, hout⟩
 ·have hq : (RR.2.2 != 0) = true := bne_iff_ne.mpr hne
  have hA : qBB RR at_ = ([], 0, false) := by unfold qBB; rw [hno]
  rw [hA]
  have HNO := am hno
  clear hno hlen hst hA
  obtain ⟨er, her⟩ : ∃ er, er = RR.2.2 := ⟨_, rfl⟩
  go_enter Tryz.func27, Tryz.ntmps27
  go_wp2_with (go_at_call 41; refine (HS.out _ HBB.out).mono ?_; rintro e w1 ⟨v, rfl, _, hn, hb⟩; obtain rfl := hn HNO.out; clear hn; have HB1 : qAd (Below W.heap.size W w1) := ⟨HBB.out.trans (hb.mono HBB.out.size)⟩; clear hb)
  go_ret3
  exact ⟨_, rfl, Kd.R_nil _ _ _ _ _, HB1.out⟩
 ·have hl := hlen out hout
  have hst1 := hst out hout
  clear hst
  clear hlen
  subst hout
  have hA : qBB (some out, 0, 0) at_ = if 0 ≤ at_ ∧ at_ < out.length ∧ (qA2 out at_).f0 = true then ((qA2 out at_).f1, ((qA2 out at_).f2.length : Int), true) else ([], 0, false) := rfl
  rw [hA]
  clear hA
  by_cases h0 : at_ < 0
  ·rw [if_neg (by omega)]
   clear hst1
   go_enter Tryz.func27, Tryz.ntmps27
   go_wp2_with (go_at_call 41; refine (HS.out _ HBB.out).mono ?_; rintro e w1 ⟨v, rfl, _, _, hb⟩; have HB1 : qAd (Below W.heap.size W w1) := ⟨HBB.out.trans (hb.mono HBB.out.size)⟩; clear hb)
   go_ret3
   exact ⟨_, rfl, Kd.R_nil _ _ _ _ _, HB1.out⟩
  by_cases h1 : (out.length : Int) ≤ at_
  ·rw [if_neg (by omega)]
   clear hst1
   go_enter Tryz.func27, Tryz.ntmps27
   go_wp2_with (go_at_call 41; refine (HS.out _ HBB.out).mono ?_; rintro e w1 ⟨v, rfl, hn, _, hb⟩; have HB1 : qAd (Below W.heap.size W w1) := ⟨HBB.out.trans (hb.mono HBB.out.size)⟩; clear hb; obtain ⟨A, c, rfl, hac, hCC⟩ := Kd.N_reads (hn out rfl); clear hn hCC)
   go_ret3
   exact ⟨_, rfl, Kd.R_nil _ _ _ _ _, HB1.out⟩
  have hst := hst1 at_ (by omega) (by omega)
  clear hst1
  obtain ⟨x, hx⟩ : ∃ x, x = qA2 out at_ := ⟨_, rfl⟩
  rw [← hx] at hst ⊢
  have hat := fun (w1 : World) (A : Option Addr) (hCC : Kd.C k113 w1 A out.length out) => at_T113 hCC at_ (by omega) (by omega)
  rw [← hx] at hat
  clear hx
  have HAT := am hat
  obtain ⟨n, hn⟩ : ∃ n, n = out.length := ⟨_, rfl⟩
  have h2 : at_ < (n : Int) := by omega
  rw [← hn] at HAT h1 ⊢
  have HN := am hn
  have h3 : 0 ≤ at_ := by omega
  have HST := am hst
  clear hst hat hn
  cases hm : x.f0 with
  | false =>
   rw [if_neg (by simp)]
   have HM := am hm
   clear hm
   go_enter Tryz.func27, Tryz.ntmps27
   go_wp2_with (go_at_call 41; refine (HS.out _ HBB.out).mono ?_; rintro e w1 ⟨v, rfl, hn, _, hb⟩; have HB1 : qAd (Below W.heap.size W w1) := ⟨HBB.out.trans (hb.mono HBB.out.size)⟩; clear hb; obtain ⟨A, c, rfl, hac, hCC⟩ := Kd.N_reads (hn out rfl); clear hn; obtain ⟨ad, A1, c1, A2, c2, rfl, k0, k1, k2, _⟩ := HAT.out w1 A (by rw [HN.out]; exact hCC); rw [HM.out] at k0; rw [← HN.out]; clear hCC)
   go_ret3
   exact ⟨_, rfl, Kd.R_nil _ _ _ _ _, HB1.out⟩
  | true =>
   rw [if_pos ⟨h3, h2, rfl⟩]
   have HM := am hm
   clear hm
   go_enter Tryz.func27, Tryz.ntmps27
   go_wp2_with (first | (go_at_call 41; refine (HS.out _ HBB.out).mono ?_; rintro e w1 ⟨v, rfl, hn, _, hb⟩; have HB1 : qAd (Below W.heap.size W w1) := ⟨HBB.out.trans (hb.mono HBB.out.size)⟩; clear hb; obtain ⟨A, c, rfl, hac, hCC⟩ := Kd.N_reads (hn out rfl); clear hn; obtain ⟨ad, A1, c1, A2, c2, rfl, k0, k1, k2, hl1, hC1, _⟩ := HAT.out w1 A (by rw [HN.out]; exact hCC); rw [HM.out] at k0; rw [← HN.out]; clear hCC; have HC1 := am hC1; clear hC1) | fail)
   go_region_held3 (fun W' => W'.cell? ⟨(ad.add (at_.toNat * 3)).block, (ad.add (at_.toNat * 3)).off + 1, none⟩ = some (.slice A1 x.f1.length c1) ∧ W'.cell? ⟨(ad.add (at_.toNat * 3)).block, (ad.add (at_.toNat * 3)).off + 2, none⟩ = some (.slice A2 x.f2.length c2))
    (first | go_keep | exact ⟨(hb2.cell (World.block_lt_of_cell? _ _ k1)).trans k1, (hb2.cell (World.block_lt_of_cell? _ _ k2)).trans k2⟩)
    (first | (go_at_call 54; refine (qCF A1 c1 x.f1 _ (Kd.C_drew HC1.out) HST.out).mono ?_; rintro e w2 ⟨v2, rfl, hR2, hb2⟩; have HR2 := am hR2; clear hR2))
   all_goals go_wp2_with fail
   all_goals go_ret3
   all_goals exact ⟨_, rfl, Kd.R_lower HR2.out HB1.out.size, HB1.out.drew.trans (hb2.mono HB1.out.size)⟩
def qBI.f (l0_0 : List Int) (a0_1 : Int) (l0_2 : List Int) (l0_3 : List (S51)) (l1_0 : List (S34)) (l1_1 : List Int) (a2 : Int) : Option (List Int × Int × Bool) := if vSz l0_0 l0_2 l0_3 l1_0 l1_1 = true then some (qBB (qAS l0_0 a0_1 l0_2 l0_3 l1_0 l1_1) a2) else none
theorem qBI.calls (A0_0 : Option Addr) (c0_0 : Nat) (l0_0 : List Int) (a0_1 : Int) (A0_2 : Option Addr) (c0_2 : Nat) (l0_2 : List Int) (A0_3 : Option Addr) (c0_3 : Nat) (l0_3 : List (S51)) (A1_0 : Option Addr) (c1_0 : Nat) (l1_0 : List (S34)) (A1_1 : Option Addr) (c1_1 : Nat) (l1_1 : List Int) (a2 : Int) (r1 : List Int) (r2 : Int) (r3 : Bool) (w : World) (hr0_0 : Kd.C (Kd.int .i64) w A0_0 l0_0.length l0_0) (hc0_0 : l0_0.length ≤ c0_0) (hr0_2 : Kd.C (Kd.int .i64) w A0_2 l0_2.length l0_2) (hc0_2 : l0_2.length ≤ c0_2) (hr0_3 : Kd.C k51 w A0_3 l0_3.length l0_3) (hc0_3 : l0_3.length ≤ c0_3) (hr1_0 : Kd.C k34 w A1_0 l1_0.length l1_0) (hc1_0 : l1_0.length ≤ c1_0) (hr1_1 : Kd.C (Kd.int .i64) w A1_1 l1_1.length l1_1) (hc1_1 : l1_1.length ≤ c1_1) (h : qBI.f l0_0 a0_1 l0_2 l0_3 l1_0 l1_1 a2 = some (r1, r2, r3)) :
  Calls Tryz.prog 27 #[.agg #[.slice A0_0 l0_0.length c0_0, .int .i64 a0_1, .slice A0_2 l0_2.length c0_2, .slice A0_3 l0_3.length c0_3], .agg #[.slice A1_0 l1_0.length c1_0, .slice A1_1 l1_1.length c1_1], .int .i64 a2] w fun e w' => ∃ v0_ : Value, e = .returned (.tuple #[v0_, .int .i64 r2, .bool r3]) ∧ Kd.R (Kd.int .i64) 3 w' w.heap.size (fun _ => True) v0_ r1 ∧ Below w.heap.size w w' := by
 unfold qBI.f at h
 split at h
 ·rename_i hs
  injection h with h
  simp only [vSz, Bool.and_eq_true, decide_eq_true_eq, List.all_eq_true] at hs
  obtain ⟨h1, h2, h3, h4, h5, h6, h7⟩ := hs
  have hv := shape_any A0_0 A0_2 A0_3 A1_0 A1_1 c0_0 c0_2 c0_3 c1_0 c1_1 a0_1 a2 (okF := fun _ => True) (Kd.F_mono (Kd.C_F (Kd.heap_int _) hr0_0) (fun _ _ => trivial)) (Kd.F_mono (Kd.C_F (Kd.heap_int _) hr0_2) (fun _ _ => trivial)) (Kd.F_mono (Kd.C_F heapIns hr0_3) (fun _ _ => trivial)) (Kd.F_mono (Kd.C_F heapSig hr1_0) (fun _ _ => trivial)) (Kd.F_mono (Kd.C_F (Kd.heap_int _) hr1_1) (fun _ _ => trivial)) hc0_0 hc0_2 h1 h2 h5 h4 h3 h7 h6
  rw [h] at hv
  exact hv
 ·cases h
end Q
end
end Go.Proofs.YtfddibbignedkaaGreatDoor
