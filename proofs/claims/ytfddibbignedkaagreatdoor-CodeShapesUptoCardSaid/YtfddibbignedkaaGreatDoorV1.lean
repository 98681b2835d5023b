/- What CodeShapes rests on: the words, the contracts of code.Shape and of the document's Shape. -/
import Derived.Test.YtfddibbignedkaaGreatDoorR2
import Derived.Deep.LoopGhost
import Derived.Deep.Cut
import Derived.Deep.CutRange
set_option maxHeartbeats 8000000
set_option maxRecDepth 100000
set_option linter.unusedVariables false
set_option linter.unusedSimpArgs false
namespace Go.Proofs.YtfddibbignedkaaGreatDoor
section
namespace Q
open Go.RowKit YA YB YC
open Val Ins
namespace RV
theorem qBP {fn : Func} {t u v x : Tmp} (h : fn.results = #[.tmp t, .tmp u, .tmp v, .tmp x]) (tmps : Array Value) (P : Program) (w : World) : (results fn tmps).run P w = .ok (.tuple #[tmps.getD t undef, tmps.getD u undef, tmps.getD v undef, tmps.getD x undef]) w := by simp [results, h]
theorem vinfo_rshape : (Tryz.prog.info? 117).map (fun i => (i.zero, i.size, i.bytes)) = some (some (.agg #[.slice none 0 0, .slice none 0 0]), 2, 48) := by kernel_rfl
theorem FK_rzero (W : World) : Kd.FK k117 W (fun _ => False) z117 [.slice none 0 0, .slice none 0 0] :=
 k117_mkF W _ ⟨[], []⟩ (nl 0) (Kd.F_nil _ _ _) (nl 0) (Kd.F_nil _ _ _)
theorem F_set7 {α : Type} {d : Kd α} {W : World} {ok : Nat → Prop} {A : Option Addr} {n : Nat} {xs : List α} (h : Kd.F d W ok A n xs) (g : Nat) (hg : ∀ k, ok k → k ≠ g) (b0 b1 b2 b3 b4 b5 b6 : Value) : Kd.F d (((((((W.setCell ⟨g, 0, none⟩ b0).setCell ⟨g, 1, none⟩ b1).setCell ⟨g, 2, none⟩ b2).setCell ⟨g, 3, none⟩ b3).setCell ⟨g, 4, none⟩ b4).setCell ⟨g, 5, none⟩ b5).setCell ⟨g, 6, none⟩ b6) ok A n xs :=
 Kd.F_far (Kd.F_far (Kd.F_far (Kd.F_far (Kd.F_far (Kd.F_far (Kd.F_far h hg _) hg _) hg _) hg _) hg _) hg _) hg _
theorem found_any {W : World} (A1 A2 A3 A4 A5 : Option Addr) (c1 c2 c3 c4 c5 : Nat) (res : Int) {ps ls vs : List Int} {fs : List S24} {code : List S50} {okF : Nat → Prop} (hP : Kd.F (Kd.int .i64) W okF A1 ps.length ps) (hL : Kd.F (Kd.int .i64) W okF A2 ls.length ls) (hC : Kd.F k50 W okF A3 code.length code) (hF : Kd.F k24 W okF A4 fs.length fs) (hV : Kd.F (Kd.int .i64) W okF A5 vs.length vs) (hc1 : ps.length ≤ c1) (hc2 : ls.length ≤ c2) (hc3 : code.length ≤ c3) (hc4 : fs.length ≤ c4) (hc5 : vs.length ≤ c5)
  (hp1 : ps.length ≤ 2000000) (hl1 : ls.length ≤ 2000000) (hv1 : vs.length ≤ 2000000) (hf1 : fs.length ≤ 2000000) (hn3 : code.length ≤ 2000000) (hfs : ∀ x ∈ fs, x.f0.length ≤ 2000000) (ha he : Int)
  (hH : ∀ W1, Below W.heap.size W W1 → Calls Tryz.prog 66 #[.agg #[.slice A1 ps.length c1, .int .i64 res, .slice A2 ls.length c2, .slice A3 code.length c3], .agg #[.slice A4 fs.length c4, .slice A5 vs.length c5]] W1 fun e w' => e = .returned (.tuple #[.int .i64 ha, .int .i64 he]) ∧ Below W1.heap.size W1 w')
  (hok : he = 0 → 0 < code.length ∧ code.length ≤ 4096 ∧ ∀ x ∈ code, 1 ≤ x.f0 ∧ x.f0 ≤ 17 ∧ 0 ≤ x.f1) :
  Calls Tryz.prog 43 #[.agg #[.slice A1 ps.length c1, .int .i64 res, .slice A2 ls.length c2, .slice A3 code.length c3], .agg #[.slice A4 fs.length c4, .slice A5 vs.length c5]] W (FoPost (if he = 0 then qCK ls vs fs res code (code.length + 1) ((List.replicate code.length false).set 0 true) (List.replicate code.length false) (List.replicate code.length z117) else (none, ha, he)) W) := by
 obtain ⟨RR, hRR⟩ := eX ((if he = 0 then qCK ls vs fs res code (code.length + 1) ((List.replicate code.length false).set 0 true) (List.replicate code.length false) (List.replicate code.length z117) else (none, ha, he)))
 rw [← hRR]
 obtain ⟨n, hn⟩ := eL code
 obtain ⟨p1, hpp⟩ := eL ps
 obtain ⟨l1, hll⟩ := eL ls
 obtain ⟨f1, hff⟩ := eL fs
 obtain ⟨v1, hvv⟩ := eL vs
 rw [← hn, ← hpp, ← hll, ← hff, ← hvv] at hH
 rw [← hn] at hC hn3 hok hRR
 have HL := am (Kd.F_bound hL)
 have HC := am (Kd.F_bound hC)
 have HF := am (Kd.F_bound hF)
 have HV := am (Kd.F_bound hV)
 have HFS := am hfs
 have HN := am hn
 have HR := am hRR
 have HH := am hH
 have HOK := am hok
 have HZ : qAc (ls.length ≤ c2 ∧ fs.length ≤ 2000000 ∧ vs.length ≤ c5 ∧ ls.length ≤ 2000000 ∧ vs.length ≤ 2000000) := ⟨⟨hc2, hf1, hc5, hl1, hv1⟩⟩
 rw [← hn, ← hpp, ← hll, ← hff, ← hvv]
 have HLL := am hll
 have HFF := am hff
 have HVV := am hvv
 clear hP hL hC hF hV hfs hRR hH hok hc1 hc2 hc3 hc4 hc5 hpp hn hll hff hvv hp1 hl1 hv1 hf1
 obtain ⟨W0, hW0⟩ := eX ((W.alloc (.cells #[.slice A1 p1 c1, .int .i64 res, .slice A2 l1 c2, .slice A3 n c3] 27)).alloc (.cells #[.slice A4 f1 c4, .slice A5 v1 c5] 30))
 have HX : qAc (FB W.heap.size #[.slice A1 p1 c1, .int .i64 res, .slice A2 l1 c2, .slice A3 n c3] #[.slice A4 f1 c4, .slice A5 v1 c5] W0) := ⟨hW0 ▸ ⟨al_e _ (al_n _ _ rfl), al_n _ _ (by simp)⟩⟩
 have HB : qAc (Below W.heap.size W W0) := ⟨hW0 ▸ ((Below.refl W.heap.size W).alloc (nl _) _).alloc (by simp) _⟩
 go_enter Tryz.func43, Tryz.ntmps43
 go_upto_region 1 with fail
 rw [← hW0]
 clear hW0
 have xf0 := (qAa HX.out.1 0).trans rfl
 have xf1 := (qAa HX.out.1 1).trans rfl
 have xf2 := (qAa HX.out.1 2).trans rfl
 have xf3 := (qAa HX.out.1 3).trans rfl
 have xp0 := (qAa HX.out.2 0).trans rfl
 have xp1 := (qAa HX.out.2 1).trans rfl
 by_cases he0 : he = 0
 case neg =>
  have hq : (he != 0) = true := bne_iff_ne.mpr he0
  have e := HR.out
  rw [if_neg he0] at e
  go_wp2_with (go_at_call 66; refine (HH.out _ HB.out).mono ?_; rintro e w1 ⟨rfl, hb1⟩; have HB1 := am (HB.out.trans (hb1.mono HB.out.size)); clear hb1)
  refine bodyPost_ret (qBP rfl _ _ _) rfl ?_
  refine ⟨_, _, by rw [e]; rfl, fun m s h => ?_, HB1.out⟩
  rw [e] at h
  cases h
 have hnp := HOK.out he0
 have e := HR.out
 rw [if_pos he0] at e
 have HR := am e
 subst he0
 clear e
 go_upto_region 5 with (go_at_call 66; refine (HH.out _ HB.out).mono ?_; rintro e w1 ⟨rfl, hb1⟩; replace HX := am (HX.out.below hb1); replace HB := am (HB.out.trans (hb1.mono HB.out.size)); clear xf0 xf1 xf2 xf3 xp0 xp1; have xf3 := (qAa HX.out.1 3).trans rfl; clear hb1)
 obtain ⟨wA, hwA⟩ := eX w1
 rw [← hwA] at HX HB xf3 ⊢
 clear hwA HH HOK xf3
 go_upto_region 8 with (first
   | (at_make; refine Kd.R_make Kd.bool (w0 := wA) wA.heap.size 4 rfl (N := 30) rfl 91 _ _ rfl (n : Int) rfl rfl Tryz.underlying91 _ 1 qDy rfl (by decide) (by decide) false (ok := fun q => wA.heap.size ≤ q) (okp := fun _ => False) rfl (fun _ h => h.elim) (nl _) (by omega) (by omega) (Below.refl _ _) (nl _) ?_; intro vM w2 hRM _ hg2 _; rw [Int.toNat_natCast] at hRM; obtain ⟨M, cM, rfl, hM1, hM2, _⟩ := Kd.R_form hRM (by simpa using hnp.1); rw [List.length_replicate] at hRM; have hb2 : Below wA.heap.size wA w2 := (Below.refl _ _).grown hg2 (nl _) (by simp); have HX2 := am (HX.out.below hb2); have HB2 := am (HB.out.trans (hb2.mono HB.out.size)); have HRM := am hRM; clear hRM hg2 hb2)
   | (at_make; refine Kd.R_make Kd.bool (w0 := w2) w2.heap.size 4 rfl (N := 32) rfl 91 _ _ rfl (n : Int) rfl rfl Tryz.underlying91 _ 1 qDy rfl (by decide) (by decide) false (ok := fun q => w2.heap.size ≤ q) (okp := fun _ => False) rfl (fun _ h => h.elim) (nl _) (by omega) (by omega) (Below.refl _ _) (nl _) ?_; intro vD w3 hRD _ hg3 _; rw [Int.toNat_natCast] at hRD; obtain ⟨D, cD, rfl, hD1, hD2, _⟩ := Kd.R_form hRD (by simpa using hnp.1); rw [List.length_replicate] at hRD; have hb3 : Below w2.heap.size w2 w3 := (Below.refl _ _).grown hg3 (nl _) (by simp); have HX3 := am (HX2.out.below hb3); have HB3 := am (HB2.out.trans (hb3.mono HB2.out.size)); have HRM3 := am (Kd.R_below HRM.out hb3); have HRD := am hRD; clear hRD hg3 hb3)
   | (at_make; refine Kd.N_make k117 (w0 := w3) 0 117 rfl (N' := 34) rfl 92 _ _ rfl (n : Int) rfl rfl Tryz.underlying92 _ 48 vinfo_rshape rfl (by decide) (by decide) z117 (ok := fun q => w3.heap.size ≤ q) (FK_rzero _) (fun _ h => h.elim) (nl _) (by omega) (by omega) (Below.refl _ _) (Nat.zero_le _) ?_; intro vS w4 hNS _ hg4 hvS; rw [Int.toNat_natCast] at hNS; obtain ⟨S, cS, rfl, _, hS2, _⟩ := Kd.N_form hNS (by simpa using hnp.1); rw [List.length_replicate] at hNS; have hS1 : w3.heap.size ≤ S := (by { obtain ⟨b, hb, hl⟩ := hvS; simp [Value.ownBlock] at hb; omega }); have hb4 : Below w3.heap.size w3 w4 := (Below.refl _ _).grown hg4 (nl _) (by simp); have HX4 := am (HX3.out.below hb4); have HB4 := am (HB3.out.trans (hb4.mono HB3.out.size)); have HRM4 := am (Kd.R_below HRM3.out hb4); have HRD4 := am (Kd.R_below HRD.out hb4); have HNS := am hNS; clear hNS hg4 hvS hb4))
 obtain ⟨m0, m0f⟩ := Kd.R_celln (α := Bool) false HRM4.out 0 (Int.le_refl 0) (by omega)
 have m0' : w4.cell? ⟨M, 0, none⟩ = some (.bool (rdOf false (List.replicate n false) 0)) := m0
 have m0f' : w4.frozen? ⟨M, 0, none⟩ = false := m0f
 have hMD : M < D := by omega
 have hDS : D < S := by omega
 have hWM : W.heap.size + 1 < M := Nat.lt_of_lt_of_le HX.out.lt hM1
 clear m0 m0f
 go_upto_region 9 with fail
 obtain ⟨w5, hw5⟩ : ∃ w5, w5 = w4.setCell ⟨M, 0, none⟩ (.bool true) := ⟨_, rfl⟩
 have HM5 : qAc (Kd.R Kd.bool 4 w5 0 (fun q => q = M) (.slice (some ⟨M, 0, none⟩) n cM) ((List.replicate n false).set 0 true)) := ⟨hw5 ▸ (Kd.R_putg (α := Bool) (Kd.R_mono (Kd.R_tight rfl (Kd.R_lower HRM4.out (Nat.zero_le _))) (fun k hk => by simpa [Value.ownBlock] using hk)) 0 true).1⟩
 have HD5 : qAc (Kd.R Kd.bool 4 w5 0 (fun q => q = D) (.slice (some ⟨D, 0, none⟩) n cD) (List.replicate n false)) := ⟨hw5 ▸ Kd.R_far (p := ⟨M, 0, none⟩) (Kd.R_mono (Kd.R_tight rfl (Kd.R_lower HRD4.out (Nat.zero_le _))) (fun k hk => by simpa [Value.ownBlock] using hk)) (fun k hk => by rw [hk]; exact Nat.ne_of_gt hMD) _⟩
 have HS5 : qAc (Kd.N k117 117 w5 0 (fun q => q ≠ M ∧ q ≠ D) (.slice (some ⟨S, 0, none⟩) n cS) (List.replicate n z117)) := ⟨hw5 ▸ Kd.N_far (p := ⟨M, 0, none⟩) (Kd.N_mono HNS.out (fun k hk => show k ≠ M ∧ k ≠ D from ⟨by omega, by omega⟩)) (fun k hk => hk.1) _⟩
 have HB5 : qAc (Below W.heap.size W w5) := ⟨hw5 ▸ HB4.out.setCell (show W.heap.size ≤ M by omega) _⟩
 have HX5 : qAc (FB W.heap.size #[.slice A1 p1 c1, .int .i64 res, .slice A2 l1 c2, .slice A3 n c3] #[.slice A4 f1 c4, .slice A5 v1 c5] w5) := ⟨hw5 ▸ ⟨(Below.heap_setCell _ _ _ _ (show W.heap.size ≠ M by omega)).trans HX4.out.1, (Below.heap_setCell _ _ _ _ (show W.heap.size + 1 ≠ M by omega)).trans HX4.out.2⟩⟩
 have hz5 : w5.heap.size = w4.heap.size := by rw [hw5]; simp [World.setCell]
 have HT5 : qAc (S < w5.heap.size) := ⟨by omega⟩
 rw [← hw5]
 clear hw5 hz5 m0' m0f' HNS HRD4 HRM4 HRD HRM3 HRM HX HX2 HX3 HX4 HB HB2 HB3 HB4
 have HSM5 : qAc (∀ y ∈ List.replicate n z117, qCA y) := ⟨fun y hy => by
   rw [List.mem_replicate] at hy
   rw [hy.2]
   exact ⟨Nat.zero_le _, Nat.zero_le _, fun y hy => by cases hy⟩⟩
 have HST : qAc (qCK ls vs fs res code (n + 1) ((List.replicate n false).set 0 true) (List.replicate n false) (List.replicate n z117) = RR) := ⟨HR.out.symm⟩
 go_loopg [14, 15] (n + 1) (fun gg _ _ wr => ∃ (met dn : List Bool) (shs : List S117), qDi dn < gg ∧ qAc (qCK ls vs fs res code gg met dn shs = RR) ∧ qAc (∀ y ∈ shs, qCA y) ∧ qAc (Kd.R Kd.bool 4 wr 0 (fun q => q = M) (.slice (some ⟨M, 0, none⟩) n cM) met) ∧ qAc (Kd.R Kd.bool 4 wr 0 (fun q => q = D) (.slice (some ⟨D, 0, none⟩) n cD) dn) ∧ qAc (Kd.N k117 117 wr 0 (fun q => q ≠ M ∧ q ≠ D) (.slice (some ⟨S, 0, none⟩) n cS) shs) ∧ qAc (Below W.heap.size W wr) ∧ qAc (S < wr.heap.size) ∧ qAc (FB W.heap.size #[.slice A1 p1 c1, .int .i64 res, .slice A2 l1 c2, .slice A3 n c3] #[.slice A4 f1 c4, .slice A5 v1 c5] wr))
 case atStart => exact ⟨_, _, _, by rw [qCH]; omega, HST, HSM5, HM5, HD5, HS5, HB5, HT5, HX5⟩
 case round =>
  obtain ⟨met, dn, shs, hgu, HL1, HSM, HM, HD, HS, HB, HT, HX⟩ := hrel
  obtain ⟨g, rfl⟩ : ∃ g, gk = g + 1 := ⟨gk - 1, by omega⟩
  obtain ⟨wo, hwo⟩ := eX wr
  rw [← hwo] at HM HD HS HB HT HX ⊢
  clear hwo HM5 HD5 HS5 HB5 HT5 HX5 HST HSM5 HR
  have HML : qAc (met.length = n) := ⟨(Kd.R_reads' HM.out).1.symm⟩
  have HDL : qAc (dn.length = n) := ⟨(Kd.R_reads' HD.out).1.symm⟩
  have HSL : qAc (shs.length = n) := ⟨(Kd.N_reads' HS.out).1.symm⟩
  go_wp2_with fail
  go_loopg [14] n (fun gg s14 wy => ∃ kk : Nat, kk ≤ n ∧ n - kk ≤ gg ∧ s14 = .int .i64 kk ∧ qAc (qCx kk (met.drop kk) (dn.drop kk) = qCx 0 met dn) ∧ wo = wy)
  case atStart => exact ⟨0, Nat.zero_le _, by omega, rfl, ⟨rfl⟩, rfl⟩
  case round =>
   obtain ⟨kk, hkk, hg, rfl, HNX, rfl⟩ := hrel
   by_cases hlt : kk < n
   rotate_left
   ·have e0 : n = kk := by omega
    subst e0
    have hnot : ¬ (n : Int) < (n : Int) := by omega
    have HRL : qAc (RR = (some (met, shs), 0, 0)) := ⟨by
      have h1 := HNX.out
      rw [List.drop_of_length_le (by have := HML.out; omega)] at h1
      rw [← HL1.out]
      unfold qCK
      rw [← h1]
      rfl⟩
    go_wp2_with fail
    refine bodyPost_ret (qBP rfl _ _ _) rfl ?_
    refine ⟨_, _, by rw [HRL.out]; rfl, fun m s h => ?_, HB.out⟩
    rw [HRL.out] at h
    injection h with h
    injection h with h1 h2
    subst h1 h2
    exact ⟨Kd.R_mono HM.out (fun _ _ => trivial), Kd.N_mono HS.out (fun _ _ => trivial)⟩
   have hltz : (kk : Int) < (n : Int) := by omega
   have h0 : (0 : Int) ≤ (kk : Int) := by omega
   obtain ⟨x0, x0f⟩ := Kd.R_celln (α := Bool) false HM.out (kk : Int) h0 hltz
   obtain ⟨y0, y0f⟩ := Kd.R_celln (α := Bool) false HD.out (kk : Int) h0 hltz
   rw [Int.toNat_natCast] at x0 x0f y0 y0f
   obtain ⟨mb, hmb⟩ : ∃ b, b = rdOf false met (kk : Int) := ⟨_, rfl⟩
   obtain ⟨db, hdb⟩ : ∃ b, b = rdOf false dn (kk : Int) := ⟨_, rfl⟩
   rw [← hmb] at x0
   rw [← hdb] at y0
   have hmx : met[kk]? = some mb := by rw [hmb]; exact qCa met false kk (by have := HML.out; omega)
   have hdx : dn[kk]? = some db := by rw [hdb]; exact qCa dn false kk (by have := HDL.out; omega)
   have x0' : wo.cell? ⟨M, kk, none⟩ = some (.bool mb) := x0
   have y0' : wo.cell? ⟨D, kk, none⟩ = some (.bool db) := y0
   have hnx := HNX.out
   rw [List.drop_eq_getElem_cons (show kk < met.length by have := HML.out; omega), List.drop_eq_getElem_cons (show kk < dn.length by have := HDL.out; omega), nextR_cons] at hnx
   rw [List.getElem?_eq_getElem (by have := HML.out; omega)] at hmx
   rw [List.getElem?_eq_getElem (by have := HDL.out; omega)] at hdx
   injection hmx with hmx
   injection hdx with hdx
   rw [hmx, hdx] at hnx
   have HDX : qAc (dn[kk]? = some db) := ⟨by rw [List.getElem?_eq_getElem (by have := HDL.out; omega), hdx]⟩
   clear x0 y0 hmx hdx hmb hdb
   cases mb with
   | false =>
    have HN2 : qAc (qCx (kk + 1) (met.drop (kk + 1)) (dn.drop (kk + 1)) = qCx 0 met dn) := ⟨by simpa using hnx⟩
    clear hnx
    go_wp2_with fail
    go_roundg (n - (kk + 1))
    case measure => omega
    case rel => exact ⟨kk + 1, by omega, by omega, by go_num, HN2, rfl⟩
   | true =>
    cases db with
    | true =>
     have HN2 : qAc (qCx (kk + 1) (met.drop (kk + 1)) (dn.drop (kk + 1)) = qCx 0 met dn) := ⟨by simpa using hnx⟩
     clear hnx
     go_wp2_with fail
     go_roundg (n - (kk + 1))
     case measure => omega
     case rel => exact ⟨kk + 1, by omega, by omega, by go_num, HN2, rfl⟩
    | false =>
     have HN2 : qAc (qCx 0 met dn = some kk) := ⟨by simpa using hnx.symm⟩
     clear hnx
     have hne : ((kk : Int) == (n : Int)) = false := bn (by omega)
     go_upto_region 15 with fail
     obtain ⟨wd, hwd⟩ : ∃ wd, wd = wo.setCell ⟨D, kk, none⟩ (.bool true) := ⟨_, rfl⟩
     have HMd : qAc (Kd.R Kd.bool 4 wd 0 (fun q => q = M) (.slice (some ⟨M, 0, none⟩) n cM) met) := ⟨hwd ▸ Kd.R_far (p := ⟨D, kk, none⟩) HM.out (fun k hk => by rw [hk]; exact Nat.ne_of_lt hMD) _⟩
     have HDd : qAc (Kd.R Kd.bool 4 wd 0 (fun q => q = D) (.slice (some ⟨D, 0, none⟩) n cD) (dn.set kk true)) := ⟨by
       have h_ := (Kd.R_putg (α := Bool) HD.out (kk : Int) true).1
       rw [Int.toNat_natCast] at h_
       exact hwd ▸ h_⟩
     have HSd : qAc (Kd.N k117 117 wd 0 (fun q => q ≠ M ∧ q ≠ D) (.slice (some ⟨S, 0, none⟩) n cS) shs) := ⟨hwd ▸ Kd.N_far (p := ⟨D, kk, none⟩) HS.out (fun k hk => hk.2) _⟩
     have HBd : qAc (Below W.heap.size W wd) := ⟨hwd ▸ HB.out.setCell (show W.heap.size ≤ D by omega) _⟩
     have HXd : qAc (FB W.heap.size #[.slice A1 p1 c1, .int .i64 res, .slice A2 l1 c2, .slice A3 n c3] #[.slice A4 f1 c4, .slice A5 v1 c5] wd) := ⟨hwd ▸ ⟨(Below.heap_setCell _ _ _ _ (show W.heap.size ≠ D by omega)).trans HX.out.1, (Below.heap_setCell _ _ _ _ (show W.heap.size + 1 ≠ D by omega)).trans HX.out.2⟩⟩
     have hzd : wd.heap.size = wo.heap.size := by rw [hwd]; simp [World.setCell]
     have HTd : qAc (S < wd.heap.size) := ⟨by have := HT.out; omega⟩
     rw [← hwd]
     clear hwd hzd HM HD HS HB HX HT x0' y0' x0f y0f HNX
     obtain ⟨E1, d1, E2, d2, y0, y1, yl1, yl2, Y1, Y2, _⟩ := qDA HSd.out (kk : Int) h0 hltz
     obtain ⟨ad, ea, k0, k1, k2, k3⟩ := at_T50 (Kd.F_now (Kd.F_below HC.out HBd.out)) (kk : Int) h0 hltz
     subst ea
     obtain ⟨ad', ea', k0', _⟩ := at_T50 (Kd.F_now HC.out) (kk : Int) h0 hltz
     obtain rfl := Option.some.inj ea'
     rw [Int.toNat_natCast] at k0'
     have HAD : qAc ((ad.add (kk * 4)).block < W.heap.size) := ⟨bl k0'⟩
     clear k0' ea'
     rw [Int.toNat_natCast] at k0 k1 k2 k3 y0 y1
     obtain ⟨sh, hsh⟩ : ∃ x, x = qA6 shs (kk : Int) := ⟨_, rfl⟩
     obtain ⟨xi, hxi⟩ : ∃ x, x = qA7 code (kk : Int) := ⟨_, rfl⟩
     rw [← hsh] at y0 y1 yl1 yl2 Y1 Y2
     rw [← hxi] at k0 k1 k2 k3
     have hxm : xi ∈ code := by
      rw [hxi]; unfold qA7
      rw [List.getD_eq_getElem?_getD, List.getElem?_eq_getElem (by have := HN.out; omega)]; exact List.getElem_mem _
     have hsm : sh ∈ shs := by
      rw [hsh]; unfold qA6
      rw [List.getD_eq_getElem?_getD, List.getElem?_eq_getElem (by have := HSL.out; omega)]; exact List.getElem_mem _
     have hss := HSM.out sh hsm
     have hxo := hnp.2.2 xi hxm
     obtain ⟨R, hR⟩ := eX (qA8 ls vs fs res xi.f0 xi.f1 xi.f2.f0 sh.f0 sh.f1)
     obtain ⟨q0, hq0⟩ := eX xi.f0
     obtain ⟨q1, hq1⟩ := eX xi.f1
     obtain ⟨q2, hq2⟩ := eX xi.f2.f0
     obtain ⟨q3, hq3⟩ := eX xi.f2.f1
     rw [← hq0] at k0 hxo
     rw [← hq1] at k1 hxo
     rw [← hq2] at k2
     rw [← hq3] at k3
     rw [← hq0, ← hq1, ← hq2] at hR
     obtain ⟨e1, he1⟩ := eX sh.f0.length
     obtain ⟨e2, he2⟩ := eX sh.f1.length
     have HSTEP : qAc (∀ W1, Below wd.heap.size wd W1 → Calls Tryz.prog 67 #[.agg #[.slice A1 p1 c1, .int .i64 res, .slice A2 l1 c2, .slice (some ad) n c3], .agg #[.slice A4 f1 c4, .slice A5 v1 c5], .agg #[.int .i64 q0, .int .i64 q1, .int .i64 q2, .int .u64 q3], .agg #[.slice E1 e1 d1, .slice E2 e2 d2]] W1 (qAN W1 (fun q => q ≠ M ∧ q ≠ D ∧ q ≠ S ∧ (wd.heap.size < W1.heap.size → q ≠ wd.heap.size)) R)) := ⟨fun W1 hW1 => by
       have hBW := HBd.out.trans (hW1.mono HBd.out.size)
       have hF : ∀ {α : Type} {d : Kd α} {A : Option Addr} {m : Nat} {xs : List α}, Kd.F d W (fun k => okF k ∧ k < W.heap.size) A m xs → Kd.F d W1 (fun q => q ≠ M ∧ q ≠ D ∧ q ≠ S ∧ (wd.heap.size < W1.heap.size → q ≠ wd.heap.size)) A m xs := fun h => Kd.F_mono (Kd.F_below h hBW) (fun k hk => ⟨by have := hk.2; omega, by have := hk.2; omega, by have := hk.2; omega, fun _ => by have := hk.2; have := HBd.out.size; omega⟩)
       have hN : ∀ {α : Type} {d : Kd α} {A : Option Addr} {m : Nat} {xs : List α}, Kd.F d wd (fun k => (k ≠ M ∧ k ≠ D) ∧ k ≠ S) A m xs → Kd.F d W1 (fun q => q ≠ M ∧ q ≠ D ∧ q ≠ S ∧ (wd.heap.size < W1.heap.size → q ≠ wd.heap.size)) A m xs := fun h => Kd.F_mono (Kd.F_below (Kd.F_bound h) hW1) (fun k hk => ⟨hk.1.1.1, hk.1.1.2, hk.1.2, fun _ => by have := hk.2; omega⟩)
       rw [hR, HLL.out, HFF.out, HVV.out, he1, he2]
       exact step_any q0 q1 q2 q3 A1 A2 (some ad) A4 A5 E1 E2 p1 c1 c2 n c3 c4 c5 d1 d2 res (hF HL.out) HZ.out.1 (hF HF.out) HZ.out.2.1 (hF HV.out) HZ.out.2.2.1 (hN Y1) yl1 (hN Y2) yl2 hss.1 HZ.out.2.2.2.1 HZ.out.2.2.2.2 hss.2.1 (fun k hk => ⟨by have := HTd.out; have := hW1.size; omega, by have := HTd.out; have := hW1.size; omega, by have := HTd.out; have := hW1.size; omega, fun h_ => by omega⟩) HFS.out hxo.2.2 ⟨hxo.1, hxo.2.1⟩⟩
     rw [← he1] at y0
     rw [← he2] at y1
     have HR2 : qAc (RR = if (qB3 n kk q1 R met shs).1 = 0 then qCK ls vs fs res code g (qB3 n kk q1 R met shs).2.1 (dn.set kk true) (qB3 n kk q1 R met shs).2.2 else (none, (kk : Int), (qB3 n kk q1 R met shs).1)) := ⟨by
       rw [← HL1.out]
       conv => lhs; unfold qCK
       rw [HN2.out]
       simp only
       rw [← hxi, ← hsh, ← hq0, ← hq1, ← hq2, ← hR, ← HN.out]⟩
     have HRS : qAc ((∀ y ∈ R.f3.f1, y.f1.length ≤ 2000000) ∧ ∀ y ∈ R.f4.f1, y.f1.length ≤ 2000000) := ⟨by rw [hR]; exact stepR_tries hss.1 hss.2.2⟩
     clear HL1 hR hxi hsh hq0 hq1 hq2 hq3 he1 he2 Y1 Y2 yl1 yl2 hxm hsm hss
     have bf0 := (qAa HXd.out.1 0).trans rfl
     have bf1 := (qAa HXd.out.1 1).trans rfl
     have bf2 := (qAa HXd.out.1 2).trans rfl
     have bf3 := (qAa HXd.out.1 3).trans rfl
     have bp0 := (qAa HXd.out.2 0).trans rfl
     have bp1 := (qAa HXd.out.2 1).trans rfl
     have HSTd : qAc (FoSt W M D S n cM cD cS #[.slice A1 p1 c1, .int .i64 res, .slice A2 l1 c2, .slice (some ad) n c3] #[.slice A4 f1 c4, .slice A5 v1 c5] met (dn.set kk true) shs wd) := ⟨⟨HMd.out, HDd.out, HSd.out, HBd.out, HTd.out, HXd.out⟩⟩
     go_cut [15] from 37 to 150 (fun s15 wx => ∃ (gX : Nat) (D3 D4 D5 D6 : Option Addr) (d3 d4 d5 d6 : Nat), s15 = .pointer (some ⟨gX, 0, none⟩) ∧ qAc (FoSt W M D S n cM cD cS #[.slice A1 p1 c1, .int .i64 res, .slice A2 l1 c2, .slice (some ad) n c3] #[.slice A4 f1 c4, .slice A5 v1 c5] met (dn.set kk true) shs wx) ∧ qAc (XB M D S R gX D3 D4 D5 D6 d3 d4 d5 d6 wx) ∧ qAc (wx.cell? ⟨(ad.add (kk * 4)).block, (ad.add (kk * 4)).off + 1, none⟩ = some (.int .i64 q1)))
     case first =>
      have nbf0 : qAc ((Addr.block ⟨W.heap.size, 0, none⟩) ≠ wd.heap.size) := ⟨Nat.ne_of_lt (bl bf0)⟩
      have nbf1 : qAc ((Addr.block ⟨W.heap.size, 1, none⟩) ≠ wd.heap.size) := ⟨Nat.ne_of_lt (bl bf1)⟩
      have nbf2 : qAc ((Addr.block ⟨W.heap.size, 2, none⟩) ≠ wd.heap.size) := ⟨Nat.ne_of_lt (bl bf2)⟩
      have nbf3 : qAc ((Addr.block ⟨W.heap.size, 3, none⟩) ≠ wd.heap.size) := ⟨Nat.ne_of_lt (bl bf3)⟩
      have nbp0 : qAc ((Addr.block ⟨W.heap.size + 1, 0, none⟩) ≠ wd.heap.size) := ⟨Nat.ne_of_lt (bl bp0)⟩
      have nbp1 : qAc ((Addr.block ⟨W.heap.size + 1, 1, none⟩) ≠ wd.heap.size) := ⟨Nat.ne_of_lt (bl bp1)⟩
      have nk0 : qAc ((Addr.block (ad.add (kk * 4))) ≠ wd.heap.size) := ⟨Nat.ne_of_lt (bl k0)⟩
      have nk1 : qAc ((Addr.block ⟨(ad.add (kk * 4)).block, (ad.add (kk * 4)).off + 1, none⟩) ≠ wd.heap.size) := ⟨Nat.ne_of_lt (bl k1)⟩
      have nk2 : qAc ((Addr.block ⟨(ad.add (kk * 4)).block, (ad.add (kk * 4)).off + 2, none⟩) ≠ wd.heap.size) := ⟨Nat.ne_of_lt (bl k2)⟩
      have nk3 : qAc ((Addr.block ⟨(ad.add (kk * 4)).block, (ad.add (kk * 4)).off + 3, none⟩) ≠ wd.heap.size) := ⟨Nat.ne_of_lt (bl k3)⟩
      have ny0 : qAc ((Addr.block ⟨S, kk * 2, none⟩) ≠ wd.heap.size) := ⟨Nat.ne_of_lt (bl y0)⟩
      have ny1 : qAc ((Addr.block ⟨S, kk * 2 + 1, none⟩) ≠ wd.heap.size) := ⟨Nat.ne_of_lt (bl y1)⟩
      have HK1 : qAc (wd.cell? ⟨(ad.add (kk * 4)).block, (ad.add (kk * 4)).off + 1, none⟩ = some (.int .i64 q1)) := ⟨k1⟩
      refine wp_region_noPanic ?_
      refine wp_region_held_drew (S := fun W' => W'.cell? ⟨W.heap.size, 0, none⟩ = some (.slice A1 p1 c1) ∧ W'.cell? ⟨W.heap.size, 1, none⟩ = some (.int .i64 res) ∧ W'.cell? ⟨W.heap.size, 2, none⟩ = some (.slice A2 l1 c2) ∧ W'.cell? ⟨W.heap.size, 3, none⟩ = some (.slice (some ad) n c3) ∧ W'.cell? ⟨W.heap.size + 1, 0, none⟩ = some (.slice A4 f1 c4) ∧ W'.cell? ⟨W.heap.size + 1, 1, none⟩ = some (.slice A5 v1 c5) ∧ W'.cell? (ad.add (kk * 4)) = some (.int .i64 q0) ∧ W'.cell? ⟨(ad.add (kk * 4)).block, (ad.add (kk * 4)).off + 1, none⟩ = some (.int .i64 q1) ∧ W'.cell? ⟨(ad.add (kk * 4)).block, (ad.add (kk * 4)).off + 2, none⟩ = some (.int .i64 q2) ∧ W'.cell? ⟨(ad.add (kk * 4)).block, (ad.add (kk * 4)).off + 3, none⟩ = some (.int .u64 q3) ∧ W'.cell? ⟨S, kk * 2, none⟩ = some (.slice E1 e1 d1) ∧ W'.cell? ⟨S, kk * 2 + 1, none⟩ = some (.slice E2 e2 d2)) (by kernel_rfl) ⟨bf0, bf1, bf2, bf3, bp0, bp1, k0, k1, k2, k3, y0, y1⟩ (fun hHeld => ?_)
      refine tH 0 (v := ?_) rfl (.inl ⟨by rfl, ?_⟩) ?_
      rotate_left
      ·intro w hSw; (try dsimp only at hSw); go_simp <;> with_reducible rfl
      simp only [Act.put, zA, zB, zC, zD, zE, zF]
      refine tH 1 (v := ?_) rfl (.inl ⟨by rfl, ?_⟩) ?_
      rotate_left
      ·intro w hSw; (try dsimp only at hSw); go_simp <;> with_reducible rfl
      simp only [Act.put, zA, zB, zC, zD, zE, zF]
      refine tH 2 (v := ?_) rfl (.inl ⟨by rfl, ?_⟩) ?_
      rotate_left
      ·intro w hSw; (try dsimp only at hSw); go_simp <;> with_reducible rfl
      simp only [Act.put, zA, zB, zC, zD, zE, zF]
      refine tH 3 (v := ?_) rfl (.inl ⟨by rfl, ?_⟩) ?_
      rotate_left
      ·intro w hSw; (try dsimp only at hSw); go_simp <;> with_reducible rfl
      simp only [Act.put, zA, zB, zC, zD, zE, zF]
      refine tH 4 (v := ?_) rfl (.inl ⟨by rfl, ?_⟩) ?_
      rotate_left
      ·intro w hSw; (try dsimp only at hSw); go_simp <;> with_reducible rfl
      simp only [Act.put, zA, zB, zC, zD, zE, zF]
      refine tH 5 (v := ?_) rfl (.inl ⟨by rfl, ?_⟩) ?_
      rotate_left
      ·intro w hSw; (try dsimp only at hSw); go_simp <;> with_reducible rfl
      simp only [Act.put, zA, zB, zC, zD, zE, zF]
      refine tH 6 (v := ?_) rfl (.inl ⟨by rfl, ?_⟩) ?_
      rotate_left
      ·intro w hSw; (try dsimp only at hSw); go_simp <;> with_reducible rfl
      simp only [Act.put, zA, zB, zC, zD, zE, zF]
      refine tH 7 (v := ?_) rfl (.inl ⟨by rfl, ?_⟩) ?_
      rotate_left
      ·intro w hSw; (try dsimp only at hSw); go_simp <;> with_reducible rfl
      simp only [Act.put, zA, zB, zC, zD, zE, zF]
      refine tH 8 (v := ?_) rfl (.inl ⟨by rfl, ?_⟩) ?_
      rotate_left
      ·intro w hSw; (try dsimp only at hSw); go_simp <;> with_reducible rfl
      simp only [Act.put, zA, zB, zC, zD, zE, zF]
      refine tH 9 (v := ?_) rfl (.inl ⟨by rfl, ?_⟩) ?_
      rotate_left
      ·intro w hSw; (try dsimp only at hSw); go_simp <;> with_reducible rfl
      simp only [Act.put, zA, zB, zC, zD, zE, zF]
      refine tH 10 (v := ?_) rfl (.inl ⟨by rfl, ?_⟩) ?_
      rotate_left
      ·intro w hSw; (try dsimp only at hSw); go_simp <;> with_reducible rfl
      simp only [Act.put, zA, zB, zC, zD, zE, zF]
      refine wpAnyH_ready (rs := [11, 12]) (by kernel_rfl) (by simp) ?_
      refine AllReadyH.cons (o := _) rfl (fun K hK => ?_) (AllReadyH.cons (o := _) rfl (fun K hK => ?_) AllReadyH.nil)
      focus
       go_simp
       go_at_call 67
       refine (HSTEP.out wd.drew (Below.refl wd.heap.size wd).drew).mono ?_
       rintro e w1 ⟨cs, rfl, hK, hb1⟩
       obtain ⟨D3, d3, D4, d4, D5, d5, D6, d6, rfl, l3, g3, l4, g4, l5, g5, l6, g6⟩ := qDn hK
       obtain ⟨m3, hm3⟩ := eX R.f3.f0.length
       obtain ⟨m4, hm4⟩ := eX R.f3.f1.length
       obtain ⟨m5, hm5⟩ := eX R.f4.f0.length
       obtain ⟨m6, hm6⟩ := eX R.f4.f1.length
       rw [← hm3] at l3 g3 ⊢
       rw [← hm4] at l4 g4 ⊢
       rw [← hm5] at l5 g5 ⊢
       rw [← hm6] at l6 g6 ⊢
       obtain ⟨b0, hb0⟩ := eX R.f0
       obtain ⟨b1, hb1'⟩ : ∃ b, b = R.f1 := ⟨_, rfl⟩
       obtain ⟨b2, hb2⟩ := eX R.f2
       rw [← hb0, ← hb1', ← hb2]
       have Q0 := am hb0
       have Q1 := am hb1'
       have Q2 := am hb2
       have G3 := am g3
       have G4 := am g4
       have G5 := am g5
       have G6 := am g6
       have L3 := am l3
       have L4 := am l4
       have L5 := am l5
       have L6 := am l6
       have M3 := am hm3
       have M4 := am hm4
       have M5 := am hm5
       have M6 := am hm6
       have hbb : Below wd.heap.size wd w1 := (Below.refl wd.heap.size wd).drew.trans hb1
       replace G3 := am (Kd.F_mono G3.out (fun k hk => (show k ≠ M ∧ k ≠ D ∧ k ≠ S from ⟨hk.1, hk.2.1, hk.2.2.1⟩)))
       replace G4 := am (Kd.F_mono G4.out (fun k hk => (show k ≠ M ∧ k ≠ D ∧ k ≠ S from ⟨hk.1, hk.2.1, hk.2.2.1⟩)))
       replace G5 := am (Kd.F_mono G5.out (fun k hk => (show k ≠ M ∧ k ≠ D ∧ k ≠ S from ⟨hk.1, hk.2.1, hk.2.2.1⟩)))
       replace G6 := am (Kd.F_mono G6.out (fun k hk => (show k ≠ M ∧ k ≠ D ∧ k ≠ S from ⟨hk.1, hk.2.1, hk.2.2.1⟩)))
       replace bf0 := (hbb.cell (bl bf0)).trans bf0
       replace bf1 := (hbb.cell (bl bf1)).trans bf1
       replace bf2 := (hbb.cell (bl bf2)).trans bf2
       replace bf3 := (hbb.cell (bl bf3)).trans bf3
       replace bp0 := (hbb.cell (bl bp0)).trans bp0
       replace bp1 := (hbb.cell (bl bp1)).trans bp1
       replace k0 := (hbb.cell (bl k0)).trans k0
       replace k1 := (hbb.cell (bl k1)).trans k1
       replace k2 := (hbb.cell (bl k2)).trans k2
       replace k3 := (hbb.cell (bl k3)).trans k3
       replace y0 := (hbb.cell (bl y0)).trans y0
       replace y1 := (hbb.cell (bl y1)).trans y1
       have HBW := am hbb
       clear hK g3 g4 g5 g6 l3 l4 l5 l6 hm3 hm4 hm5 hm6 hb0 hb1' hb2
       clear hbb hb1
       go_wp2_with fail
       refine hK.out _ _ ⟨bf0, bf1, bf2, bf3, bp0, bp1, k0, k1, k2, k3, y0, y1⟩ (fun hHeld => ?_)
       clear hK K
       try simp only [Act.put, zA, zB, zC, zD, zE, zF]
       refine wpAnyH_ready (rs := [12]) (by kernel_rfl) (by simp) ?_
       refine AllReadyH.cons (o := _) rfl (fun K hK => ?_) AllReadyH.nil
       go_simp
       refine hK.out _ _ ⟨qAk _ bf0, qAk _ bf1, qAk _ bf2, qAk _ bf3, qAk _ bp0, qAk _ bp1, qAk _ k0, qAk _ k1, qAk _ k2, qAk _ k3, qAk _ y0, qAk _ y1⟩ (fun hHeld => ?_)
       clear hK K
       try simp only [Act.put, zA, zB, zC, zD, zE, zF]
       refine wpAnyH_ready (rs := [13]) (by kernel_rfl) (by simp) ?_
       refine AllReadyH.cons (o := _) rfl (fun K hK => ?_) AllReadyH.nil
       go_simp
       refine hK.out _ _ ⟨qAk _ bf0, qAk _ bf1, qAk _ bf2, qAk _ bf3, qAk _ bp0, qAk _ bp1, qAk _ k0, qAk _ k1, qAk _ k2, qAk _ k3, qAk _ y0, qAk _ y1⟩ (fun hHeld => ?_)
       clear hK K
       try simp only [Act.put, zA, zB, zC, zD, zE, zF]
       refine wpAnyH_done (by kernel_rfl) ?_ _
       refine NoPanic.normal ?_
       obtain ⟨w2, hw2⟩ := eX (w1.alloc (.cells #[.bool b0, .bool b1, .bool b2, .slice D3 m3 d3, .slice D4 m4 d4, .slice D5 m5 d5, .slice D6 m6 d6] 138))
       have hbw : Below wd.heap.size wd w2 := hw2 ▸ HBW.out.alloc HBW.out.size _
       obtain ⟨gX, hgX⟩ := eX w1.heap.size
       have bX : w2.heap[gX]? = some (.cells #[.bool b0, .bool b1, .bool b2, .slice D3 m3 d3, .slice D4 m4 d4, .slice D5 m5 d5, .slice D6 m6 d6] 138 (0, 0)) := by rw [hw2, hgX]; exact qAG w1 _
       have hgl : wd.heap.size ≤ gX := by rw [hgX]; exact HBW.out.size
       replace G3 := am (Kd.F_alloc G3.out (.cells #[.bool b0, .bool b1, .bool b2, .slice D3 m3 d3, .slice D4 m4 d4, .slice D5 m5 d5, .slice D6 m6 d6] 138))
       replace G4 := am (Kd.F_alloc G4.out (.cells #[.bool b0, .bool b1, .bool b2, .slice D3 m3 d3, .slice D4 m4 d4, .slice D5 m5 d5, .slice D6 m6 d6] 138))
       replace G5 := am (Kd.F_alloc G5.out (.cells #[.bool b0, .bool b1, .bool b2, .slice D3 m3 d3, .slice D4 m4 d4, .slice D5 m5 d5, .slice D6 m6 d6] 138))
       replace G6 := am (Kd.F_alloc G6.out (.cells #[.bool b0, .bool b1, .bool b2, .slice D3 m3 d3, .slice D4 m4 d4, .slice D5 m5 d5, .slice D6 m6 d6] 138))
       rw [← hw2] at G3 G4 G5 G6 ⊢
       rw [← hgX]
       clear hw2 hgX HBW hHeld
       clear bf0 bf1 bf2 bf3 bp0 bp1 k0 k1 k2 k3 y0 y1
       rw [Q0.out, Q1.out, Q2.out, M3.out, M4.out, M5.out, M6.out] at bX
       have g3 := G3.out
       have g4 := G4.out
       have g5 := G5.out
       have g6 := G6.out
       have l3 := L3.out
       have l4 := L4.out
       have l5 := L5.out
       have l6 := L6.out
       rw [M3.out] at g3 l3
       rw [M4.out] at g4 l4
       rw [M5.out] at g5 l5
       rw [M6.out] at g6 l6
       have hST := HSTd.out.below hbw
       have hXB : XB M D S R gX D3 D4 D5 D6 d3 d4 d5 d6 w2 := ⟨bX, g3, g4, g5, g6, l3, l4, l5, l6, by have := HTd.out; omega⟩
       have hKK := (hbw.cell (bl HK1.out)).trans HK1.out
       clear bX g3 g4 g5 g6 l3 l4 l5 l6 hbw hgl
       go_wp2_with fail
       go_meet
       case rel => exact ⟨gX, D3, D4, D5, D6, d3, d4, d5, d6, rfl, ⟨hST⟩, ⟨hXB⟩, ⟨hKK⟩⟩
      rotate_left
      focus
       go_simp
       refine hK.out _ _ ⟨qAk _ bf0, qAk _ bf1, qAk _ bf2, qAk _ bf3, qAk _ bp0, qAk _ bp1, qAk _ k0, qAk _ k1, qAk _ k2, qAk _ k3, qAk _ y0, qAk _ y1⟩ (fun hHeld => ?_)
       clear hK K
       try simp only [Act.put, zA, zB, zC, zD, zE, zF]
       refine wpAnyH_ready (rs := [11]) (by kernel_rfl) (by simp) ?_
       refine AllReadyH.cons (o := _) rfl (fun K hK => ?_) AllReadyH.nil
       go_simp
       go_at_call 67
       refine (HSTEP.out ((wd.alloc (.cells #[.bool false, .bool false, .bool false, .slice none 0 0, .slice none 0 0, .slice none 0 0, .slice none 0 0] 138)).drew) ((Below.refl wd.heap.size wd).alloc (nl _) _).drew).mono ?_
       rintro e w1 ⟨cs, rfl, hK, hb1⟩
       obtain ⟨D3, d3, D4, d4, D5, d5, D6, d6, rfl, l3, g3, l4, g4, l5, g5, l6, g6⟩ := qDn hK
       obtain ⟨m3, hm3⟩ := eX R.f3.f0.length
       obtain ⟨m4, hm4⟩ := eX R.f3.f1.length
       obtain ⟨m5, hm5⟩ := eX R.f4.f0.length
       obtain ⟨m6, hm6⟩ := eX R.f4.f1.length
       rw [← hm3] at l3 g3 ⊢
       rw [← hm4] at l4 g4 ⊢
       rw [← hm5] at l5 g5 ⊢
       rw [← hm6] at l6 g6 ⊢
       obtain ⟨b0, hb0⟩ := eX R.f0
       obtain ⟨b1, hb1'⟩ : ∃ b, b = R.f1 := ⟨_, rfl⟩
       obtain ⟨b2, hb2⟩ := eX R.f2
       rw [← hb0, ← hb1', ← hb2]
       have Q0 := am hb0
       have Q1 := am hb1'
       have Q2 := am hb2
       have G3 := am g3
       have G4 := am g4
       have G5 := am g5
       have G6 := am g6
       have L3 := am l3
       have L4 := am l4
       have L5 := am l5
       have L6 := am l6
       have M3 := am hm3
       have M4 := am hm4
       have M5 := am hm5
       have M6 := am hm6
       have hbb : Below wd.heap.size wd w1 := ((Below.refl wd.heap.size wd).alloc (nl _) _).drew.trans (hb1.mono (by show wd.heap.size ≤ (wd.alloc _).heap.size; simp))
       have bZ : w1.heap[wd.heap.size]? = some (.cells #[.bool false, .bool false, .bool false, .slice none 0 0, .slice none 0 0, .slice none 0 0, .slice none 0 0] 138 (0, 0)) := qAe (show ((wd.alloc (.cells #[.bool false, .bool false, .bool false, .slice none 0 0, .slice none 0 0, .slice none 0 0, .slice none 0 0] 138)).drew).heap[wd.heap.size]? = some (.cells #[.bool false, .bool false, .bool false, .slice none 0 0, .slice none 0 0, .slice none 0 0, .slice none 0 0] 138 (0, 0)) from qAG wd _) hb1
       have z0 : w1.cell? ⟨wd.heap.size, 0, none⟩ = some (.bool false) := (qAa bZ 0).trans rfl
       have zf0 : w1.frozen? ⟨wd.heap.size, 0, none⟩ = false := qAb bZ 0
       have z1 : w1.cell? ⟨wd.heap.size, 1, none⟩ = some (.bool false) := (qAa bZ 1).trans rfl
       have zf1 : w1.frozen? ⟨wd.heap.size, 1, none⟩ = false := qAb bZ 1
       have z2 : w1.cell? ⟨wd.heap.size, 2, none⟩ = some (.bool false) := (qAa bZ 2).trans rfl
       have zf2 : w1.frozen? ⟨wd.heap.size, 2, none⟩ = false := qAb bZ 2
       have z3 : w1.cell? ⟨wd.heap.size, 3, none⟩ = some (.slice none 0 0) := (qAa bZ 3).trans rfl
       have zf3 : w1.frozen? ⟨wd.heap.size, 3, none⟩ = false := qAb bZ 3
       have z4 : w1.cell? ⟨wd.heap.size, 4, none⟩ = some (.slice none 0 0) := (qAa bZ 4).trans rfl
       have zf4 : w1.frozen? ⟨wd.heap.size, 4, none⟩ = false := qAb bZ 4
       have z5 : w1.cell? ⟨wd.heap.size, 5, none⟩ = some (.slice none 0 0) := (qAa bZ 5).trans rfl
       have zf5 : w1.frozen? ⟨wd.heap.size, 5, none⟩ = false := qAb bZ 5
       have z6 : w1.cell? ⟨wd.heap.size, 6, none⟩ = some (.slice none 0 0) := (qAa bZ 6).trans rfl
       have zf6 : w1.frozen? ⟨wd.heap.size, 6, none⟩ = false := qAb bZ 6
       replace bf0 := (hbb.cell (bl bf0)).trans bf0
       replace bf1 := (hbb.cell (bl bf1)).trans bf1
       replace bf2 := (hbb.cell (bl bf2)).trans bf2
       replace bf3 := (hbb.cell (bl bf3)).trans bf3
       replace bp0 := (hbb.cell (bl bp0)).trans bp0
       replace bp1 := (hbb.cell (bl bp1)).trans bp1
       replace k0 := (hbb.cell (bl k0)).trans k0
       replace k1 := (hbb.cell (bl k1)).trans k1
       replace k2 := (hbb.cell (bl k2)).trans k2
       replace k3 := (hbb.cell (bl k3)).trans k3
       replace y0 := (hbb.cell (bl y0)).trans y0
       replace y1 := (hbb.cell (bl y1)).trans y1
       have HBW := am hbb
       have HBZ := am bZ
       replace G3 := am (Kd.F_mono G3.out (fun k hk => (show k ≠ M ∧ k ≠ D ∧ k ≠ S ∧ k ≠ wd.heap.size from ⟨hk.1, hk.2.1, hk.2.2.1, hk.2.2.2 (by show wd.heap.size < (wd.alloc _).heap.size; simp)⟩)))
       replace G4 := am (Kd.F_mono G4.out (fun k hk => (show k ≠ M ∧ k ≠ D ∧ k ≠ S ∧ k ≠ wd.heap.size from ⟨hk.1, hk.2.1, hk.2.2.1, hk.2.2.2 (by show wd.heap.size < (wd.alloc _).heap.size; simp)⟩)))
       replace G5 := am (Kd.F_mono G5.out (fun k hk => (show k ≠ M ∧ k ≠ D ∧ k ≠ S ∧ k ≠ wd.heap.size from ⟨hk.1, hk.2.1, hk.2.2.1, hk.2.2.2 (by show wd.heap.size < (wd.alloc _).heap.size; simp)⟩)))
       replace G6 := am (Kd.F_mono G6.out (fun k hk => (show k ≠ M ∧ k ≠ D ∧ k ≠ S ∧ k ≠ wd.heap.size from ⟨hk.1, hk.2.1, hk.2.2.1, hk.2.2.2 (by show wd.heap.size < (wd.alloc _).heap.size; simp)⟩)))
       have hg1 : qAc (∀ k, (wd.alloc (.cells #[.bool false, .bool false, .bool false, .slice none 0 0, .slice none 0 0, .slice none 0 0, .slice none 0 0] 138)).heap.size ≤ k → k ≠ wd.heap.size) := ⟨fun k hk => by simp at hk; omega⟩
       clear hK g3 g4 g5 g6 l3 l4 l5 l6 hm3 hm4 hm5 hm6 hb0 hb1' hb2
       clear hbb hb1 bZ
       go_wp2_with fail
       refine hK.out _ _ ⟨bf0, bf1, bf2, bf3, bp0, bp1, k0, k1, k2, k3, y0, y1⟩ (fun hHeld => ?_)
       clear hK K
       try simp only [Act.put, zA, zB, zC, zD, zE, zF]
       refine wpAnyH_ready (rs := [13]) (by kernel_rfl) (by simp) ?_
       refine AllReadyH.cons (o := _) rfl (fun K hK => ?_) AllReadyH.nil
       go_simp
       refine hK.out _ _ ⟨qBA bf0 nbf0.out, qBA bf1 nbf1.out, qBA bf2 nbf2.out, qBA bf3 nbf3.out, qBA bp0 nbp0.out, qBA bp1 nbp1.out, qBA k0 nk0.out, qBA k1 nk1.out, qBA k2 nk2.out, qBA k3 nk3.out, qBA y0 ny0.out, qBA y1 ny1.out⟩ (fun hHeld => ?_)
       clear hK K
       try simp only [Act.put, zA, zB, zC, zD, zE, zF]
       refine wpAnyH_done (by kernel_rfl) ?_ _
       refine NoPanic.normal ?_
       obtain ⟨w2, hw2⟩ : ∃ w2, w2 = (((((((w1.setCell ⟨wd.heap.size, 0, none⟩ (.bool b0)).setCell ⟨wd.heap.size, 1, none⟩ (.bool b1)).setCell ⟨wd.heap.size, 2, none⟩ (.bool b2)).setCell ⟨wd.heap.size, 3, none⟩ (.slice D3 m3 d3)).setCell ⟨wd.heap.size, 4, none⟩ (.slice D4 m4 d4)).setCell ⟨wd.heap.size, 5, none⟩ (.slice D5 m5 d5)).setCell ⟨wd.heap.size, 6, none⟩ (.slice D6 m6 d6)) := ⟨_, rfl⟩
       have hbw : Below wd.heap.size wd w2 := hw2 ▸ below7 HBW.out (nl _) _ _ _ _ _ _ _
       obtain ⟨gX, hgX⟩ := eX wd.heap.size
       have bX : w2.heap[gX]? = some (.cells #[.bool b0, .bool b1, .bool b2, .slice D3 m3 d3, .slice D4 m4 d4, .slice D5 m5 d5, .slice D6 m6 d6] 138 (0, 0)) := by rw [hw2, hgX]; exact lay7 HBZ.out
       have hgl : wd.heap.size ≤ gX := by rw [hgX]; exact nl _
       replace G3 := am (F_set7 G3.out wd.heap.size (fun k hk => hk.2.2.2) (.bool b0) (.bool b1) (.bool b2) (.slice D3 m3 d3) (.slice D4 m4 d4) (.slice D5 m5 d5) (.slice D6 m6 d6))
       replace G4 := am (F_set7 G4.out wd.heap.size (fun k hk => hk.2.2.2) (.bool b0) (.bool b1) (.bool b2) (.slice D3 m3 d3) (.slice D4 m4 d4) (.slice D5 m5 d5) (.slice D6 m6 d6))
       replace G5 := am (F_set7 G5.out wd.heap.size (fun k hk => hk.2.2.2) (.bool b0) (.bool b1) (.bool b2) (.slice D3 m3 d3) (.slice D4 m4 d4) (.slice D5 m5 d5) (.slice D6 m6 d6))
       replace G6 := am (F_set7 G6.out wd.heap.size (fun k hk => hk.2.2.2) (.bool b0) (.bool b1) (.bool b2) (.slice D3 m3 d3) (.slice D4 m4 d4) (.slice D5 m5 d5) (.slice D6 m6 d6))
       replace G3 := am (Kd.F_mono G3.out (fun k hk => (show k ≠ M ∧ k ≠ D ∧ k ≠ S from ⟨hk.1, hk.2.1, hk.2.2.1⟩)))
       replace G4 := am (Kd.F_mono G4.out (fun k hk => (show k ≠ M ∧ k ≠ D ∧ k ≠ S from ⟨hk.1, hk.2.1, hk.2.2.1⟩)))
       replace G5 := am (Kd.F_mono G5.out (fun k hk => (show k ≠ M ∧ k ≠ D ∧ k ≠ S from ⟨hk.1, hk.2.1, hk.2.2.1⟩)))
       replace G6 := am (Kd.F_mono G6.out (fun k hk => (show k ≠ M ∧ k ≠ D ∧ k ≠ S from ⟨hk.1, hk.2.1, hk.2.2.1⟩)))
       rw [← hw2] at G3 G4 G5 G6 ⊢
       rw [← hgX]
       clear hw2 hgX HBW HBZ hg1 hHeld z0 zf0 z1 zf1 z2 zf2 z3 zf3 z4 zf4 z5 zf5 z6 zf6
       clear bf0 bf1 bf2 bf3 bp0 bp1 k0 k1 k2 k3 y0 y1
       rw [Q0.out, Q1.out, Q2.out, M3.out, M4.out, M5.out, M6.out] at bX
       have g3 := G3.out
       have g4 := G4.out
       have g5 := G5.out
       have g6 := G6.out
       have l3 := L3.out
       have l4 := L4.out
       have l5 := L5.out
       have l6 := L6.out
       rw [M3.out] at g3 l3
       rw [M4.out] at g4 l4
       rw [M5.out] at g5 l5
       rw [M6.out] at g6 l6
       have hST := HSTd.out.below hbw
       have hXB : XB M D S R gX D3 D4 D5 D6 d3 d4 d5 d6 w2 := ⟨bX, g3, g4, g5, g6, l3, l4, l5, l6, by have := HTd.out; omega⟩
       have hKK := (hbw.cell (bl HK1.out)).trans HK1.out
       clear bX g3 g4 g5 g6 l3 l4 l5 l6 hbw hgl
       go_wp2_with fail
       go_meet
       case rel => exact ⟨gX, D3, D4, D5, D6, d3, d4, d5, d6, rfl, ⟨hST⟩, ⟨hXB⟩, ⟨hKK⟩⟩
     case rest =>
      obtain ⟨gX, D3, D4, D5, D6, d3, d4, d5, d6, rfl, HST, HXB, HK⟩ := hcut
      obtain ⟨b0, hb0⟩ := eX R.f0
      obtain ⟨b1, hb1⟩ := eX R.f1
      obtain ⟨b2, hb2⟩ := eX R.f2
      obtain ⟨m3, hm3⟩ := eX R.f3.f0.length
      obtain ⟨m4, hm4⟩ := eX R.f3.f1.length
      obtain ⟨m5, hm5⟩ := eX R.f4.f0.length
      obtain ⟨m6, hm6⟩ := eX R.f4.f1.length
      have leafs : ∀ (er : Int), (qB3 n kk q1 R met shs).1 = er → er ≠ 0 → qAc (RR = (none, (kk : Int), er)) := fun er h1 h2 => ⟨by rw [HR2.out, h1, if_neg h2]⟩
      clear HSTd HMd HDd HSd HBd HTd HXd HSTEP bf0 bf1 bf2 bf3 bp0 bp1 k0 k1 k2 k3 y0 y1
      go_upto_region 16 with fail
      go_cut [101] from 75 to 150 (fun s101 wx => s101 = .bool (!b0 || (b1 && decide ((n : Int) ≤ (kk : Int) + 1)) || (b2 && decide ((n : Int) ≤ q1))) ∧ wx = wc)
      case first =>
       have hbx := HXB.out.h
       rw [← hb0, ← hb1, ← hb2, ← hm3, ← hm4, ← hm5, ← hm6] at hbx
       have a0 := (qAa hbx 0).trans rfl
       have a1 := (qAa hbx 1).trans rfl
       have a2 := (qAa hbx 2).trans rfl
       have a3 := (qAa hbx 3).trans rfl
       have a4 := (qAa hbx 4).trans rfl
       have a5 := (qAa hbx 5).trans rfl
       have a6 := (qAa hbx 6).trans rfl
       have xf3 := (qAa HST.out.x.1 3).trans rfl
       have kc1 := HK.out
       clear leafs hb0 hb1 hb2 hm3 hm4 hm5 hm6
       cases b0 with
       | false =>
        have hwk : wrap64 ((kk : Int) + 1) = (kk : Int) + 1 ∧ IntKind.i64.wrap ((kk : Int) + 1) = (kk : Int) + 1 := ⟨by unfold wrap64; omega, by simp [IntKind.wrap, IntKind.bits, IntKind.signed]; omega⟩
        obtain ⟨hwk, hwk2⟩ := hwk
        go_wp2_with fail
        go_meet
        case rel => exact ⟨by simp, rfl⟩
       | true =>
        cases b1 with
        | false =>
         cases b2 with
         | false =>
          have hwk : wrap64 ((kk : Int) + 1) = (kk : Int) + 1 ∧ IntKind.i64.wrap ((kk : Int) + 1) = (kk : Int) + 1 := ⟨by unfold wrap64; omega, by simp [IntKind.wrap, IntKind.bits, IntKind.signed]; omega⟩
          obtain ⟨hwk, hwk2⟩ := hwk
          go_wp2_with fail
          go_meet
          case rel => exact ⟨by simp [], rfl⟩
         | true =>
          by_cases hN : (n : Int) ≤ q1
          ·have e2 := decide_eq_true hN
           have hwk : wrap64 ((kk : Int) + 1) = (kk : Int) + 1 ∧ IntKind.i64.wrap ((kk : Int) + 1) = (kk : Int) + 1 := ⟨by unfold wrap64; omega, by simp [IntKind.wrap, IntKind.bits, IntKind.signed]; omega⟩
           obtain ⟨hwk, hwk2⟩ := hwk
           go_wp2_with fail
           go_meet
           case rel => exact ⟨by simp [hN], rfl⟩
          have e2 : decide (q1 ≥ (n : Int)) = false := decide_eq_false (by omega)
          have hwk : wrap64 ((kk : Int) + 1) = (kk : Int) + 1 ∧ IntKind.i64.wrap ((kk : Int) + 1) = (kk : Int) + 1 := ⟨by unfold wrap64; omega, by simp [IntKind.wrap, IntKind.bits, IntKind.signed]; omega⟩
          obtain ⟨hwk, hwk2⟩ := hwk
          go_wp2_with fail
          go_meet
          case rel => exact ⟨by simp [hN], rfl⟩
        | true =>
         by_cases hK : (n : Int) ≤ (kk : Int) + 1
         ·have e1 := decide_eq_true hK
          have hwk : wrap64 ((kk : Int) + 1) = (kk : Int) + 1 ∧ IntKind.i64.wrap ((kk : Int) + 1) = (kk : Int) + 1 := ⟨by unfold wrap64; omega, by simp [IntKind.wrap, IntKind.bits, IntKind.signed]; omega⟩
          obtain ⟨hwk, hwk2⟩ := hwk
          go_wp2_with fail
          go_meet
          case rel => exact ⟨by simp [hK], rfl⟩
         have e1 : decide ((kk : Int) + 1 ≥ (n : Int)) = false := decide_eq_false (by omega)
         cases b2 with
         | false =>
          have hwk : wrap64 ((kk : Int) + 1) = (kk : Int) + 1 ∧ IntKind.i64.wrap ((kk : Int) + 1) = (kk : Int) + 1 := ⟨by unfold wrap64; omega, by simp [IntKind.wrap, IntKind.bits, IntKind.signed]; omega⟩
          obtain ⟨hwk, hwk2⟩ := hwk
          go_wp2_with fail
          go_meet
          case rel => exact ⟨by simp [hK], rfl⟩
         | true =>
          by_cases hN : (n : Int) ≤ q1
          ·have e2 := decide_eq_true hN
           have hwk : wrap64 ((kk : Int) + 1) = (kk : Int) + 1 ∧ IntKind.i64.wrap ((kk : Int) + 1) = (kk : Int) + 1 := ⟨by unfold wrap64; omega, by simp [IntKind.wrap, IntKind.bits, IntKind.signed]; omega⟩
           obtain ⟨hwk, hwk2⟩ := hwk
           go_wp2_with fail
           go_meet
           case rel => exact ⟨by simp [hK, hN], rfl⟩
          have e2 : decide (q1 ≥ (n : Int)) = false := decide_eq_false (by omega)
          have hwk : wrap64 ((kk : Int) + 1) = (kk : Int) + 1 ∧ IntKind.i64.wrap ((kk : Int) + 1) = (kk : Int) + 1 := ⟨by unfold wrap64; omega, by simp [IntKind.wrap, IntKind.bits, IntKind.signed]; omega⟩
          obtain ⟨hwk, hwk2⟩ := hwk
          go_wp2_with fail
          go_meet
          case rel => exact ⟨by simp [hK, hN], rfl⟩
      case rest =>
       obtain ⟨rfl, rfl⟩ := hcut
       obtain ⟨bd, hbd⟩ : ∃ b, b = (!b0 || (b1 && decide ((n : Int) ≤ (kk : Int) + 1)) || (b2 && decide ((n : Int) ≤ q1))) := ⟨_, rfl⟩
       rw [← hbd]
       cases bd with
       | true =>
        have HRE := leafs 51 (by
          rw [qDb]
          rw [← hb0, ← hb1, ← hb2]
          simpa [or_assoc] using hbd.symm) (by decide)
        clear leafs hbd
        go_wp2_with fail
        try rw [Exit.noGoto_ret]
        refine bodyPost_ret (qBP rfl _ _ _) rfl ?_
        refine ⟨_, _, by rw [HRE.out]; rfl, fun m s h => ?_, HST.out.b⟩
        rw [HRE.out] at h
        cases h
       | false =>
        have hgd : ¬ (R.f0 = false ∨ (R.f1 = true ∧ (n : Int) ≤ kk + 1) ∨ (R.f2 = true ∧ (n : Int) ≤ q1)) := by
         rw [← hb0, ← hb1, ← hb2]
         intro h_
         have h2_ := hbd.symm
         simp only [Bool.or_eq_false_iff, Bool.and_eq_false_iff, decide_eq_false_iff_not, Bool.not_eq_false'] at h2_
         rcases h_ with h_ | h_ | h_
         ·rw [h_] at h2_; simp at h2_
         ·rcases h2_.1.2 with h3 | h3
          ·rw [h_.1] at h3; cases h3
          exact h3 h_.2
         rcases h2_.2 with h3 | h3
         ·rw [h_.1] at h3; cases h3
         exact h3 h_.2
        clear hbd
        obtain ⟨o3, ho3⟩ := eX (qCf R.f3)
        obtain ⟨o4, ho4⟩ := eX (qCf R.f4)
        have HO3 : qAc (∀ W1, XB M D S R gX D3 D4 D5 D6 d3 d4 d5 d6 W1 → Calls Tryz.prog 68 #[.agg #[.slice D3 m3 d3, .slice D4 m4 d4]] W1 fun e w' => e = .returned (.bool o3) ∧ Below W1.heap.size W1 w') := ⟨fun W1 h => by
          rw [hm3, hm4, ho3]
          exact over_any D3 D4 d3 d4 R.f3 W1 (Kd.F_now h.g3) h.l3 (Kd.F_now h.g4) h.l4⟩
        have HO4 : qAc (∀ W1, XB M D S R gX D3 D4 D5 D6 d3 d4 d5 d6 W1 → Calls Tryz.prog 68 #[.agg #[.slice D5 m5 d5, .slice D6 m6 d6]] W1 fun e w' => e = .returned (.bool o4) ∧ Below W1.heap.size W1 w') := ⟨fun W1 h => by
          rw [hm5, hm6, ho4]
          exact over_any D5 D6 d5 d6 R.f4 W1 (Kd.F_now h.g5) h.l5 (Kd.F_now h.g6) h.l6⟩
        go_upto_region 18 with fail
        go_cut [118] from 75 to 150 (fun s118 wx => s118 = .bool ((b1 && o3) || (b2 && o4)) ∧ qAc (FoSt W M D S n cM cD cS #[.slice A1 p1 c1, .int .i64 res, .slice A2 l1 c2, .slice (some ad) n c3] #[.slice A4 f1 c4, .slice A5 v1 c5] met (dn.set kk true) shs wx) ∧ qAc (XB M D S R gX D3 D4 D5 D6 d3 d4 d5 d6 wx) ∧ qAc (wx.cell? ⟨(ad.add (kk * 4)).block, (ad.add (kk * 4)).off + 1, none⟩ = some (.int .i64 q1)))
        case first =>
         have HMS : qAc (b0 = R.f0 ∧ b1 = R.f1 ∧ b2 = R.f2 ∧ m3 = R.f3.f0.length ∧ m4 = R.f3.f1.length ∧ m5 = R.f4.f0.length ∧ m6 = R.f4.f1.length) := ⟨⟨hb0, hb1, hb2, hm3, hm4, hm5, hm6⟩⟩
         have hbx := HXB.out.h
         rw [← HMS.out.1, ← HMS.out.2.1, ← HMS.out.2.2.1, ← HMS.out.2.2.2.1, ← HMS.out.2.2.2.2.1, ← HMS.out.2.2.2.2.2.1, ← HMS.out.2.2.2.2.2.2] at hbx
         have a0 := (qAa hbx 0).trans rfl
         have a1 := (qAa hbx 1).trans rfl
         have a2 := (qAa hbx 2).trans rfl
         have a3 := (qAa hbx 3).trans rfl
         have a4 := (qAa hbx 4).trans rfl
         have a5 := (qAa hbx 5).trans rfl
         have a6 := (qAa hbx 6).trans rfl
         have xf3 := (qAa HST.out.x.1 3).trans rfl
         have kc1 := HK.out
         clear leafs hb0 hb1 hb2 hm3 hm4 hm5 hm6 ho3 ho4 hgd
         cases b1 with
         | false =>
          cases b2 with
          | false =>
           go_wp2_with (first | (go_at_call 68; (with_reducible refine (HO3.out _ HXB.out).mono ?_); rintro e w3 ⟨rfl, hb3⟩; clear hbx a0 a1 a2 a3 a4 a5 a6 xf3 kc1; replace HST := am (HST.out.below hb3); replace HXB := am (HXB.out.below hb3); replace HK : qAc (w3.cell? ⟨(ad.add (kk * 4)).block, (ad.add (kk * 4)).off + 1, none⟩ = some (.int .i64 q1)) := ⟨(hb3.cell (bl HK.out)).trans HK.out⟩; clear hb3; have hbx := HXB.out.h; rw [← HMS.out.1, ← HMS.out.2.1, ← HMS.out.2.2.1, ← HMS.out.2.2.2.1, ← HMS.out.2.2.2.2.1, ← HMS.out.2.2.2.2.2.1, ← HMS.out.2.2.2.2.2.2] at hbx; have a0 := (qAa hbx 0).trans rfl; have a1 := (qAa hbx 1).trans rfl; have a2 := (qAa hbx 2).trans rfl; have a3 := (qAa hbx 3).trans rfl; have a4 := (qAa hbx 4).trans rfl; have a5 := (qAa hbx 5).trans rfl; have a6 := (qAa hbx 6).trans rfl; have xf3 := (qAa HST.out.x.1 3).trans rfl; have kc1 := HK.out) | (go_at_call 68; (with_reducible refine (HO4.out _ HXB.out).mono ?_); rintro e w3 ⟨rfl, hb3⟩; clear hbx a0 a1 a2 a3 a4 a5 a6 xf3 kc1; replace HST := am (HST.out.below hb3); replace HXB := am (HXB.out.below hb3); replace HK : qAc (w3.cell? ⟨(ad.add (kk * 4)).block, (ad.add (kk * 4)).off + 1, none⟩ = some (.int .i64 q1)) := ⟨(hb3.cell (bl HK.out)).trans HK.out⟩; clear hb3; have hbx := HXB.out.h; rw [← HMS.out.1, ← HMS.out.2.1, ← HMS.out.2.2.1, ← HMS.out.2.2.2.1, ← HMS.out.2.2.2.2.1, ← HMS.out.2.2.2.2.2.1, ← HMS.out.2.2.2.2.2.2] at hbx; have a0 := (qAa hbx 0).trans rfl; have a1 := (qAa hbx 1).trans rfl; have a2 := (qAa hbx 2).trans rfl; have a3 := (qAa hbx 3).trans rfl; have a4 := (qAa hbx 4).trans rfl; have a5 := (qAa hbx 5).trans rfl; have a6 := (qAa hbx 6).trans rfl; have xf3 := (qAa HST.out.x.1 3).trans rfl; have kc1 := HK.out))
           go_meet
           case rel => exact ⟨by simp, HST, HXB, HK⟩
          | true =>
           go_wp2_with (first | (go_at_call 68; (with_reducible refine (HO3.out _ HXB.out).mono ?_); rintro e w3 ⟨rfl, hb3⟩; clear hbx a0 a1 a2 a3 a4 a5 a6 xf3 kc1; replace HST := am (HST.out.below hb3); replace HXB := am (HXB.out.below hb3); replace HK : qAc (w3.cell? ⟨(ad.add (kk * 4)).block, (ad.add (kk * 4)).off + 1, none⟩ = some (.int .i64 q1)) := ⟨(hb3.cell (bl HK.out)).trans HK.out⟩; clear hb3; have hbx := HXB.out.h; rw [← HMS.out.1, ← HMS.out.2.1, ← HMS.out.2.2.1, ← HMS.out.2.2.2.1, ← HMS.out.2.2.2.2.1, ← HMS.out.2.2.2.2.2.1, ← HMS.out.2.2.2.2.2.2] at hbx; have a0 := (qAa hbx 0).trans rfl; have a1 := (qAa hbx 1).trans rfl; have a2 := (qAa hbx 2).trans rfl; have a3 := (qAa hbx 3).trans rfl; have a4 := (qAa hbx 4).trans rfl; have a5 := (qAa hbx 5).trans rfl; have a6 := (qAa hbx 6).trans rfl; have xf3 := (qAa HST.out.x.1 3).trans rfl; have kc1 := HK.out) | (go_at_call 68; (with_reducible refine (HO4.out _ HXB.out).mono ?_); rintro e w3 ⟨rfl, hb3⟩; clear hbx a0 a1 a2 a3 a4 a5 a6 xf3 kc1; replace HST := am (HST.out.below hb3); replace HXB := am (HXB.out.below hb3); replace HK : qAc (w3.cell? ⟨(ad.add (kk * 4)).block, (ad.add (kk * 4)).off + 1, none⟩ = some (.int .i64 q1)) := ⟨(hb3.cell (bl HK.out)).trans HK.out⟩; clear hb3; have hbx := HXB.out.h; rw [← HMS.out.1, ← HMS.out.2.1, ← HMS.out.2.2.1, ← HMS.out.2.2.2.1, ← HMS.out.2.2.2.2.1, ← HMS.out.2.2.2.2.2.1, ← HMS.out.2.2.2.2.2.2] at hbx; have a0 := (qAa hbx 0).trans rfl; have a1 := (qAa hbx 1).trans rfl; have a2 := (qAa hbx 2).trans rfl; have a3 := (qAa hbx 3).trans rfl; have a4 := (qAa hbx 4).trans rfl; have a5 := (qAa hbx 5).trans rfl; have a6 := (qAa hbx 6).trans rfl; have xf3 := (qAa HST.out.x.1 3).trans rfl; have kc1 := HK.out))
           go_meet
           case rel => exact ⟨by simp, HST, HXB, HK⟩
         | true =>
          cases o3 with
          | true =>
           go_wp2_with (first | (go_at_call 68; (with_reducible refine (HO3.out _ HXB.out).mono ?_); rintro e w3 ⟨rfl, hb3⟩; clear hbx a0 a1 a2 a3 a4 a5 a6 xf3 kc1; replace HST := am (HST.out.below hb3); replace HXB := am (HXB.out.below hb3); replace HK : qAc (w3.cell? ⟨(ad.add (kk * 4)).block, (ad.add (kk * 4)).off + 1, none⟩ = some (.int .i64 q1)) := ⟨(hb3.cell (bl HK.out)).trans HK.out⟩; clear hb3; have hbx := HXB.out.h; rw [← HMS.out.1, ← HMS.out.2.1, ← HMS.out.2.2.1, ← HMS.out.2.2.2.1, ← HMS.out.2.2.2.2.1, ← HMS.out.2.2.2.2.2.1, ← HMS.out.2.2.2.2.2.2] at hbx; have a0 := (qAa hbx 0).trans rfl; have a1 := (qAa hbx 1).trans rfl; have a2 := (qAa hbx 2).trans rfl; have a3 := (qAa hbx 3).trans rfl; have a4 := (qAa hbx 4).trans rfl; have a5 := (qAa hbx 5).trans rfl; have a6 := (qAa hbx 6).trans rfl; have xf3 := (qAa HST.out.x.1 3).trans rfl; have kc1 := HK.out) | (go_at_call 68; (with_reducible refine (HO4.out _ HXB.out).mono ?_); rintro e w3 ⟨rfl, hb3⟩; clear hbx a0 a1 a2 a3 a4 a5 a6 xf3 kc1; replace HST := am (HST.out.below hb3); replace HXB := am (HXB.out.below hb3); replace HK : qAc (w3.cell? ⟨(ad.add (kk * 4)).block, (ad.add (kk * 4)).off + 1, none⟩ = some (.int .i64 q1)) := ⟨(hb3.cell (bl HK.out)).trans HK.out⟩; clear hb3; have hbx := HXB.out.h; rw [← HMS.out.1, ← HMS.out.2.1, ← HMS.out.2.2.1, ← HMS.out.2.2.2.1, ← HMS.out.2.2.2.2.1, ← HMS.out.2.2.2.2.2.1, ← HMS.out.2.2.2.2.2.2] at hbx; have a0 := (qAa hbx 0).trans rfl; have a1 := (qAa hbx 1).trans rfl; have a2 := (qAa hbx 2).trans rfl; have a3 := (qAa hbx 3).trans rfl; have a4 := (qAa hbx 4).trans rfl; have a5 := (qAa hbx 5).trans rfl; have a6 := (qAa hbx 6).trans rfl; have xf3 := (qAa HST.out.x.1 3).trans rfl; have kc1 := HK.out))
           go_meet
           case rel => exact ⟨by simp, HST, HXB, HK⟩
          | false =>
           cases b2 with
           | false =>
            go_wp2_with (first | (go_at_call 68; (with_reducible refine (HO3.out _ HXB.out).mono ?_); rintro e w3 ⟨rfl, hb3⟩; clear hbx a0 a1 a2 a3 a4 a5 a6 xf3 kc1; replace HST := am (HST.out.below hb3); replace HXB := am (HXB.out.below hb3); replace HK : qAc (w3.cell? ⟨(ad.add (kk * 4)).block, (ad.add (kk * 4)).off + 1, none⟩ = some (.int .i64 q1)) := ⟨(hb3.cell (bl HK.out)).trans HK.out⟩; clear hb3; have hbx := HXB.out.h; rw [← HMS.out.1, ← HMS.out.2.1, ← HMS.out.2.2.1, ← HMS.out.2.2.2.1, ← HMS.out.2.2.2.2.1, ← HMS.out.2.2.2.2.2.1, ← HMS.out.2.2.2.2.2.2] at hbx; have a0 := (qAa hbx 0).trans rfl; have a1 := (qAa hbx 1).trans rfl; have a2 := (qAa hbx 2).trans rfl; have a3 := (qAa hbx 3).trans rfl; have a4 := (qAa hbx 4).trans rfl; have a5 := (qAa hbx 5).trans rfl; have a6 := (qAa hbx 6).trans rfl; have xf3 := (qAa HST.out.x.1 3).trans rfl; have kc1 := HK.out) | (go_at_call 68; (with_reducible refine (HO4.out _ HXB.out).mono ?_); rintro e w3 ⟨rfl, hb3⟩; clear hbx a0 a1 a2 a3 a4 a5 a6 xf3 kc1; replace HST := am (HST.out.below hb3); replace HXB := am (HXB.out.below hb3); replace HK : qAc (w3.cell? ⟨(ad.add (kk * 4)).block, (ad.add (kk * 4)).off + 1, none⟩ = some (.int .i64 q1)) := ⟨(hb3.cell (bl HK.out)).trans HK.out⟩; clear hb3; have hbx := HXB.out.h; rw [← HMS.out.1, ← HMS.out.2.1, ← HMS.out.2.2.1, ← HMS.out.2.2.2.1, ← HMS.out.2.2.2.2.1, ← HMS.out.2.2.2.2.2.1, ← HMS.out.2.2.2.2.2.2] at hbx; have a0 := (qAa hbx 0).trans rfl; have a1 := (qAa hbx 1).trans rfl; have a2 := (qAa hbx 2).trans rfl; have a3 := (qAa hbx 3).trans rfl; have a4 := (qAa hbx 4).trans rfl; have a5 := (qAa hbx 5).trans rfl; have a6 := (qAa hbx 6).trans rfl; have xf3 := (qAa HST.out.x.1 3).trans rfl; have kc1 := HK.out))
            go_meet
            case rel => exact ⟨by simp, HST, HXB, HK⟩
           | true =>
            go_wp2_with (first | (go_at_call 68; (with_reducible refine (HO3.out _ HXB.out).mono ?_); rintro e w3 ⟨rfl, hb3⟩; clear hbx a0 a1 a2 a3 a4 a5 a6 xf3 kc1; replace HST := am (HST.out.below hb3); replace HXB := am (HXB.out.below hb3); replace HK : qAc (w3.cell? ⟨(ad.add (kk * 4)).block, (ad.add (kk * 4)).off + 1, none⟩ = some (.int .i64 q1)) := ⟨(hb3.cell (bl HK.out)).trans HK.out⟩; clear hb3; have hbx := HXB.out.h; rw [← HMS.out.1, ← HMS.out.2.1, ← HMS.out.2.2.1, ← HMS.out.2.2.2.1, ← HMS.out.2.2.2.2.1, ← HMS.out.2.2.2.2.2.1, ← HMS.out.2.2.2.2.2.2] at hbx; have a0 := (qAa hbx 0).trans rfl; have a1 := (qAa hbx 1).trans rfl; have a2 := (qAa hbx 2).trans rfl; have a3 := (qAa hbx 3).trans rfl; have a4 := (qAa hbx 4).trans rfl; have a5 := (qAa hbx 5).trans rfl; have a6 := (qAa hbx 6).trans rfl; have xf3 := (qAa HST.out.x.1 3).trans rfl; have kc1 := HK.out) | (go_at_call 68; (with_reducible refine (HO4.out _ HXB.out).mono ?_); rintro e w3 ⟨rfl, hb3⟩; clear hbx a0 a1 a2 a3 a4 a5 a6 xf3 kc1; replace HST := am (HST.out.below hb3); replace HXB := am (HXB.out.below hb3); replace HK : qAc (w3.cell? ⟨(ad.add (kk * 4)).block, (ad.add (kk * 4)).off + 1, none⟩ = some (.int .i64 q1)) := ⟨(hb3.cell (bl HK.out)).trans HK.out⟩; clear hb3; have hbx := HXB.out.h; rw [← HMS.out.1, ← HMS.out.2.1, ← HMS.out.2.2.1, ← HMS.out.2.2.2.1, ← HMS.out.2.2.2.2.1, ← HMS.out.2.2.2.2.2.1, ← HMS.out.2.2.2.2.2.2] at hbx; have a0 := (qAa hbx 0).trans rfl; have a1 := (qAa hbx 1).trans rfl; have a2 := (qAa hbx 2).trans rfl; have a3 := (qAa hbx 3).trans rfl; have a4 := (qAa hbx 4).trans rfl; have a5 := (qAa hbx 5).trans rfl; have a6 := (qAa hbx 6).trans rfl; have xf3 := (qAa HST.out.x.1 3).trans rfl; have kc1 := HK.out))
            go_meet
            case rel => exact ⟨by simp, HST, HXB, HK⟩
        case rest =>
         obtain ⟨rfl, HST, HXB, HK⟩ := hcut
         obtain ⟨bo, hbo⟩ := eX (((b1 && o3) || (b2 && o4)))
         rw [← hbo]
         cases bo with
         | true =>
          have HRE := leafs 3 (by
            rw [roundR_3 hgd (by
              rw [← hb1, ← hb2, ← ho3, ← ho4]
              have h_ := hbo.symm
              simp only [Bool.or_eq_true, Bool.and_eq_true] at h_
              exact h_)]) (by decide)
          clear leafs hbo hgd HO3 HO4
          go_wp2_with fail
          try rw [Exit.noGoto_ret]
          refine bodyPost_ret (qBP rfl _ _ _) rfl ?_
          refine ⟨_, _, by rw [HRE.out]; rfl, fun m s h => ?_, HST.out.b⟩
          rw [HRE.out] at h
          cases h
         | false =>
          have hov : ¬ ((R.f1 = true ∧ qCf R.f3 = true) ∨ (R.f2 = true ∧ qCf R.f4 = true)) := by
           rw [← hb1, ← hb2, ← ho3, ← ho4]
           intro h_
           have h2_ := hbo.symm
           rw [← Bool.and_eq_true, ← Bool.and_eq_true, ← Bool.or_eq_true, h2_] at h_
           cases h_
          have HGO : qAc (qB3 n kk q1 R met shs = qCh kk q1 b1 b2 R.f3 R.f4 met shs) := ⟨by rw [qDU hgd hov, ← hb1, ← hb2]⟩
          have HPL : qAc ((b1 = true → (kk : Int) + 1 < n) ∧ (b2 = true → q1 < n)) := ⟨by
            rw [hb1, hb2]
            refine ⟨fun h_ => ?_, fun h_ => ?_⟩
            · exact Decidable.byContradiction fun h2_ => hgd (.inr (.inl ⟨h_, by omega⟩))
            · exact Decidable.byContradiction fun h2_ => hgd (.inr (.inr ⟨h_, by omega⟩))⟩
          have HSML : qAc ((b1 = true → qCA R.f3) ∧ (b2 = true → qCA R.f4)) := ⟨by
            have h1_ : b1 = true → qCf R.f3 = false := fun h_ => Bool.eq_false_iff.mpr fun h2_ => hov (.inl ⟨hb1 ▸ h_, h2_⟩)
            have h2_ : b2 = true → qCf R.f4 = false := fun h_ => Bool.eq_false_iff.mpr fun h2_ => hov (.inr ⟨hb2 ▸ h_, h2_⟩)
            refine ⟨fun h_ => ?_, fun h_ => ?_⟩
            · have h3_ := h1_ h_
              unfold qCf at h3_
              simp only [Bool.or_eq_false_iff, decide_eq_false_iff_not] at h3_
              exact ⟨by omega, by omega, HRS.out.1⟩
            · have h3_ := h2_ h_
              unfold qCf at h3_
              simp only [Bool.or_eq_false_iff, decide_eq_false_iff_not] at h3_
              exact ⟨by omega, by omega, HRS.out.2⟩⟩
          clear hbo hgd hov HO3 HO4 ho3 ho4
          go_upto_region 20 with fail
          go_cut [149] from 75 to 150 (fun s149 wx => ∃ (bb : Bool) (met' : List Bool) (shs' : List S117), s149 = .bool bb ∧ qAc (qCh kk q1 b1 b2 R.f3 R.f4 met shs = if bb = true then (22, met, shs) else (0, met', shs')) ∧ qAc (∀ y ∈ shs', qCA y) ∧ qAc (FoSt W M D S n cM cD cS #[.slice A1 p1 c1, .int .i64 res, .slice A2 l1 c2, .slice (some ad) n c3] #[.slice A4 f1 c4, .slice A5 v1 c5] met' (dn.set kk true) shs' wx))
          case first =>
           have HMS : qAc (b0 = R.f0 ∧ b1 = R.f1 ∧ b2 = R.f2 ∧ m3 = R.f3.f0.length ∧ m4 = R.f3.f1.length ∧ m5 = R.f4.f0.length ∧ m6 = R.f4.f1.length) := ⟨⟨hb0, hb1, hb2, hm3, hm4, hm5, hm6⟩⟩
           clear leafs hb0 hb1 hb2 hm3 hm4 hm5 hm6
           have HNM : qAc (¬ ((ad.add (kk * 4)).block = M ∨ (ad.add (kk * 4)).block = S)) := ⟨fun e => by have := HAD.out; rcases e with e | e <;> omega⟩
           replace HST := am (HST.out.below (Below.refl _ _).drew)
           replace HXB := am (HXB.out.below (Below.refl _ _).drew)
           have HK0 := HK
           have hbx := HXB.out.h
           rw [← HMS.out.1, ← HMS.out.2.1, ← HMS.out.2.2.1, ← HMS.out.2.2.2.1, ← HMS.out.2.2.2.2.1, ← HMS.out.2.2.2.2.2.1, ← HMS.out.2.2.2.2.2.2] at hbx
           have a0 := (qAa hbx 0).trans rfl
           have a1 := (qAa hbx 1).trans rfl
           have a2 := (qAa hbx 2).trans rfl
           have a3 := (qAa hbx 3).trans rfl
           have a4 := (qAa hbx 4).trans rfl
           have a5 := (qAa hbx 5).trans rfl
           have a6 := (qAa hbx 6).trans rfl
           have xf3 := (qAa HST.out.x.1 3).trans rfl
           have kc1 := HK.out
           cases b1 with
           | false =>
            cases b2 with
            | false =>
             refine wp_region_noPanic ?_
             refine wp_region_held_drew (S := fun W' => W'.cell? ⟨gX, 1, none⟩ = some (.bool false) ∧ W'.cell? ⟨gX, 2, none⟩ = some (.bool false) ∧ W'.cell? ⟨gX, 3, none⟩ = some (.slice D3 m3 d3) ∧ W'.cell? ⟨gX, 4, none⟩ = some (.slice D4 m4 d4) ∧ W'.cell? ⟨gX, 5, none⟩ = some (.slice D5 m5 d5) ∧ W'.cell? ⟨gX, 6, none⟩ = some (.slice D6 m6 d6) ∧ W'.cell? ⟨W.heap.size, 3, none⟩ = some (.slice (some ad) n c3) ∧ W'.cell? ⟨(ad.add (kk * 4)).block, (ad.add (kk * 4)).off + 1, none⟩ = some (.int .i64 q1)) (by kernel_rfl) ⟨a1, a2, a3, a4, a5, a6, xf3, kc1⟩ (fun hHeld => ?_)
             refine tH 0 (v := ?_) rfl (.inl ⟨by rfl, ?_⟩) ?_
             rotate_left
             ·intro w hSw; (try dsimp only at hSw); go_simp <;> with_reducible rfl
             simp only [Act.put, zA, zB, zC, zD, zE, zF]
             refine tH 1 (v := ?_) rfl (.inl ⟨by rfl, ?_⟩) ?_
             rotate_left
             ·intro w hSw; (try dsimp only at hSw); go_simp <;> with_reducible rfl
             simp only [Act.put, zA, zB, zC, zD, zE, zF]
             refine tH 2 (v := ?_) rfl (.inl ⟨by rfl, ?_⟩) ?_
             rotate_left
             ·intro w hSw; (try dsimp only at hSw); go_simp <;> with_reducible rfl
             simp only [Act.put, zA, zB, zC, zD, zE, zF]
             refine tH 3 rfl (.inr ⟨by rfl, rfl⟩) ?_
             simp only [Act.put, zA, zB, zC, zD, zE, zF]
             refine tH 4 rfl (.inr ⟨by rfl, rfl⟩) ?_
             simp only [Act.put, zA, zB, zC, zD, zE, zF]
             refine tH 5 rfl (.inr ⟨by rfl, rfl⟩) ?_
             simp only [Act.put, zA, zB, zC, zD, zE, zF]
             refine tH 6 rfl (.inr ⟨by rfl, rfl⟩) ?_
             simp only [Act.put, zA, zB, zC, zD, zE, zF]
             refine tH 7 rfl (.inr ⟨by rfl, rfl⟩) ?_
             simp only [Act.put, zA, zB, zC, zD, zE, zF]
             refine tH 8 rfl (.inr ⟨by rfl, rfl⟩) ?_
             simp only [Act.put, zA, zB, zC, zD, zE, zF]
             refine tH 9 rfl (.inr ⟨by rfl, rfl⟩) ?_
             simp only [Act.put, zA, zB, zC, zD, zE, zF]
             refine tH 10 rfl (.inr ⟨by rfl, rfl⟩) ?_
             simp only [Act.put, zA, zB, zC, zD, zE, zF]
             refine tH 11 (v := ?_) rfl (.inl ⟨by rfl, ?_⟩) ?_
             rotate_left
             ·intro w hSw; (try dsimp only at hSw); go_simp <;> with_reducible rfl
             simp only [Act.put, zA, zB, zC, zD, zE, zF]
             refine tH 12 (v := ?_) rfl (.inl ⟨by rfl, ?_⟩) ?_
             rotate_left
             ·intro w hSw; (try dsimp only at hSw); go_simp <;> with_reducible rfl
             simp only [Act.put, zA, zB, zC, zD, zE, zF]
             refine tH 13 (v := ?_) rfl (.inl ⟨by rfl, ?_⟩) ?_
             rotate_left
             ·intro w hSw; (try dsimp only at hSw); go_simp <;> with_reducible rfl
             simp only [Act.put, zA, zB, zC, zD, zE, zF]
             refine tH 14 (v := ?_) rfl (.inl ⟨by rfl, ?_⟩) ?_
             rotate_left
             ·intro w hSw; (try dsimp only at hSw); go_simp <;> with_reducible rfl
             simp only [Act.put, zA, zB, zC, zD, zE, zF]
             refine tH 15 (v := ?_) rfl (.inl ⟨by rfl, ?_⟩) ?_
             rotate_left
             ·intro w hSw; (try dsimp only at hSw); go_simp <;> with_reducible rfl
             simp only [Act.put, zA, zB, zC, zD, zE, zF]
             refine tH 16 rfl (.inr ⟨by rfl, rfl⟩) ?_
             simp only [Act.put, zA, zB, zC, zD, zE, zF]
             refine tH 17 rfl (.inr ⟨by rfl, rfl⟩) ?_
             simp only [Act.put, zA, zB, zC, zD, zE, zF]
             refine tH 18 rfl (.inr ⟨by rfl, rfl⟩) ?_
             simp only [Act.put, zA, zB, zC, zD, zE, zF]
             refine tH 19 rfl (.inr ⟨by rfl, rfl⟩) ?_
             simp only [Act.put, zA, zB, zC, zD, zE, zF]
             refine tH 20 rfl (.inr ⟨by rfl, rfl⟩) ?_
             simp only [Act.put, zA, zB, zC, zD, zE, zF]
             refine tH 21 rfl (.inr ⟨by rfl, rfl⟩) ?_
             simp only [Act.put, zA, zB, zC, zD, zE, zF]
             refine tH 22 rfl (.inr ⟨by rfl, rfl⟩) ?_
             simp only [Act.put, zA, zB, zC, zD, zE, zF]
             refine tH 23 rfl (.inr ⟨by rfl, rfl⟩) ?_
             simp only [Act.put, zA, zB, zC, zD, zE, zF]
             refine tH 24 rfl (.inr ⟨by rfl, rfl⟩) ?_
             simp only [Act.put, zA, zB, zC, zD, zE, zF]
             refine tH 25 rfl (.inr ⟨by rfl, rfl⟩) ?_
             simp only [Act.put, zA, zB, zC, zD, zE, zF]
             refine tH 26 rfl (.inr ⟨by rfl, rfl⟩) ?_
             simp only [Act.put, zA, zB, zC, zD, zE, zF]
             refine tH 27 rfl (.inr ⟨by rfl, rfl⟩) ?_
             simp only [Act.put, zA, zB, zC, zD, zE, zF]
             refine tH 28 (v := ?_) rfl (.inl ⟨by rfl, ?_⟩) ?_
             rotate_left
             ·intro w hSw; (try dsimp only at hSw); go_simp <;> with_reducible rfl
             simp only [Act.put, zA, zB, zC, zD, zE, zF]
             refine tH 29 (v := ?_) rfl (.inl ⟨by rfl, ?_⟩) ?_
             rotate_left
             ·intro w hSw; (try dsimp only at hSw); go_simp <;> with_reducible rfl
             simp only [Act.put, zA, zB, zC, zD, zE, zF]
             refine wpAnyH_done (by kernel_rfl) ?_ _
             refine NoPanic.normal ?_
             go_wp2_with fail
             go_meet
             case rel => exact ⟨false, met, shs, rfl, ⟨by rw [qDO]; rfl⟩, HSM, HST⟩
            | true =>
             have HNB : qAc (∀ (W1 : World) (met' : List Bool) (shs' : List S117), FoSt W M D S n cM cD cS #[.slice A1 p1 c1, .int .i64 res, .slice A2 l1 c2, .slice (some ad) n c3] #[.slice A4 f1 c4, .slice A5 v1 c5] met' (dn.set kk true) shs' W1 → XB M D S R gX D3 D4 D5 D6 d3 d4 d5 d6 W1 → (∀ y ∈ shs', qCA y) → Calls Tryz.prog 69 #[.slice (some ⟨M, 0, none⟩) n cM, .slice (some ⟨S, 0, none⟩) n cS, .int .i64 (q1), .agg #[.slice D5 m5 d5, .slice D6 m6 d6]] W1 fun e w' => e = .returned (.bool (qAB met' shs' (q1) R.f4).1) ∧ FoSt W M D S n cM cD cS #[.slice A1 p1 c1, .int .i64 res, .slice A2 l1 c2, .slice (some ad) n c3] #[.slice A4 f1 c4, .slice A5 v1 c5] (qAB met' shs' (q1) R.f4).2.1 (dn.set kk true) (qAB met' shs' (q1) R.f4).2.2 w' ∧ Fr W1 w' (fun q => q = M ∨ q = S)) := ⟨fun W1 met' shs' h hx hsm => by
               rw [HMS.out.2.2.2.2.2.1, HMS.out.2.2.2.2.2.2]
               refine (qDN h.m h.s (q1) (by first | omega | exact hxo.2.2) (by first | exact HPL.out.1 rfl | exact HPL.out.2 rfl) R.f4 D5 D6 d5 d6 hx.g5 hx.l5 hx.g6 hx.l6 (fun q hq => ⟨⟨hq.1, hq.2.1⟩, hq.2.2, hq.1⟩) (by omega) (fun q hq => hq.1) hsm (by have := h.t; omega) h.t).mono ?_
               intro e w' hp
               exact h.noted hp hWM hMD hDS⟩
             obtain ⟨⟨t1, met1, shs1⟩, hr1⟩ : ∃ r, r = qAB met shs (q1) R.f4 := ⟨_, rfl⟩
             have HC1 : qAc (∀ W1, FoSt W M D S n cM cD cS #[.slice A1 p1 c1, .int .i64 res, .slice A2 l1 c2, .slice (some ad) n c3] #[.slice A4 f1 c4, .slice A5 v1 c5] met (dn.set kk true) shs W1 → XB M D S R gX D3 D4 D5 D6 d3 d4 d5 d6 W1 → Calls Tryz.prog 69 #[.slice (some ⟨M, 0, none⟩) n cM, .slice (some ⟨S, 0, none⟩) n cS, .int .i64 (q1), .agg #[.slice D5 m5 d5, .slice D6 m6 d6]] W1 fun e w' => e = .returned (.bool t1) ∧ FoSt W M D S n cM cD cS #[.slice A1 p1 c1, .int .i64 res, .slice A2 l1 c2, .slice (some ad) n c3] #[.slice A4 f1 c4, .slice A5 v1 c5] met1 (dn.set kk true) shs1 w' ∧ Fr W1 w' (fun q => q = M ∨ q = S)) := ⟨fun W1 h hx => by
               have h_ := HNB.out W1 met shs h hx HSM.out
               rw [← hr1] at h_
               exact h_⟩
             have HS1 : qAc (∀ y ∈ shs1, qCA y) := ⟨by
               have h_ := qCQ (met := met) (i := q1) HSM.out (HSML.out.2 rfl)
               rw [← hr1] at h_
               exact h_⟩
             cases t1 with
             | false =>
              refine wp_region_noPanic ?_
              refine wp_region_held_drew (S := fun W' => W'.cell? ⟨gX, 1, none⟩ = some (.bool false) ∧ W'.cell? ⟨gX, 2, none⟩ = some (.bool true) ∧ W'.cell? ⟨gX, 3, none⟩ = some (.slice D3 m3 d3) ∧ W'.cell? ⟨gX, 4, none⟩ = some (.slice D4 m4 d4) ∧ W'.cell? ⟨gX, 5, none⟩ = some (.slice D5 m5 d5) ∧ W'.cell? ⟨gX, 6, none⟩ = some (.slice D6 m6 d6) ∧ W'.cell? ⟨W.heap.size, 3, none⟩ = some (.slice (some ad) n c3) ∧ W'.cell? ⟨(ad.add (kk * 4)).block, (ad.add (kk * 4)).off + 1, none⟩ = some (.int .i64 q1)) (by kernel_rfl) ⟨a1, a2, a3, a4, a5, a6, xf3, kc1⟩ (fun hHeld => ?_)
              refine tH 0 (v := ?_) rfl (.inl ⟨by rfl, ?_⟩) ?_
              rotate_left
              ·intro w hSw; (try dsimp only at hSw); go_simp <;> with_reducible rfl
              simp only [Act.put, zA, zB, zC, zD, zE, zF]
              refine tH 1 (v := ?_) rfl (.inl ⟨by rfl, ?_⟩) ?_
              rotate_left
              ·intro w hSw; (try dsimp only at hSw); go_simp <;> with_reducible rfl
              simp only [Act.put, zA, zB, zC, zD, zE, zF]
              refine tH 2 (v := ?_) rfl (.inl ⟨by rfl, ?_⟩) ?_
              rotate_left
              ·intro w hSw; (try dsimp only at hSw); go_simp <;> with_reducible rfl
              simp only [Act.put, zA, zB, zC, zD, zE, zF]
              refine tH 3 rfl (.inr ⟨by rfl, rfl⟩) ?_
              simp only [Act.put, zA, zB, zC, zD, zE, zF]
              refine tH 4 rfl (.inr ⟨by rfl, rfl⟩) ?_
              simp only [Act.put, zA, zB, zC, zD, zE, zF]
              refine tH 5 rfl (.inr ⟨by rfl, rfl⟩) ?_
              simp only [Act.put, zA, zB, zC, zD, zE, zF]
              refine tH 6 rfl (.inr ⟨by rfl, rfl⟩) ?_
              simp only [Act.put, zA, zB, zC, zD, zE, zF]
              refine tH 7 rfl (.inr ⟨by rfl, rfl⟩) ?_
              simp only [Act.put, zA, zB, zC, zD, zE, zF]
              refine tH 8 rfl (.inr ⟨by rfl, rfl⟩) ?_
              simp only [Act.put, zA, zB, zC, zD, zE, zF]
              refine tH 9 rfl (.inr ⟨by rfl, rfl⟩) ?_
              simp only [Act.put, zA, zB, zC, zD, zE, zF]
              refine tH 10 rfl (.inr ⟨by rfl, rfl⟩) ?_
              simp only [Act.put, zA, zB, zC, zD, zE, zF]
              refine tH 11 (v := ?_) rfl (.inl ⟨by rfl, ?_⟩) ?_
              rotate_left
              ·intro w hSw; (try dsimp only at hSw); go_simp <;> with_reducible rfl
              simp only [Act.put, zA, zB, zC, zD, zE, zF]
              refine tH 12 (v := ?_) rfl (.inl ⟨by rfl, ?_⟩) ?_
              rotate_left
              ·intro w hSw; (try dsimp only at hSw); go_simp <;> with_reducible rfl
              simp only [Act.put, zA, zB, zC, zD, zE, zF]
              refine tH 13 (v := ?_) rfl (.inl ⟨by rfl, ?_⟩) ?_
              rotate_left
              ·intro w hSw; (try dsimp only at hSw); go_simp <;> with_reducible rfl
              simp only [Act.put, zA, zB, zC, zD, zE, zF]
              refine tH 14 (v := ?_) rfl (.inl ⟨by rfl, ?_⟩) ?_
              rotate_left
              ·intro w hSw; (try dsimp only at hSw); go_simp <;> with_reducible rfl
              simp only [Act.put, zA, zB, zC, zD, zE, zF]
              refine tH 15 (v := ?_) rfl (.inl ⟨by rfl, ?_⟩) ?_
              rotate_left
              ·intro w hSw; (try dsimp only at hSw); go_simp <;> with_reducible rfl
              simp only [Act.put, zA, zB, zC, zD, zE, zF]
              refine tH 16 (v := ?_) rfl (.inl ⟨by rfl, ?_⟩) ?_
              rotate_left
              ·intro w hSw; (try dsimp only at hSw); go_simp <;> with_reducible rfl
              simp only [Act.put, zA, zB, zC, zD, zE, zF]
              refine tH 17 (v := ?_) rfl (.inl ⟨by rfl, ?_⟩) ?_
              rotate_left
              ·intro w hSw; (try dsimp only at hSw); go_simp <;> with_reducible rfl
              simp only [Act.put, zA, zB, zC, zD, zE, zF]
              refine tH 18 (v := ?_) rfl (.inl ⟨by rfl, ?_⟩) ?_
              rotate_left
              ·intro w hSw; (try dsimp only at hSw); go_simp <;> with_reducible rfl
              simp only [Act.put, zA, zB, zC, zD, zE, zF]
              refine tH 19 (v := ?_) rfl (.inl ⟨by rfl, ?_⟩) ?_
              rotate_left
              ·intro w hSw; (try dsimp only at hSw); go_simp <;> with_reducible rfl
              simp only [Act.put, zA, zB, zC, zD, zE, zF]
              refine tH 20 (v := ?_) rfl (.inl ⟨by rfl, ?_⟩) ?_
              rotate_left
              ·intro w hSw; (try dsimp only at hSw); go_simp <;> with_reducible rfl
              simp only [Act.put, zA, zB, zC, zD, zE, zF]
              refine tH 21 (v := ?_) rfl (.inl ⟨by rfl, ?_⟩) ?_
              rotate_left
              ·intro w hSw; (try dsimp only at hSw); go_simp <;> with_reducible rfl
              simp only [Act.put, zA, zB, zC, zD, zE, zF]
              refine tH 22 (v := ?_) rfl (.inl ⟨by rfl, ?_⟩) ?_
              rotate_left
              ·intro w hSw; (try dsimp only at hSw); go_simp <;> with_reducible rfl
              simp only [Act.put, zA, zB, zC, zD, zE, zF]
              refine tH 23 (v := ?_) rfl (.inl ⟨by rfl, ?_⟩) ?_
              rotate_left
              ·intro w hSw; (try dsimp only at hSw); go_simp <;> with_reducible rfl
              simp only [Act.put, zA, zB, zC, zD, zE, zF]
              refine tH 24 (v := ?_) rfl (.inl ⟨by rfl, ?_⟩) ?_
              rotate_left
              ·intro w hSw; (try dsimp only at hSw); go_simp <;> with_reducible rfl
              simp only [Act.put, zA, zB, zC, zD, zE, zF]
              refine tH 25 (v := ?_) rfl (.inl ⟨by rfl, ?_⟩) ?_
              rotate_left
              ·intro w hSw; (try dsimp only at hSw); go_simp <;> with_reducible rfl
              simp only [Act.put, zA, zB, zC, zD, zE, zF]
              refine wpAnyH_ready (rs := [26]) (by kernel_rfl) (by simp) ?_
              refine AllReadyH.cons (o := _) rfl (fun K hK => ?_) ?_
              ·go_simp
               go_at_call 69
               (with_reducible refine (HC1.out _ HST.out HXB.out).mono ?_)
               rintro e w5 ⟨rfl, hst, hfr⟩
               clear hbx a0 a1 a2 a3 a4 a5 a6 xf3 kc1
               replace HST := am hst
               replace HXB := am (HXB.out.fr hfr)
               replace HK : qAc (w5.cell? ⟨(ad.add (kk * 4)).block, (ad.add (kk * 4)).off + 1, none⟩ = some (.int .i64 q1)) := ⟨hfr.cell HK.out HNM.out⟩
               clear hst hfr
               have hbx := HXB.out.h
               rw [← HMS.out.1, ← HMS.out.2.1, ← HMS.out.2.2.1, ← HMS.out.2.2.2.1, ← HMS.out.2.2.2.2.1, ← HMS.out.2.2.2.2.2.1, ← HMS.out.2.2.2.2.2.2] at hbx
               have a0 := (qAa hbx 0).trans rfl
               have a1 := (qAa hbx 1).trans rfl
               have a2 := (qAa hbx 2).trans rfl
               have a3 := (qAa hbx 3).trans rfl
               have a4 := (qAa hbx 4).trans rfl
               have a5 := (qAa hbx 5).trans rfl
               have a6 := (qAa hbx 6).trans rfl
               have xf3 := (qAa HST.out.x.1 3).trans rfl
               have kc1 := HK.out
               go_wp2_with fail
               refine hK.out _ _ ⟨a1, a2, a3, a4, a5, a6, xf3, kc1⟩ (fun hHeld => ?_)
               clear hK K
               try simp only [Act.put, zA, zB, zC, zD, zE, zF]
               refine tH 27 (v := ?_) rfl (.inl ⟨by rfl, ?_⟩) ?_
               rotate_left
               ·intro w hSw; (try dsimp only at hSw); go_simp <;> with_reducible rfl
               simp only [Act.put, zA, zB, zC, zD, zE, zF]
               refine tH 28 (v := ?_) rfl (.inl ⟨by rfl, ?_⟩) ?_
               rotate_left
               ·intro w hSw; (try dsimp only at hSw); go_simp <;> with_reducible rfl
               simp only [Act.put, zA, zB, zC, zD, zE, zF]
               refine tH 29 (v := ?_) rfl (.inl ⟨by rfl, ?_⟩) ?_
               rotate_left
               ·intro w hSw; (try dsimp only at hSw); go_simp <;> with_reducible rfl
               simp only [Act.put, zA, zB, zC, zD, zE, zF]
               refine wpAnyH_done (by kernel_rfl) ?_ _
               refine NoPanic.normal ?_
               go_wp2_with fail
               go_meet
               case rel => exact ⟨true, met1, shs1, rfl, ⟨by rw [qCW, ← hr1]; rfl⟩, HS1, HST⟩
              exact AllReadyH.nil
             | true =>
              refine wp_region_noPanic ?_
              refine wp_region_held_drew (S := fun W' => W'.cell? ⟨gX, 1, none⟩ = some (.bool false) ∧ W'.cell? ⟨gX, 2, none⟩ = some (.bool true) ∧ W'.cell? ⟨gX, 3, none⟩ = some (.slice D3 m3 d3) ∧ W'.cell? ⟨gX, 4, none⟩ = some (.slice D4 m4 d4) ∧ W'.cell? ⟨gX, 5, none⟩ = some (.slice D5 m5 d5) ∧ W'.cell? ⟨gX, 6, none⟩ = some (.slice D6 m6 d6) ∧ W'.cell? ⟨W.heap.size, 3, none⟩ = some (.slice (some ad) n c3) ∧ W'.cell? ⟨(ad.add (kk * 4)).block, (ad.add (kk * 4)).off + 1, none⟩ = some (.int .i64 q1)) (by kernel_rfl) ⟨a1, a2, a3, a4, a5, a6, xf3, kc1⟩ (fun hHeld => ?_)
              refine tH 0 (v := ?_) rfl (.inl ⟨by rfl, ?_⟩) ?_
              rotate_left
              ·intro w hSw; (try dsimp only at hSw); go_simp <;> with_reducible rfl
              simp only [Act.put, zA, zB, zC, zD, zE, zF]
              refine tH 1 (v := ?_) rfl (.inl ⟨by rfl, ?_⟩) ?_
              rotate_left
              ·intro w hSw; (try dsimp only at hSw); go_simp <;> with_reducible rfl
              simp only [Act.put, zA, zB, zC, zD, zE, zF]
              refine tH 2 (v := ?_) rfl (.inl ⟨by rfl, ?_⟩) ?_
              rotate_left
              ·intro w hSw; (try dsimp only at hSw); go_simp <;> with_reducible rfl
              simp only [Act.put, zA, zB, zC, zD, zE, zF]
              refine tH 3 rfl (.inr ⟨by rfl, rfl⟩) ?_
              simp only [Act.put, zA, zB, zC, zD, zE, zF]
              refine tH 4 rfl (.inr ⟨by rfl, rfl⟩) ?_
              simp only [Act.put, zA, zB, zC, zD, zE, zF]
              refine tH 5 rfl (.inr ⟨by rfl, rfl⟩) ?_
              simp only [Act.put, zA, zB, zC, zD, zE, zF]
              refine tH 6 rfl (.inr ⟨by rfl, rfl⟩) ?_
              simp only [Act.put, zA, zB, zC, zD, zE, zF]
              refine tH 7 rfl (.inr ⟨by rfl, rfl⟩) ?_
              simp only [Act.put, zA, zB, zC, zD, zE, zF]
              refine tH 8 rfl (.inr ⟨by rfl, rfl⟩) ?_
              simp only [Act.put, zA, zB, zC, zD, zE, zF]
              refine tH 9 rfl (.inr ⟨by rfl, rfl⟩) ?_
              simp only [Act.put, zA, zB, zC, zD, zE, zF]
              refine tH 10 rfl (.inr ⟨by rfl, rfl⟩) ?_
              simp only [Act.put, zA, zB, zC, zD, zE, zF]
              refine tH 11 (v := ?_) rfl (.inl ⟨by rfl, ?_⟩) ?_
              rotate_left
              ·intro w hSw; (try dsimp only at hSw); go_simp <;> with_reducible rfl
              simp only [Act.put, zA, zB, zC, zD, zE, zF]
              refine tH 12 (v := ?_) rfl (.inl ⟨by rfl, ?_⟩) ?_
              rotate_left
              ·intro w hSw; (try dsimp only at hSw); go_simp <;> with_reducible rfl
              simp only [Act.put, zA, zB, zC, zD, zE, zF]
              refine tH 13 (v := ?_) rfl (.inl ⟨by rfl, ?_⟩) ?_
              rotate_left
              ·intro w hSw; (try dsimp only at hSw); go_simp <;> with_reducible rfl
              simp only [Act.put, zA, zB, zC, zD, zE, zF]
              refine tH 14 (v := ?_) rfl (.inl ⟨by rfl, ?_⟩) ?_
              rotate_left
              ·intro w hSw; (try dsimp only at hSw); go_simp <;> with_reducible rfl
              simp only [Act.put, zA, zB, zC, zD, zE, zF]
              refine tH 15 (v := ?_) rfl (.inl ⟨by rfl, ?_⟩) ?_
              rotate_left
              ·intro w hSw; (try dsimp only at hSw); go_simp <;> with_reducible rfl
              simp only [Act.put, zA, zB, zC, zD, zE, zF]
              refine tH 16 (v := ?_) rfl (.inl ⟨by rfl, ?_⟩) ?_
              rotate_left
              ·intro w hSw; (try dsimp only at hSw); go_simp <;> with_reducible rfl
              simp only [Act.put, zA, zB, zC, zD, zE, zF]
              refine tH 17 (v := ?_) rfl (.inl ⟨by rfl, ?_⟩) ?_
              rotate_left
              ·intro w hSw; (try dsimp only at hSw); go_simp <;> with_reducible rfl
              simp only [Act.put, zA, zB, zC, zD, zE, zF]
              refine tH 18 (v := ?_) rfl (.inl ⟨by rfl, ?_⟩) ?_
              rotate_left
              ·intro w hSw; (try dsimp only at hSw); go_simp <;> with_reducible rfl
              simp only [Act.put, zA, zB, zC, zD, zE, zF]
              refine tH 19 (v := ?_) rfl (.inl ⟨by rfl, ?_⟩) ?_
              rotate_left
              ·intro w hSw; (try dsimp only at hSw); go_simp <;> with_reducible rfl
              simp only [Act.put, zA, zB, zC, zD, zE, zF]
              refine tH 20 (v := ?_) rfl (.inl ⟨by rfl, ?_⟩) ?_
              rotate_left
              ·intro w hSw; (try dsimp only at hSw); go_simp <;> with_reducible rfl
              simp only [Act.put, zA, zB, zC, zD, zE, zF]
              refine tH 21 (v := ?_) rfl (.inl ⟨by rfl, ?_⟩) ?_
              rotate_left
              ·intro w hSw; (try dsimp only at hSw); go_simp <;> with_reducible rfl
              simp only [Act.put, zA, zB, zC, zD, zE, zF]
              refine tH 22 (v := ?_) rfl (.inl ⟨by rfl, ?_⟩) ?_
              rotate_left
              ·intro w hSw; (try dsimp only at hSw); go_simp <;> with_reducible rfl
              simp only [Act.put, zA, zB, zC, zD, zE, zF]
              refine tH 23 (v := ?_) rfl (.inl ⟨by rfl, ?_⟩) ?_
              rotate_left
              ·intro w hSw; (try dsimp only at hSw); go_simp <;> with_reducible rfl
              simp only [Act.put, zA, zB, zC, zD, zE, zF]
              refine tH 24 (v := ?_) rfl (.inl ⟨by rfl, ?_⟩) ?_
              rotate_left
              ·intro w hSw; (try dsimp only at hSw); go_simp <;> with_reducible rfl
              simp only [Act.put, zA, zB, zC, zD, zE, zF]
              refine tH 25 (v := ?_) rfl (.inl ⟨by rfl, ?_⟩) ?_
              rotate_left
              ·intro w hSw; (try dsimp only at hSw); go_simp <;> with_reducible rfl
              simp only [Act.put, zA, zB, zC, zD, zE, zF]
              refine wpAnyH_ready (rs := [26]) (by kernel_rfl) (by simp) ?_
              refine AllReadyH.cons (o := _) rfl (fun K hK => ?_) ?_
              ·go_simp
               go_at_call 69
               (with_reducible refine (HC1.out _ HST.out HXB.out).mono ?_)
               rintro e w5 ⟨rfl, hst, hfr⟩
               clear hbx a0 a1 a2 a3 a4 a5 a6 xf3 kc1
               replace HST := am hst
               replace HXB := am (HXB.out.fr hfr)
               replace HK : qAc (w5.cell? ⟨(ad.add (kk * 4)).block, (ad.add (kk * 4)).off + 1, none⟩ = some (.int .i64 q1)) := ⟨hfr.cell HK.out HNM.out⟩
               clear hst hfr
               have hbx := HXB.out.h
               rw [← HMS.out.1, ← HMS.out.2.1, ← HMS.out.2.2.1, ← HMS.out.2.2.2.1, ← HMS.out.2.2.2.2.1, ← HMS.out.2.2.2.2.2.1, ← HMS.out.2.2.2.2.2.2] at hbx
               have a0 := (qAa hbx 0).trans rfl
               have a1 := (qAa hbx 1).trans rfl
               have a2 := (qAa hbx 2).trans rfl
               have a3 := (qAa hbx 3).trans rfl
               have a4 := (qAa hbx 4).trans rfl
               have a5 := (qAa hbx 5).trans rfl
               have a6 := (qAa hbx 6).trans rfl
               have xf3 := (qAa HST.out.x.1 3).trans rfl
               have kc1 := HK.out
               go_wp2_with fail
               refine hK.out _ _ ⟨a1, a2, a3, a4, a5, a6, xf3, kc1⟩ (fun hHeld => ?_)
               clear hK K
               try simp only [Act.put, zA, zB, zC, zD, zE, zF]
               refine tH 27 (v := ?_) rfl (.inl ⟨by rfl, ?_⟩) ?_
               rotate_left
               ·intro w hSw; (try dsimp only at hSw); go_simp <;> with_reducible rfl
               simp only [Act.put, zA, zB, zC, zD, zE, zF]
               refine tH 28 (v := ?_) rfl (.inl ⟨by rfl, ?_⟩) ?_
               rotate_left
               ·intro w hSw; (try dsimp only at hSw); go_simp <;> with_reducible rfl
               simp only [Act.put, zA, zB, zC, zD, zE, zF]
               refine tH 29 (v := ?_) rfl (.inl ⟨by rfl, ?_⟩) ?_
               rotate_left
               ·intro w hSw; (try dsimp only at hSw); go_simp <;> with_reducible rfl
               simp only [Act.put, zA, zB, zC, zD, zE, zF]
               refine wpAnyH_done (by kernel_rfl) ?_ _
               refine NoPanic.normal ?_
               go_wp2_with fail
               go_meet
               case rel => exact ⟨false, met1, shs1, rfl, ⟨by rw [qCW, ← hr1]; rfl⟩, HS1, HST⟩
              exact AllReadyH.nil
           | true =>
            have HNA : qAc (∀ (W1 : World) (met' : List Bool) (shs' : List S117), FoSt W M D S n cM cD cS #[.slice A1 p1 c1, .int .i64 res, .slice A2 l1 c2, .slice (some ad) n c3] #[.slice A4 f1 c4, .slice A5 v1 c5] met' (dn.set kk true) shs' W1 → XB M D S R gX D3 D4 D5 D6 d3 d4 d5 d6 W1 → (∀ y ∈ shs', qCA y) → Calls Tryz.prog 69 #[.slice (some ⟨M, 0, none⟩) n cM, .slice (some ⟨S, 0, none⟩) n cS, .int .i64 ((kk : Int) + 1), .agg #[.slice D3 m3 d3, .slice D4 m4 d4]] W1 fun e w' => e = .returned (.bool (qAB met' shs' ((kk : Int) + 1) R.f3).1) ∧ FoSt W M D S n cM cD cS #[.slice A1 p1 c1, .int .i64 res, .slice A2 l1 c2, .slice (some ad) n c3] #[.slice A4 f1 c4, .slice A5 v1 c5] (qAB met' shs' ((kk : Int) + 1) R.f3).2.1 (dn.set kk true) (qAB met' shs' ((kk : Int) + 1) R.f3).2.2 w' ∧ Fr W1 w' (fun q => q = M ∨ q = S)) := ⟨fun W1 met' shs' h hx hsm => by
              rw [HMS.out.2.2.2.1, HMS.out.2.2.2.2.1]
              refine (qDN h.m h.s ((kk : Int) + 1) (by first | omega | exact hxo.2.2) (by first | exact HPL.out.1 rfl | exact HPL.out.2 rfl) R.f3 D3 D4 d3 d4 hx.g3 hx.l3 hx.g4 hx.l4 (fun q hq => ⟨⟨hq.1, hq.2.1⟩, hq.2.2, hq.1⟩) (by omega) (fun q hq => hq.1) hsm (by have := h.t; omega) h.t).mono ?_
              intro e w' hp
              exact h.noted hp hWM hMD hDS⟩
            obtain ⟨⟨t1, met1, shs1⟩, hr1⟩ : ∃ r, r = qAB met shs ((kk : Int) + 1) R.f3 := ⟨_, rfl⟩
            have HC1 : qAc (∀ W1, FoSt W M D S n cM cD cS #[.slice A1 p1 c1, .int .i64 res, .slice A2 l1 c2, .slice (some ad) n c3] #[.slice A4 f1 c4, .slice A5 v1 c5] met (dn.set kk true) shs W1 → XB M D S R gX D3 D4 D5 D6 d3 d4 d5 d6 W1 → Calls Tryz.prog 69 #[.slice (some ⟨M, 0, none⟩) n cM, .slice (some ⟨S, 0, none⟩) n cS, .int .i64 ((kk : Int) + 1), .agg #[.slice D3 m3 d3, .slice D4 m4 d4]] W1 fun e w' => e = .returned (.bool t1) ∧ FoSt W M D S n cM cD cS #[.slice A1 p1 c1, .int .i64 res, .slice A2 l1 c2, .slice (some ad) n c3] #[.slice A4 f1 c4, .slice A5 v1 c5] met1 (dn.set kk true) shs1 w' ∧ Fr W1 w' (fun q => q = M ∨ q = S)) := ⟨fun W1 h hx => by
              have h_ := HNA.out W1 met shs h hx HSM.out
              rw [← hr1] at h_
              exact h_⟩
            have HS1 : qAc (∀ y ∈ shs1, qCA y) := ⟨by
              have h_ := qCQ (met := met) (i := (kk : Int) + 1) HSM.out (HSML.out.1 rfl)
              rw [← hr1] at h_
              exact h_⟩
            cases b2 with
            | false =>
             cases t1 with
             | false =>
              have hwk : wrap64 ((kk : Int) + 1) = (kk : Int) + 1 ∧ IntKind.i64.wrap ((kk : Int) + 1) = (kk : Int) + 1 := ⟨by unfold wrap64; omega, by simp [IntKind.wrap, IntKind.bits, IntKind.signed]; omega⟩
              obtain ⟨hwk, hwk2⟩ := hwk
              refine wp_region_noPanic ?_
              refine wp_region_held_drew (S := fun W' => W'.cell? ⟨gX, 1, none⟩ = some (.bool true) ∧ W'.cell? ⟨gX, 2, none⟩ = some (.bool false) ∧ W'.cell? ⟨gX, 3, none⟩ = some (.slice D3 m3 d3) ∧ W'.cell? ⟨gX, 4, none⟩ = some (.slice D4 m4 d4) ∧ W'.cell? ⟨gX, 5, none⟩ = some (.slice D5 m5 d5) ∧ W'.cell? ⟨gX, 6, none⟩ = some (.slice D6 m6 d6) ∧ W'.cell? ⟨W.heap.size, 3, none⟩ = some (.slice (some ad) n c3) ∧ W'.cell? ⟨(ad.add (kk * 4)).block, (ad.add (kk * 4)).off + 1, none⟩ = some (.int .i64 q1)) (by kernel_rfl) ⟨a1, a2, a3, a4, a5, a6, xf3, kc1⟩ (fun hHeld => ?_)
              refine tH 0 (v := ?_) rfl (.inl ⟨by rfl, ?_⟩) ?_
              rotate_left
              ·intro w hSw; (try dsimp only at hSw); go_simp <;> with_reducible rfl
              simp only [Act.put, zA, zB, zC, zD, zE, zF]
              refine tH 1 (v := ?_) rfl (.inl ⟨by rfl, ?_⟩) ?_
              rotate_left
              ·intro w hSw; (try dsimp only at hSw); go_simp <;> with_reducible rfl
              simp only [Act.put, zA, zB, zC, zD, zE, zF]
              refine tH 2 (v := ?_) rfl (.inl ⟨by rfl, ?_⟩) ?_
              rotate_left
              ·intro w hSw; (try dsimp only at hSw); go_simp <;> with_reducible rfl
              simp only [Act.put, zA, zB, zC, zD, zE, zF]
              refine tH 3 (v := ?_) rfl (.inl ⟨by rfl, ?_⟩) ?_
              rotate_left
              ·intro w hSw; (try dsimp only at hSw); go_simp <;> with_reducible rfl
              simp only [Act.put, zA, zB, zC, zD, zE, zF]
              refine tH 4 (v := ?_) rfl (.inl ⟨by rfl, ?_⟩) ?_
              rotate_left
              ·intro w hSw; (try dsimp only at hSw); go_simp <;> with_reducible rfl
              simp only [Act.put, zA, zB, zC, zD, zE, zF]
              refine tH 5 (v := ?_) rfl (.inl ⟨by rfl, ?_⟩) ?_
              rotate_left
              ·intro w hSw; (try dsimp only at hSw); go_simp <;> with_reducible rfl
              simp only [Act.put, zA, zB, zC, zD, zE, zF]
              refine tH 6 (v := ?_) rfl (.inl ⟨by rfl, ?_⟩) ?_
              rotate_left
              ·intro w hSw; (try dsimp only at hSw); go_simp <;> with_reducible rfl
              simp only [Act.put, zA, zB, zC, zD, zE, zF]
              refine tH 7 (v := ?_) rfl (.inl ⟨by rfl, ?_⟩) ?_
              rotate_left
              ·intro w hSw; (try dsimp only at hSw); go_simp <;> with_reducible rfl
              simp only [Act.put, zA, zB, zC, zD, zE, zF]
              refine tH 8 (v := ?_) rfl (.inl ⟨by rfl, ?_⟩) ?_
              rotate_left
              ·intro w hSw; (try dsimp only at hSw); go_simp <;> with_reducible rfl
              simp only [Act.put, zA, zB, zC, zD, zE, zF]
              refine wpAnyH_ready (rs := [9]) (by kernel_rfl) (by simp) ?_
              refine AllReadyH.cons (o := _) rfl (fun K hK => ?_) ?_
              ·go_simp
               go_at_call 69
               (with_reducible refine (HC1.out _ HST.out HXB.out).mono ?_)
               rintro e w5 ⟨rfl, hst, hfr⟩
               clear hbx a0 a1 a2 a3 a4 a5 a6 xf3 kc1
               replace HST := am hst
               replace HXB := am (HXB.out.fr hfr)
               replace HK : qAc (w5.cell? ⟨(ad.add (kk * 4)).block, (ad.add (kk * 4)).off + 1, none⟩ = some (.int .i64 q1)) := ⟨hfr.cell HK.out HNM.out⟩
               clear hst hfr
               have hbx := HXB.out.h
               rw [← HMS.out.1, ← HMS.out.2.1, ← HMS.out.2.2.1, ← HMS.out.2.2.2.1, ← HMS.out.2.2.2.2.1, ← HMS.out.2.2.2.2.2.1, ← HMS.out.2.2.2.2.2.2] at hbx
               have a0 := (qAa hbx 0).trans rfl
               have a1 := (qAa hbx 1).trans rfl
               have a2 := (qAa hbx 2).trans rfl
               have a3 := (qAa hbx 3).trans rfl
               have a4 := (qAa hbx 4).trans rfl
               have a5 := (qAa hbx 5).trans rfl
               have a6 := (qAa hbx 6).trans rfl
               have xf3 := (qAa HST.out.x.1 3).trans rfl
               have kc1 := HK.out
               go_wp2_with fail
               refine hK.out _ _ ⟨a1, a2, a3, a4, a5, a6, xf3, kc1⟩ (fun hHeld => ?_)
               clear hK K
               try simp only [Act.put, zA, zB, zC, zD, zE, zF]
               refine tH 10 (v := ?_) rfl (.inl ⟨by rfl, ?_⟩) ?_
               rotate_left
               ·intro w hSw; (try dsimp only at hSw); go_simp <;> with_reducible rfl
               simp only [Act.put, zA, zB, zC, zD, zE, zF]
               refine tH 11 (v := ?_) rfl (.inl ⟨by rfl, ?_⟩) ?_
               rotate_left
               ·intro w hSw; (try dsimp only at hSw); go_simp <;> with_reducible rfl
               simp only [Act.put, zA, zB, zC, zD, zE, zF]
               refine tH 12 (v := ?_) rfl (.inl ⟨by rfl, ?_⟩) ?_
               rotate_left
               ·intro w hSw; (try dsimp only at hSw); go_simp <;> with_reducible rfl
               simp only [Act.put, zA, zB, zC, zD, zE, zF]
               refine tH 13 rfl (.inr ⟨by rfl, rfl⟩) ?_
               simp only [Act.put, zA, zB, zC, zD, zE, zF]
               refine tH 14 rfl (.inr ⟨by rfl, rfl⟩) ?_
               simp only [Act.put, zA, zB, zC, zD, zE, zF]
               refine tH 15 rfl (.inr ⟨by rfl, rfl⟩) ?_
               simp only [Act.put, zA, zB, zC, zD, zE, zF]
               refine tH 16 rfl (.inr ⟨by rfl, rfl⟩) ?_
               simp only [Act.put, zA, zB, zC, zD, zE, zF]
               refine tH 17 rfl (.inr ⟨by rfl, rfl⟩) ?_
               simp only [Act.put, zA, zB, zC, zD, zE, zF]
               refine tH 18 rfl (.inr ⟨by rfl, rfl⟩) ?_
               simp only [Act.put, zA, zB, zC, zD, zE, zF]
               refine tH 19 rfl (.inr ⟨by rfl, rfl⟩) ?_
               simp only [Act.put, zA, zB, zC, zD, zE, zF]
               refine tH 20 rfl (.inr ⟨by rfl, rfl⟩) ?_
               simp only [Act.put, zA, zB, zC, zD, zE, zF]
               refine tH 21 rfl (.inr ⟨by rfl, rfl⟩) ?_
               simp only [Act.put, zA, zB, zC, zD, zE, zF]
               refine tH 22 rfl (.inr ⟨by rfl, rfl⟩) ?_
               simp only [Act.put, zA, zB, zC, zD, zE, zF]
               refine tH 23 rfl (.inr ⟨by rfl, rfl⟩) ?_
               simp only [Act.put, zA, zB, zC, zD, zE, zF]
               refine tH 24 rfl (.inr ⟨by rfl, rfl⟩) ?_
               simp only [Act.put, zA, zB, zC, zD, zE, zF]
               refine tH 25 rfl (.inr ⟨by rfl, rfl⟩) ?_
               simp only [Act.put, zA, zB, zC, zD, zE, zF]
               refine tH 26 rfl (.inr ⟨by rfl, rfl⟩) ?_
               simp only [Act.put, zA, zB, zC, zD, zE, zF]
               refine tH 27 rfl (.inr ⟨by rfl, rfl⟩) ?_
               simp only [Act.put, zA, zB, zC, zD, zE, zF]
               refine tH 28 rfl (.inr ⟨by rfl, rfl⟩) ?_
               simp only [Act.put, zA, zB, zC, zD, zE, zF]
               refine tH 29 (v := ?_) rfl (.inl ⟨by rfl, ?_⟩) ?_
               rotate_left
               ·intro w hSw; (try dsimp only at hSw); go_simp <;> with_reducible rfl
               simp only [Act.put, zA, zB, zC, zD, zE, zF]
               refine wpAnyH_done (by kernel_rfl) ?_ _
               refine NoPanic.normal ?_
               go_wp2_with fail
               go_meet
               case rel => exact ⟨true, met1, shs1, rfl, ⟨by rw [qCX, ← hr1]; rfl⟩, HS1, HST⟩
              exact AllReadyH.nil
             | true =>
              have hwk : wrap64 ((kk : Int) + 1) = (kk : Int) + 1 ∧ IntKind.i64.wrap ((kk : Int) + 1) = (kk : Int) + 1 := ⟨by unfold wrap64; omega, by simp [IntKind.wrap, IntKind.bits, IntKind.signed]; omega⟩
              obtain ⟨hwk, hwk2⟩ := hwk
              refine wp_region_noPanic ?_
              refine wp_region_held_drew (S := fun W' => W'.cell? ⟨gX, 1, none⟩ = some (.bool true) ∧ W'.cell? ⟨gX, 2, none⟩ = some (.bool false) ∧ W'.cell? ⟨gX, 3, none⟩ = some (.slice D3 m3 d3) ∧ W'.cell? ⟨gX, 4, none⟩ = some (.slice D4 m4 d4) ∧ W'.cell? ⟨gX, 5, none⟩ = some (.slice D5 m5 d5) ∧ W'.cell? ⟨gX, 6, none⟩ = some (.slice D6 m6 d6) ∧ W'.cell? ⟨W.heap.size, 3, none⟩ = some (.slice (some ad) n c3) ∧ W'.cell? ⟨(ad.add (kk * 4)).block, (ad.add (kk * 4)).off + 1, none⟩ = some (.int .i64 q1)) (by kernel_rfl) ⟨a1, a2, a3, a4, a5, a6, xf3, kc1⟩ (fun hHeld => ?_)
              refine tH 0 (v := ?_) rfl (.inl ⟨by rfl, ?_⟩) ?_
              rotate_left
              ·intro w hSw; (try dsimp only at hSw); go_simp <;> with_reducible rfl
              simp only [Act.put, zA, zB, zC, zD, zE, zF]
              refine tH 1 (v := ?_) rfl (.inl ⟨by rfl, ?_⟩) ?_
              rotate_left
              ·intro w hSw; (try dsimp only at hSw); go_simp <;> with_reducible rfl
              simp only [Act.put, zA, zB, zC, zD, zE, zF]
              refine tH 2 (v := ?_) rfl (.inl ⟨by rfl, ?_⟩) ?_
              rotate_left
              ·intro w hSw; (try dsimp only at hSw); go_simp <;> with_reducible rfl
              simp only [Act.put, zA, zB, zC, zD, zE, zF]
              refine tH 3 (v := ?_) rfl (.inl ⟨by rfl, ?_⟩) ?_
              rotate_left
              ·intro w hSw; (try dsimp only at hSw); go_simp <;> with_reducible rfl
              simp only [Act.put, zA, zB, zC, zD, zE, zF]
              refine tH 4 (v := ?_) rfl (.inl ⟨by rfl, ?_⟩) ?_
              rotate_left
              ·intro w hSw; (try dsimp only at hSw); go_simp <;> with_reducible rfl
              simp only [Act.put, zA, zB, zC, zD, zE, zF]
              refine tH 5 (v := ?_) rfl (.inl ⟨by rfl, ?_⟩) ?_
              rotate_left
              ·intro w hSw; (try dsimp only at hSw); go_simp <;> with_reducible rfl
              simp only [Act.put, zA, zB, zC, zD, zE, zF]
              refine tH 6 (v := ?_) rfl (.inl ⟨by rfl, ?_⟩) ?_
              rotate_left
              ·intro w hSw; (try dsimp only at hSw); go_simp <;> with_reducible rfl
              simp only [Act.put, zA, zB, zC, zD, zE, zF]
              refine tH 7 (v := ?_) rfl (.inl ⟨by rfl, ?_⟩) ?_
              rotate_left
              ·intro w hSw; (try dsimp only at hSw); go_simp <;> with_reducible rfl
              simp only [Act.put, zA, zB, zC, zD, zE, zF]
              refine tH 8 (v := ?_) rfl (.inl ⟨by rfl, ?_⟩) ?_
              rotate_left
              ·intro w hSw; (try dsimp only at hSw); go_simp <;> with_reducible rfl
              simp only [Act.put, zA, zB, zC, zD, zE, zF]
              refine wpAnyH_ready (rs := [9]) (by kernel_rfl) (by simp) ?_
              refine AllReadyH.cons (o := _) rfl (fun K hK => ?_) ?_
              ·go_simp
               go_at_call 69
               (with_reducible refine (HC1.out _ HST.out HXB.out).mono ?_)
               rintro e w5 ⟨rfl, hst, hfr⟩
               clear hbx a0 a1 a2 a3 a4 a5 a6 xf3 kc1
               replace HST := am hst
               replace HXB := am (HXB.out.fr hfr)
               replace HK : qAc (w5.cell? ⟨(ad.add (kk * 4)).block, (ad.add (kk * 4)).off + 1, none⟩ = some (.int .i64 q1)) := ⟨hfr.cell HK.out HNM.out⟩
               clear hst hfr
               have hbx := HXB.out.h
               rw [← HMS.out.1, ← HMS.out.2.1, ← HMS.out.2.2.1, ← HMS.out.2.2.2.1, ← HMS.out.2.2.2.2.1, ← HMS.out.2.2.2.2.2.1, ← HMS.out.2.2.2.2.2.2] at hbx
               have a0 := (qAa hbx 0).trans rfl
               have a1 := (qAa hbx 1).trans rfl
               have a2 := (qAa hbx 2).trans rfl
               have a3 := (qAa hbx 3).trans rfl
               have a4 := (qAa hbx 4).trans rfl
               have a5 := (qAa hbx 5).trans rfl
               have a6 := (qAa hbx 6).trans rfl
               have xf3 := (qAa HST.out.x.1 3).trans rfl
               have kc1 := HK.out
               go_wp2_with fail
               refine hK.out _ _ ⟨a1, a2, a3, a4, a5, a6, xf3, kc1⟩ (fun hHeld => ?_)
               clear hK K
               try simp only [Act.put, zA, zB, zC, zD, zE, zF]
               refine tH 10 (v := ?_) rfl (.inl ⟨by rfl, ?_⟩) ?_
               rotate_left
               ·intro w hSw; (try dsimp only at hSw); go_simp <;> with_reducible rfl
               simp only [Act.put, zA, zB, zC, zD, zE, zF]
               refine tH 11 (v := ?_) rfl (.inl ⟨by rfl, ?_⟩) ?_
               rotate_left
               ·intro w hSw; (try dsimp only at hSw); go_simp <;> with_reducible rfl
               simp only [Act.put, zA, zB, zC, zD, zE, zF]
               refine tH 12 (v := ?_) rfl (.inl ⟨by rfl, ?_⟩) ?_
               rotate_left
               ·intro w hSw; (try dsimp only at hSw); go_simp <;> with_reducible rfl
               simp only [Act.put, zA, zB, zC, zD, zE, zF]
               refine tH 13 (v := ?_) rfl (.inl ⟨by rfl, ?_⟩) ?_
               rotate_left
               ·intro w hSw; (try dsimp only at hSw); go_simp <;> with_reducible rfl
               simp only [Act.put, zA, zB, zC, zD, zE, zF]
               refine tH 14 (v := ?_) rfl (.inl ⟨by rfl, ?_⟩) ?_
               rotate_left
               ·intro w hSw; (try dsimp only at hSw); go_simp <;> with_reducible rfl
               simp only [Act.put, zA, zB, zC, zD, zE, zF]
               refine tH 15 (v := ?_) rfl (.inl ⟨by rfl, ?_⟩) ?_
               rotate_left
               ·intro w hSw; (try dsimp only at hSw); go_simp <;> with_reducible rfl
               simp only [Act.put, zA, zB, zC, zD, zE, zF]
               refine tH 16 rfl (.inr ⟨by rfl, rfl⟩) ?_
               simp only [Act.put, zA, zB, zC, zD, zE, zF]
               refine tH 17 rfl (.inr ⟨by rfl, rfl⟩) ?_
               simp only [Act.put, zA, zB, zC, zD, zE, zF]
               refine tH 18 rfl (.inr ⟨by rfl, rfl⟩) ?_
               simp only [Act.put, zA, zB, zC, zD, zE, zF]
               refine tH 19 rfl (.inr ⟨by rfl, rfl⟩) ?_
               simp only [Act.put, zA, zB, zC, zD, zE, zF]
               refine tH 20 rfl (.inr ⟨by rfl, rfl⟩) ?_
               simp only [Act.put, zA, zB, zC, zD, zE, zF]
               refine tH 21 rfl (.inr ⟨by rfl, rfl⟩) ?_
               simp only [Act.put, zA, zB, zC, zD, zE, zF]
               refine tH 22 rfl (.inr ⟨by rfl, rfl⟩) ?_
               simp only [Act.put, zA, zB, zC, zD, zE, zF]
               refine tH 23 rfl (.inr ⟨by rfl, rfl⟩) ?_
               simp only [Act.put, zA, zB, zC, zD, zE, zF]
               refine tH 24 rfl (.inr ⟨by rfl, rfl⟩) ?_
               simp only [Act.put, zA, zB, zC, zD, zE, zF]
               refine tH 25 rfl (.inr ⟨by rfl, rfl⟩) ?_
               simp only [Act.put, zA, zB, zC, zD, zE, zF]
               refine tH 26 rfl (.inr ⟨by rfl, rfl⟩) ?_
               simp only [Act.put, zA, zB, zC, zD, zE, zF]
               refine tH 27 rfl (.inr ⟨by rfl, rfl⟩) ?_
               simp only [Act.put, zA, zB, zC, zD, zE, zF]
               refine tH 28 (v := ?_) rfl (.inl ⟨by rfl, ?_⟩) ?_
               rotate_left
               ·intro w hSw; (try dsimp only at hSw); go_simp <;> with_reducible rfl
               simp only [Act.put, zA, zB, zC, zD, zE, zF]
               refine tH 29 (v := ?_) rfl (.inl ⟨by rfl, ?_⟩) ?_
               rotate_left
               ·intro w hSw; (try dsimp only at hSw); go_simp <;> with_reducible rfl
               simp only [Act.put, zA, zB, zC, zD, zE, zF]
               refine wpAnyH_done (by kernel_rfl) ?_ _
               refine NoPanic.normal ?_
               go_wp2_with fail
               go_meet
               case rel => exact ⟨false, met1, shs1, rfl, ⟨by rw [qCX, ← hr1]; rfl⟩, HS1, HST⟩
              exact AllReadyH.nil
            | true =>
             cases t1 with
             | false =>
              have hwk : wrap64 ((kk : Int) + 1) = (kk : Int) + 1 ∧ IntKind.i64.wrap ((kk : Int) + 1) = (kk : Int) + 1 := ⟨by unfold wrap64; omega, by simp [IntKind.wrap, IntKind.bits, IntKind.signed]; omega⟩
              obtain ⟨hwk, hwk2⟩ := hwk
              refine wp_region_noPanic ?_
              refine wp_region_held_drew (S := fun W' => W'.cell? ⟨gX, 1, none⟩ = some (.bool true) ∧ W'.cell? ⟨gX, 2, none⟩ = some (.bool true) ∧ W'.cell? ⟨gX, 3, none⟩ = some (.slice D3 m3 d3) ∧ W'.cell? ⟨gX, 4, none⟩ = some (.slice D4 m4 d4) ∧ W'.cell? ⟨gX, 5, none⟩ = some (.slice D5 m5 d5) ∧ W'.cell? ⟨gX, 6, none⟩ = some (.slice D6 m6 d6) ∧ W'.cell? ⟨W.heap.size, 3, none⟩ = some (.slice (some ad) n c3) ∧ W'.cell? ⟨(ad.add (kk * 4)).block, (ad.add (kk * 4)).off + 1, none⟩ = some (.int .i64 q1)) (by kernel_rfl) ⟨a1, a2, a3, a4, a5, a6, xf3, kc1⟩ (fun hHeld => ?_)
              refine tH 0 (v := ?_) rfl (.inl ⟨by rfl, ?_⟩) ?_
              rotate_left
              ·intro w hSw; (try dsimp only at hSw); go_simp <;> with_reducible rfl
              simp only [Act.put, zA, zB, zC, zD, zE, zF]
              refine tH 1 (v := ?_) rfl (.inl ⟨by rfl, ?_⟩) ?_
              rotate_left
              ·intro w hSw; (try dsimp only at hSw); go_simp <;> with_reducible rfl
              simp only [Act.put, zA, zB, zC, zD, zE, zF]
              refine tH 2 (v := ?_) rfl (.inl ⟨by rfl, ?_⟩) ?_
              rotate_left
              ·intro w hSw; (try dsimp only at hSw); go_simp <;> with_reducible rfl
              simp only [Act.put, zA, zB, zC, zD, zE, zF]
              refine tH 3 (v := ?_) rfl (.inl ⟨by rfl, ?_⟩) ?_
              rotate_left
              ·intro w hSw; (try dsimp only at hSw); go_simp <;> with_reducible rfl
              simp only [Act.put, zA, zB, zC, zD, zE, zF]
              refine tH 4 (v := ?_) rfl (.inl ⟨by rfl, ?_⟩) ?_
              rotate_left
              ·intro w hSw; (try dsimp only at hSw); go_simp <;> with_reducible rfl
              simp only [Act.put, zA, zB, zC, zD, zE, zF]
              refine tH 5 (v := ?_) rfl (.inl ⟨by rfl, ?_⟩) ?_
              rotate_left
              ·intro w hSw; (try dsimp only at hSw); go_simp <;> with_reducible rfl
              simp only [Act.put, zA, zB, zC, zD, zE, zF]
              refine tH 6 (v := ?_) rfl (.inl ⟨by rfl, ?_⟩) ?_
              rotate_left
              ·intro w hSw; (try dsimp only at hSw); go_simp <;> with_reducible rfl
              simp only [Act.put, zA, zB, zC, zD, zE, zF]
              refine tH 7 (v := ?_) rfl (.inl ⟨by rfl, ?_⟩) ?_
              rotate_left
              ·intro w hSw; (try dsimp only at hSw); go_simp <;> with_reducible rfl
              simp only [Act.put, zA, zB, zC, zD, zE, zF]
              refine tH 8 (v := ?_) rfl (.inl ⟨by rfl, ?_⟩) ?_
              rotate_left
              ·intro w hSw; (try dsimp only at hSw); go_simp <;> with_reducible rfl
              simp only [Act.put, zA, zB, zC, zD, zE, zF]
              refine wpAnyH_ready (rs := [9]) (by kernel_rfl) (by simp) ?_
              refine AllReadyH.cons (o := _) rfl (fun K hK => ?_) ?_
              ·go_simp
               go_at_call 69
               (with_reducible refine (HC1.out _ HST.out HXB.out).mono ?_)
               rintro e w5 ⟨rfl, hst, hfr⟩
               clear hbx a0 a1 a2 a3 a4 a5 a6 xf3 kc1
               replace HST := am hst
               replace HXB := am (HXB.out.fr hfr)
               replace HK : qAc (w5.cell? ⟨(ad.add (kk * 4)).block, (ad.add (kk * 4)).off + 1, none⟩ = some (.int .i64 q1)) := ⟨hfr.cell HK.out HNM.out⟩
               clear hst hfr
               have hbx := HXB.out.h
               rw [← HMS.out.1, ← HMS.out.2.1, ← HMS.out.2.2.1, ← HMS.out.2.2.2.1, ← HMS.out.2.2.2.2.1, ← HMS.out.2.2.2.2.2.1, ← HMS.out.2.2.2.2.2.2] at hbx
               have a0 := (qAa hbx 0).trans rfl
               have a1 := (qAa hbx 1).trans rfl
               have a2 := (qAa hbx 2).trans rfl
               have a3 := (qAa hbx 3).trans rfl
               have a4 := (qAa hbx 4).trans rfl
               have a5 := (qAa hbx 5).trans rfl
               have a6 := (qAa hbx 6).trans rfl
               have xf3 := (qAa HST.out.x.1 3).trans rfl
               have kc1 := HK.out
               go_wp2_with fail
               refine hK.out _ _ ⟨a1, a2, a3, a4, a5, a6, xf3, kc1⟩ (fun hHeld => ?_)
               clear hK K
               try simp only [Act.put, zA, zB, zC, zD, zE, zF]
               refine tH 10 (v := ?_) rfl (.inl ⟨by rfl, ?_⟩) ?_
               rotate_left
               ·intro w hSw; (try dsimp only at hSw); go_simp <;> with_reducible rfl
               simp only [Act.put, zA, zB, zC, zD, zE, zF]
               refine tH 11 (v := ?_) rfl (.inl ⟨by rfl, ?_⟩) ?_
               rotate_left
               ·intro w hSw; (try dsimp only at hSw); go_simp <;> with_reducible rfl
               simp only [Act.put, zA, zB, zC, zD, zE, zF]
               refine tH 12 (v := ?_) rfl (.inl ⟨by rfl, ?_⟩) ?_
               rotate_left
               ·intro w hSw; (try dsimp only at hSw); go_simp <;> with_reducible rfl
               simp only [Act.put, zA, zB, zC, zD, zE, zF]
               refine tH 13 rfl (.inr ⟨by rfl, rfl⟩) ?_
               simp only [Act.put, zA, zB, zC, zD, zE, zF]
               refine tH 14 rfl (.inr ⟨by rfl, rfl⟩) ?_
               simp only [Act.put, zA, zB, zC, zD, zE, zF]
               refine tH 15 rfl (.inr ⟨by rfl, rfl⟩) ?_
               simp only [Act.put, zA, zB, zC, zD, zE, zF]
               refine tH 16 rfl (.inr ⟨by rfl, rfl⟩) ?_
               simp only [Act.put, zA, zB, zC, zD, zE, zF]
               refine tH 17 rfl (.inr ⟨by rfl, rfl⟩) ?_
               simp only [Act.put, zA, zB, zC, zD, zE, zF]
               refine tH 18 rfl (.inr ⟨by rfl, rfl⟩) ?_
               simp only [Act.put, zA, zB, zC, zD, zE, zF]
               refine tH 19 rfl (.inr ⟨by rfl, rfl⟩) ?_
               simp only [Act.put, zA, zB, zC, zD, zE, zF]
               refine tH 20 rfl (.inr ⟨by rfl, rfl⟩) ?_
               simp only [Act.put, zA, zB, zC, zD, zE, zF]
               refine tH 21 rfl (.inr ⟨by rfl, rfl⟩) ?_
               simp only [Act.put, zA, zB, zC, zD, zE, zF]
               refine tH 22 rfl (.inr ⟨by rfl, rfl⟩) ?_
               simp only [Act.put, zA, zB, zC, zD, zE, zF]
               refine tH 23 rfl (.inr ⟨by rfl, rfl⟩) ?_
               simp only [Act.put, zA, zB, zC, zD, zE, zF]
               refine tH 24 rfl (.inr ⟨by rfl, rfl⟩) ?_
               simp only [Act.put, zA, zB, zC, zD, zE, zF]
               refine tH 25 rfl (.inr ⟨by rfl, rfl⟩) ?_
               simp only [Act.put, zA, zB, zC, zD, zE, zF]
               refine tH 26 rfl (.inr ⟨by rfl, rfl⟩) ?_
               simp only [Act.put, zA, zB, zC, zD, zE, zF]
               refine tH 27 rfl (.inr ⟨by rfl, rfl⟩) ?_
               simp only [Act.put, zA, zB, zC, zD, zE, zF]
               refine tH 28 rfl (.inr ⟨by rfl, rfl⟩) ?_
               simp only [Act.put, zA, zB, zC, zD, zE, zF]
               refine tH 29 (v := ?_) rfl (.inl ⟨by rfl, ?_⟩) ?_
               rotate_left
               ·intro w hSw; (try dsimp only at hSw); go_simp <;> with_reducible rfl
               simp only [Act.put, zA, zB, zC, zD, zE, zF]
               refine wpAnyH_done (by kernel_rfl) ?_ _
               refine NoPanic.normal ?_
               go_wp2_with fail
               go_meet
               case rel => exact ⟨true, met1, shs1, rfl, ⟨by rw [qC8, ← hr1]; rfl⟩, HS1, HST⟩
              exact AllReadyH.nil
             | true =>
              have HNB : qAc (∀ (W1 : World) (met' : List Bool) (shs' : List S117), FoSt W M D S n cM cD cS #[.slice A1 p1 c1, .int .i64 res, .slice A2 l1 c2, .slice (some ad) n c3] #[.slice A4 f1 c4, .slice A5 v1 c5] met' (dn.set kk true) shs' W1 → XB M D S R gX D3 D4 D5 D6 d3 d4 d5 d6 W1 → (∀ y ∈ shs', qCA y) → Calls Tryz.prog 69 #[.slice (some ⟨M, 0, none⟩) n cM, .slice (some ⟨S, 0, none⟩) n cS, .int .i64 (q1), .agg #[.slice D5 m5 d5, .slice D6 m6 d6]] W1 fun e w' => e = .returned (.bool (qAB met' shs' (q1) R.f4).1) ∧ FoSt W M D S n cM cD cS #[.slice A1 p1 c1, .int .i64 res, .slice A2 l1 c2, .slice (some ad) n c3] #[.slice A4 f1 c4, .slice A5 v1 c5] (qAB met' shs' (q1) R.f4).2.1 (dn.set kk true) (qAB met' shs' (q1) R.f4).2.2 w' ∧ Fr W1 w' (fun q => q = M ∨ q = S)) := ⟨fun W1 met' shs' h hx hsm => by
                rw [HMS.out.2.2.2.2.2.1, HMS.out.2.2.2.2.2.2]
                refine (qDN h.m h.s (q1) (by first | omega | exact hxo.2.2) (by first | exact HPL.out.1 rfl | exact HPL.out.2 rfl) R.f4 D5 D6 d5 d6 hx.g5 hx.l5 hx.g6 hx.l6 (fun q hq => ⟨⟨hq.1, hq.2.1⟩, hq.2.2, hq.1⟩) (by omega) (fun q hq => hq.1) hsm (by have := h.t; omega) h.t).mono ?_
                intro e w' hp
                exact h.noted hp hWM hMD hDS⟩
              obtain ⟨⟨t2, met2, shs2⟩, hr2⟩ : ∃ r, r = qAB met1 shs1 (q1) R.f4 := ⟨_, rfl⟩
              have HC2 : qAc (∀ W1, FoSt W M D S n cM cD cS #[.slice A1 p1 c1, .int .i64 res, .slice A2 l1 c2, .slice (some ad) n c3] #[.slice A4 f1 c4, .slice A5 v1 c5] met1 (dn.set kk true) shs1 W1 → XB M D S R gX D3 D4 D5 D6 d3 d4 d5 d6 W1 → Calls Tryz.prog 69 #[.slice (some ⟨M, 0, none⟩) n cM, .slice (some ⟨S, 0, none⟩) n cS, .int .i64 (q1), .agg #[.slice D5 m5 d5, .slice D6 m6 d6]] W1 fun e w' => e = .returned (.bool t2) ∧ FoSt W M D S n cM cD cS #[.slice A1 p1 c1, .int .i64 res, .slice A2 l1 c2, .slice (some ad) n c3] #[.slice A4 f1 c4, .slice A5 v1 c5] met2 (dn.set kk true) shs2 w' ∧ Fr W1 w' (fun q => q = M ∨ q = S)) := ⟨fun W1 h hx => by
                have h_ := HNB.out W1 met1 shs1 h hx HS1.out
                rw [← hr2] at h_
                exact h_⟩
              have HS2 : qAc (∀ y ∈ shs2, qCA y) := ⟨by
                have h_ := qCQ (met := met1) (i := q1) HS1.out (HSML.out.2 rfl)
                rw [← hr2] at h_
                exact h_⟩
              cases t2 with
              | false =>
               have hwk : wrap64 ((kk : Int) + 1) = (kk : Int) + 1 ∧ IntKind.i64.wrap ((kk : Int) + 1) = (kk : Int) + 1 := ⟨by unfold wrap64; omega, by simp [IntKind.wrap, IntKind.bits, IntKind.signed]; omega⟩
               obtain ⟨hwk, hwk2⟩ := hwk
               refine wp_region_noPanic ?_
               refine wp_region_held_drew (S := fun W' => W'.cell? ⟨gX, 1, none⟩ = some (.bool true) ∧ W'.cell? ⟨gX, 2, none⟩ = some (.bool true) ∧ W'.cell? ⟨gX, 3, none⟩ = some (.slice D3 m3 d3) ∧ W'.cell? ⟨gX, 4, none⟩ = some (.slice D4 m4 d4) ∧ W'.cell? ⟨gX, 5, none⟩ = some (.slice D5 m5 d5) ∧ W'.cell? ⟨gX, 6, none⟩ = some (.slice D6 m6 d6) ∧ W'.cell? ⟨W.heap.size, 3, none⟩ = some (.slice (some ad) n c3) ∧ W'.cell? ⟨(ad.add (kk * 4)).block, (ad.add (kk * 4)).off + 1, none⟩ = some (.int .i64 q1)) (by kernel_rfl) ⟨a1, a2, a3, a4, a5, a6, xf3, kc1⟩ (fun hHeld => ?_)
               refine tH 0 (v := ?_) rfl (.inl ⟨by rfl, ?_⟩) ?_
               rotate_left
               ·intro w hSw; (try dsimp only at hSw); go_simp <;> with_reducible rfl
               simp only [Act.put, zA, zB, zC, zD, zE, zF]
               refine tH 1 (v := ?_) rfl (.inl ⟨by rfl, ?_⟩) ?_
               rotate_left
               ·intro w hSw; (try dsimp only at hSw); go_simp <;> with_reducible rfl
               simp only [Act.put, zA, zB, zC, zD, zE, zF]
               refine tH 2 (v := ?_) rfl (.inl ⟨by rfl, ?_⟩) ?_
               rotate_left
               ·intro w hSw; (try dsimp only at hSw); go_simp <;> with_reducible rfl
               simp only [Act.put, zA, zB, zC, zD, zE, zF]
               refine tH 3 (v := ?_) rfl (.inl ⟨by rfl, ?_⟩) ?_
               rotate_left
               ·intro w hSw; (try dsimp only at hSw); go_simp <;> with_reducible rfl
               simp only [Act.put, zA, zB, zC, zD, zE, zF]
               refine tH 4 (v := ?_) rfl (.inl ⟨by rfl, ?_⟩) ?_
               rotate_left
               ·intro w hSw; (try dsimp only at hSw); go_simp <;> with_reducible rfl
               simp only [Act.put, zA, zB, zC, zD, zE, zF]
               refine tH 5 (v := ?_) rfl (.inl ⟨by rfl, ?_⟩) ?_
               rotate_left
               ·intro w hSw; (try dsimp only at hSw); go_simp <;> with_reducible rfl
               simp only [Act.put, zA, zB, zC, zD, zE, zF]
               refine tH 6 (v := ?_) rfl (.inl ⟨by rfl, ?_⟩) ?_
               rotate_left
               ·intro w hSw; (try dsimp only at hSw); go_simp <;> with_reducible rfl
               simp only [Act.put, zA, zB, zC, zD, zE, zF]
               refine tH 7 (v := ?_) rfl (.inl ⟨by rfl, ?_⟩) ?_
               rotate_left
               ·intro w hSw; (try dsimp only at hSw); go_simp <;> with_reducible rfl
               simp only [Act.put, zA, zB, zC, zD, zE, zF]
               refine tH 8 (v := ?_) rfl (.inl ⟨by rfl, ?_⟩) ?_
               rotate_left
               ·intro w hSw; (try dsimp only at hSw); go_simp <;> with_reducible rfl
               simp only [Act.put, zA, zB, zC, zD, zE, zF]
               refine wpAnyH_ready (rs := [9]) (by kernel_rfl) (by simp) ?_
               refine AllReadyH.cons (o := _) rfl (fun K hK => ?_) ?_
               ·go_simp
                go_at_call 69
                (with_reducible refine (HC1.out _ HST.out HXB.out).mono ?_)
                rintro e w5 ⟨rfl, hst, hfr⟩
                clear hbx a0 a1 a2 a3 a4 a5 a6 xf3 kc1
                replace HST := am hst
                replace HXB := am (HXB.out.fr hfr)
                replace HK : qAc (w5.cell? ⟨(ad.add (kk * 4)).block, (ad.add (kk * 4)).off + 1, none⟩ = some (.int .i64 q1)) := ⟨hfr.cell HK.out HNM.out⟩
                clear hst hfr
                have hbx := HXB.out.h
                rw [← HMS.out.1, ← HMS.out.2.1, ← HMS.out.2.2.1, ← HMS.out.2.2.2.1, ← HMS.out.2.2.2.2.1, ← HMS.out.2.2.2.2.2.1, ← HMS.out.2.2.2.2.2.2] at hbx
                have a0 := (qAa hbx 0).trans rfl
                have a1 := (qAa hbx 1).trans rfl
                have a2 := (qAa hbx 2).trans rfl
                have a3 := (qAa hbx 3).trans rfl
                have a4 := (qAa hbx 4).trans rfl
                have a5 := (qAa hbx 5).trans rfl
                have a6 := (qAa hbx 6).trans rfl
                have xf3 := (qAa HST.out.x.1 3).trans rfl
                have kc1 := HK.out
                go_wp2_with fail
                refine hK.out _ _ ⟨a1, a2, a3, a4, a5, a6, xf3, kc1⟩ (fun hHeld => ?_)
                clear hK K
                try simp only [Act.put, zA, zB, zC, zD, zE, zF]
                refine tH 10 (v := ?_) rfl (.inl ⟨by rfl, ?_⟩) ?_
                rotate_left
                ·intro w hSw; (try dsimp only at hSw); go_simp <;> with_reducible rfl
                simp only [Act.put, zA, zB, zC, zD, zE, zF]
                refine tH 11 (v := ?_) rfl (.inl ⟨by rfl, ?_⟩) ?_
                rotate_left
                ·intro w hSw; (try dsimp only at hSw); go_simp <;> with_reducible rfl
                simp only [Act.put, zA, zB, zC, zD, zE, zF]
                refine tH 12 (v := ?_) rfl (.inl ⟨by rfl, ?_⟩) ?_
                rotate_left
                ·intro w hSw; (try dsimp only at hSw); go_simp <;> with_reducible rfl
                simp only [Act.put, zA, zB, zC, zD, zE, zF]
                refine tH 13 (v := ?_) rfl (.inl ⟨by rfl, ?_⟩) ?_
                rotate_left
                ·intro w hSw; (try dsimp only at hSw); go_simp <;> with_reducible rfl
                simp only [Act.put, zA, zB, zC, zD, zE, zF]
                refine tH 14 (v := ?_) rfl (.inl ⟨by rfl, ?_⟩) ?_
                rotate_left
                ·intro w hSw; (try dsimp only at hSw); go_simp <;> with_reducible rfl
                simp only [Act.put, zA, zB, zC, zD, zE, zF]
                refine tH 15 (v := ?_) rfl (.inl ⟨by rfl, ?_⟩) ?_
                rotate_left
                ·intro w hSw; (try dsimp only at hSw); go_simp <;> with_reducible rfl
                simp only [Act.put, zA, zB, zC, zD, zE, zF]
                refine tH 16 (v := ?_) rfl (.inl ⟨by rfl, ?_⟩) ?_
                rotate_left
                ·intro w hSw; (try dsimp only at hSw); go_simp <;> with_reducible rfl
                simp only [Act.put, zA, zB, zC, zD, zE, zF]
                refine tH 17 (v := ?_) rfl (.inl ⟨by rfl, ?_⟩) ?_
                rotate_left
                ·intro w hSw; (try dsimp only at hSw); go_simp <;> with_reducible rfl
                simp only [Act.put, zA, zB, zC, zD, zE, zF]
                refine tH 18 (v := ?_) rfl (.inl ⟨by rfl, ?_⟩) ?_
                rotate_left
                ·intro w hSw; (try dsimp only at hSw); go_simp <;> with_reducible rfl
                simp only [Act.put, zA, zB, zC, zD, zE, zF]
                refine tH 19 (v := ?_) rfl (.inl ⟨by rfl, ?_⟩) ?_
                rotate_left
                ·intro w hSw; (try dsimp only at hSw); go_simp <;> with_reducible rfl
                simp only [Act.put, zA, zB, zC, zD, zE, zF]
                refine tH 20 (v := ?_) rfl (.inl ⟨by rfl, ?_⟩) ?_
                rotate_left
                ·intro w hSw; (try dsimp only at hSw); go_simp <;> with_reducible rfl
                simp only [Act.put, zA, zB, zC, zD, zE, zF]
                refine tH 21 (v := ?_) rfl (.inl ⟨by rfl, ?_⟩) ?_
                rotate_left
                ·intro w hSw; (try dsimp only at hSw); go_simp <;> with_reducible rfl
                simp only [Act.put, zA, zB, zC, zD, zE, zF]
                refine tH 22 (v := ?_) rfl (.inl ⟨by rfl, ?_⟩) ?_
                rotate_left
                ·intro w hSw; (try dsimp only at hSw); go_simp <;> with_reducible rfl
                simp only [Act.put, zA, zB, zC, zD, zE, zF]
                refine tH 23 (v := ?_) rfl (.inl ⟨by rfl, ?_⟩) ?_
                rotate_left
                ·intro w hSw; (try dsimp only at hSw); go_simp <;> with_reducible rfl
                simp only [Act.put, zA, zB, zC, zD, zE, zF]
                refine tH 24 (v := ?_) rfl (.inl ⟨by rfl, ?_⟩) ?_
                rotate_left
                ·intro w hSw; (try dsimp only at hSw); go_simp <;> with_reducible rfl
                simp only [Act.put, zA, zB, zC, zD, zE, zF]
                refine tH 25 (v := ?_) rfl (.inl ⟨by rfl, ?_⟩) ?_
                rotate_left
                ·intro w hSw; (try dsimp only at hSw); go_simp <;> with_reducible rfl
                simp only [Act.put, zA, zB, zC, zD, zE, zF]
                refine wpAnyH_ready (rs := [26]) (by kernel_rfl) (by simp) ?_
                refine AllReadyH.cons (o := _) rfl (fun K hK => ?_) ?_
                ·go_simp
                 go_at_call 69
                 (with_reducible refine (HC2.out _ HST.out HXB.out).mono ?_)
                 rintro e w5 ⟨rfl, hst, hfr⟩
                 clear hbx a0 a1 a2 a3 a4 a5 a6 xf3 kc1
                 replace HST := am hst
                 replace HXB := am (HXB.out.fr hfr)
                 replace HK : qAc (w5.cell? ⟨(ad.add (kk * 4)).block, (ad.add (kk * 4)).off + 1, none⟩ = some (.int .i64 q1)) := ⟨hfr.cell HK.out HNM.out⟩
                 clear hst hfr
                 have hbx := HXB.out.h
                 rw [← HMS.out.1, ← HMS.out.2.1, ← HMS.out.2.2.1, ← HMS.out.2.2.2.1, ← HMS.out.2.2.2.2.1, ← HMS.out.2.2.2.2.2.1, ← HMS.out.2.2.2.2.2.2] at hbx
                 have a0 := (qAa hbx 0).trans rfl
                 have a1 := (qAa hbx 1).trans rfl
                 have a2 := (qAa hbx 2).trans rfl
                 have a3 := (qAa hbx 3).trans rfl
                 have a4 := (qAa hbx 4).trans rfl
                 have a5 := (qAa hbx 5).trans rfl
                 have a6 := (qAa hbx 6).trans rfl
                 have xf3 := (qAa HST.out.x.1 3).trans rfl
                 have kc1 := HK.out
                 go_wp2_with fail
                 refine hK.out _ _ ⟨a1, a2, a3, a4, a5, a6, xf3, kc1⟩ (fun hHeld => ?_)
                 clear hK K
                 try simp only [Act.put, zA, zB, zC, zD, zE, zF]
                 refine tH 27 (v := ?_) rfl (.inl ⟨by rfl, ?_⟩) ?_
                 rotate_left
                 ·intro w hSw; (try dsimp only at hSw); go_simp <;> with_reducible rfl
                 simp only [Act.put, zA, zB, zC, zD, zE, zF]
                 refine tH 28 (v := ?_) rfl (.inl ⟨by rfl, ?_⟩) ?_
                 rotate_left
                 ·intro w hSw; (try dsimp only at hSw); go_simp <;> with_reducible rfl
                 simp only [Act.put, zA, zB, zC, zD, zE, zF]
                 refine tH 29 (v := ?_) rfl (.inl ⟨by rfl, ?_⟩) ?_
                 rotate_left
                 ·intro w hSw; (try dsimp only at hSw); go_simp <;> with_reducible rfl
                 simp only [Act.put, zA, zB, zC, zD, zE, zF]
                 refine wpAnyH_done (by kernel_rfl) ?_ _
                 refine NoPanic.normal ?_
                 go_wp2_with fail
                 go_meet
                 case rel => exact ⟨true, met2, shs2, rfl, ⟨by rw [qC8, ← hr1]; simp only; rw [← hr2]; rfl⟩, HS2, HST⟩
                exact AllReadyH.nil
               exact AllReadyH.nil
              | true =>
               have hwk : wrap64 ((kk : Int) + 1) = (kk : Int) + 1 ∧ IntKind.i64.wrap ((kk : Int) + 1) = (kk : Int) + 1 := ⟨by unfold wrap64; omega, by simp [IntKind.wrap, IntKind.bits, IntKind.signed]; omega⟩
               obtain ⟨hwk, hwk2⟩ := hwk
               refine wp_region_noPanic ?_
               refine wp_region_held_drew (S := fun W' => W'.cell? ⟨gX, 1, none⟩ = some (.bool true) ∧ W'.cell? ⟨gX, 2, none⟩ = some (.bool true) ∧ W'.cell? ⟨gX, 3, none⟩ = some (.slice D3 m3 d3) ∧ W'.cell? ⟨gX, 4, none⟩ = some (.slice D4 m4 d4) ∧ W'.cell? ⟨gX, 5, none⟩ = some (.slice D5 m5 d5) ∧ W'.cell? ⟨gX, 6, none⟩ = some (.slice D6 m6 d6) ∧ W'.cell? ⟨W.heap.size, 3, none⟩ = some (.slice (some ad) n c3) ∧ W'.cell? ⟨(ad.add (kk * 4)).block, (ad.add (kk * 4)).off + 1, none⟩ = some (.int .i64 q1)) (by kernel_rfl) ⟨a1, a2, a3, a4, a5, a6, xf3, kc1⟩ (fun hHeld => ?_)
               refine tH 0 (v := ?_) rfl (.inl ⟨by rfl, ?_⟩) ?_
               rotate_left
               ·intro w hSw; (try dsimp only at hSw); go_simp <;> with_reducible rfl
               simp only [Act.put, zA, zB, zC, zD, zE, zF]
               refine tH 1 (v := ?_) rfl (.inl ⟨by rfl, ?_⟩) ?_
               rotate_left
               ·intro w hSw; (try dsimp only at hSw); go_simp <;> with_reducible rfl
               simp only [Act.put, zA, zB, zC, zD, zE, zF]
               refine tH 2 (v := ?_) rfl (.inl ⟨by rfl, ?_⟩) ?_
               rotate_left
               ·intro w hSw; (try dsimp only at hSw); go_simp <;> with_reducible rfl
               simp only [Act.put, zA, zB, zC, zD, zE, zF]
               refine tH 3 (v := ?_) rfl (.inl ⟨by rfl, ?_⟩) ?_
               rotate_left
               ·intro w hSw; (try dsimp only at hSw); go_simp <;> with_reducible rfl
               simp only [Act.put, zA, zB, zC, zD, zE, zF]
               refine tH 4 (v := ?_) rfl (.inl ⟨by rfl, ?_⟩) ?_
               rotate_left
               ·intro w hSw; (try dsimp only at hSw); go_simp <;> with_reducible rfl
               simp only [Act.put, zA, zB, zC, zD, zE, zF]
               refine tH 5 (v := ?_) rfl (.inl ⟨by rfl, ?_⟩) ?_
               rotate_left
               ·intro w hSw; (try dsimp only at hSw); go_simp <;> with_reducible rfl
               simp only [Act.put, zA, zB, zC, zD, zE, zF]
               refine tH 6 (v := ?_) rfl (.inl ⟨by rfl, ?_⟩) ?_
               rotate_left
               ·intro w hSw; (try dsimp only at hSw); go_simp <;> with_reducible rfl
               simp only [Act.put, zA, zB, zC, zD, zE, zF]
               refine tH 7 (v := ?_) rfl (.inl ⟨by rfl, ?_⟩) ?_
               rotate_left
               ·intro w hSw; (try dsimp only at hSw); go_simp <;> with_reducible rfl
               simp only [Act.put, zA, zB, zC, zD, zE, zF]
               refine tH 8 (v := ?_) rfl (.inl ⟨by rfl, ?_⟩) ?_
               rotate_left
               ·intro w hSw; (try dsimp only at hSw); go_simp <;> with_reducible rfl
               simp only [Act.put, zA, zB, zC, zD, zE, zF]
               refine wpAnyH_ready (rs := [9]) (by kernel_rfl) (by simp) ?_
               refine AllReadyH.cons (o := _) rfl (fun K hK => ?_) ?_
               ·go_simp
                go_at_call 69
                (with_reducible refine (HC1.out _ HST.out HXB.out).mono ?_)
                rintro e w5 ⟨rfl, hst, hfr⟩
                clear hbx a0 a1 a2 a3 a4 a5 a6 xf3 kc1
                replace HST := am hst
                replace HXB := am (HXB.out.fr hfr)
                replace HK : qAc (w5.cell? ⟨(ad.add (kk * 4)).block, (ad.add (kk * 4)).off + 1, none⟩ = some (.int .i64 q1)) := ⟨hfr.cell HK.out HNM.out⟩
                clear hst hfr
                have hbx := HXB.out.h
                rw [← HMS.out.1, ← HMS.out.2.1, ← HMS.out.2.2.1, ← HMS.out.2.2.2.1, ← HMS.out.2.2.2.2.1, ← HMS.out.2.2.2.2.2.1, ← HMS.out.2.2.2.2.2.2] at hbx
                have a0 := (qAa hbx 0).trans rfl
                have a1 := (qAa hbx 1).trans rfl
                have a2 := (qAa hbx 2).trans rfl
                have a3 := (qAa hbx 3).trans rfl
                have a4 := (qAa hbx 4).trans rfl
                have a5 := (qAa hbx 5).trans rfl
                have a6 := (qAa hbx 6).trans rfl
                have xf3 := (qAa HST.out.x.1 3).trans rfl
                have kc1 := HK.out
                go_wp2_with fail
                refine hK.out _ _ ⟨a1, a2, a3, a4, a5, a6, xf3, kc1⟩ (fun hHeld => ?_)
                clear hK K
                try simp only [Act.put, zA, zB, zC, zD, zE, zF]
                refine tH 10 (v := ?_) rfl (.inl ⟨by rfl, ?_⟩) ?_
                rotate_left
                ·intro w hSw; (try dsimp only at hSw); go_simp <;> with_reducible rfl
                simp only [Act.put, zA, zB, zC, zD, zE, zF]
                refine tH 11 (v := ?_) rfl (.inl ⟨by rfl, ?_⟩) ?_
                rotate_left
                ·intro w hSw; (try dsimp only at hSw); go_simp <;> with_reducible rfl
                simp only [Act.put, zA, zB, zC, zD, zE, zF]
                refine tH 12 (v := ?_) rfl (.inl ⟨by rfl, ?_⟩) ?_
                rotate_left
                ·intro w hSw; (try dsimp only at hSw); go_simp <;> with_reducible rfl
                simp only [Act.put, zA, zB, zC, zD, zE, zF]
                refine tH 13 (v := ?_) rfl (.inl ⟨by rfl, ?_⟩) ?_
                rotate_left
                ·intro w hSw; (try dsimp only at hSw); go_simp <;> with_reducible rfl
                simp only [Act.put, zA, zB, zC, zD, zE, zF]
                refine tH 14 (v := ?_) rfl (.inl ⟨by rfl, ?_⟩) ?_
                rotate_left
                ·intro w hSw; (try dsimp only at hSw); go_simp <;> with_reducible rfl
                simp only [Act.put, zA, zB, zC, zD, zE, zF]
                refine tH 15 (v := ?_) rfl (.inl ⟨by rfl, ?_⟩) ?_
                rotate_left
                ·intro w hSw; (try dsimp only at hSw); go_simp <;> with_reducible rfl
                simp only [Act.put, zA, zB, zC, zD, zE, zF]
                refine tH 16 (v := ?_) rfl (.inl ⟨by rfl, ?_⟩) ?_
                rotate_left
                ·intro w hSw; (try dsimp only at hSw); go_simp <;> with_reducible rfl
                simp only [Act.put, zA, zB, zC, zD, zE, zF]
                refine tH 17 (v := ?_) rfl (.inl ⟨by rfl, ?_⟩) ?_
                rotate_left
                ·intro w hSw; (try dsimp only at hSw); go_simp <;> with_reducible rfl
                simp only [Act.put, zA, zB, zC, zD, zE, zF]
                refine tH 18 (v := ?_) rfl (.inl ⟨by rfl, ?_⟩) ?_
                rotate_left
                ·intro w hSw; (try dsimp only at hSw); go_simp <;> with_reducible rfl
                simp only [Act.put, zA, zB, zC, zD, zE, zF]
                refine tH 19 (v := ?_) rfl (.inl ⟨by rfl, ?_⟩) ?_
                rotate_left
                ·intro w hSw; (try dsimp only at hSw); go_simp <;> with_reducible rfl
                simp only [Act.put, zA, zB, zC, zD, zE, zF]
                refine tH 20 (v := ?_) rfl (.inl ⟨by rfl, ?_⟩) ?_
                rotate_left
                ·intro w hSw; (try dsimp only at hSw); go_simp <;> with_reducible rfl
                simp only [Act.put, zA, zB, zC, zD, zE, zF]
                refine tH 21 (v := ?_) rfl (.inl ⟨by rfl, ?_⟩) ?_
                rotate_left
                ·intro w hSw; (try dsimp only at hSw); go_simp <;> with_reducible rfl
                simp only [Act.put, zA, zB, zC, zD, zE, zF]
                refine tH 22 (v := ?_) rfl (.inl ⟨by rfl, ?_⟩) ?_
                rotate_left
                ·intro w hSw; (try dsimp only at hSw); go_simp <;> with_reducible rfl
                simp only [Act.put, zA, zB, zC, zD, zE, zF]
                refine tH 23 (v := ?_) rfl (.inl ⟨by rfl, ?_⟩) ?_
                rotate_left
                ·intro w hSw; (try dsimp only at hSw); go_simp <;> with_reducible rfl
                simp only [Act.put, zA, zB, zC, zD, zE, zF]
                refine tH 24 (v := ?_) rfl (.inl ⟨by rfl, ?_⟩) ?_
                rotate_left
                ·intro w hSw; (try dsimp only at hSw); go_simp <;> with_reducible rfl
                simp only [Act.put, zA, zB, zC, zD, zE, zF]
                refine tH 25 (v := ?_) rfl (.inl ⟨by rfl, ?_⟩) ?_
                rotate_left
                ·intro w hSw; (try dsimp only at hSw); go_simp <;> with_reducible rfl
                simp only [Act.put, zA, zB, zC, zD, zE, zF]
                refine wpAnyH_ready (rs := [26]) (by kernel_rfl) (by simp) ?_
                refine AllReadyH.cons (o := _) rfl (fun K hK => ?_) ?_
                ·go_simp
                 go_at_call 69
                 (with_reducible refine (HC2.out _ HST.out HXB.out).mono ?_)
                 rintro e w5 ⟨rfl, hst, hfr⟩
                 clear hbx a0 a1 a2 a3 a4 a5 a6 xf3 kc1
                 replace HST := am hst
                 replace HXB := am (HXB.out.fr hfr)
                 replace HK : qAc (w5.cell? ⟨(ad.add (kk * 4)).block, (ad.add (kk * 4)).off + 1, none⟩ = some (.int .i64 q1)) := ⟨hfr.cell HK.out HNM.out⟩
                 clear hst hfr
                 have hbx := HXB.out.h
                 rw [← HMS.out.1, ← HMS.out.2.1, ← HMS.out.2.2.1, ← HMS.out.2.2.2.1, ← HMS.out.2.2.2.2.1, ← HMS.out.2.2.2.2.2.1, ← HMS.out.2.2.2.2.2.2] at hbx
                 have a0 := (qAa hbx 0).trans rfl
                 have a1 := (qAa hbx 1).trans rfl
                 have a2 := (qAa hbx 2).trans rfl
                 have a3 := (qAa hbx 3).trans rfl
                 have a4 := (qAa hbx 4).trans rfl
                 have a5 := (qAa hbx 5).trans rfl
                 have a6 := (qAa hbx 6).trans rfl
                 have xf3 := (qAa HST.out.x.1 3).trans rfl
                 have kc1 := HK.out
                 go_wp2_with fail
                 refine hK.out _ _ ⟨a1, a2, a3, a4, a5, a6, xf3, kc1⟩ (fun hHeld => ?_)
                 clear hK K
                 try simp only [Act.put, zA, zB, zC, zD, zE, zF]
                 refine tH 27 (v := ?_) rfl (.inl ⟨by rfl, ?_⟩) ?_
                 rotate_left
                 ·intro w hSw; (try dsimp only at hSw); go_simp <;> with_reducible rfl
                 simp only [Act.put, zA, zB, zC, zD, zE, zF]
                 refine tH 28 (v := ?_) rfl (.inl ⟨by rfl, ?_⟩) ?_
                 rotate_left
                 ·intro w hSw; (try dsimp only at hSw); go_simp <;> with_reducible rfl
                 simp only [Act.put, zA, zB, zC, zD, zE, zF]
                 refine tH 29 (v := ?_) rfl (.inl ⟨by rfl, ?_⟩) ?_
                 rotate_left
                 ·intro w hSw; (try dsimp only at hSw); go_simp <;> with_reducible rfl
                 simp only [Act.put, zA, zB, zC, zD, zE, zF]
                 refine wpAnyH_done (by kernel_rfl) ?_ _
                 refine NoPanic.normal ?_
                 go_wp2_with fail
                 go_meet
                 case rel => exact ⟨false, met2, shs2, rfl, ⟨by rw [qC8, ← hr1]; simp only; rw [← hr2]; rfl⟩, HS2, HST⟩
                exact AllReadyH.nil
               exact AllReadyH.nil
          case rest =>
           obtain ⟨bb, met', shs', rfl, HNR, HSM', HST'⟩ := hcut
           cases bb with
           | true =>
            have HRE := leafs 22 (by rw [HGO.out, HNR.out, if_pos rfl]) (by decide)
            have HST := HST'
            clear leafs
            go_wp2_with fail
            try rw [Exit.noGoto_ret]
            refine bodyPost_ret (qBP rfl _ _ _) rfl ?_
            refine ⟨_, _, by rw [HRE.out]; rfl, fun m s h => ?_, HST.out.b⟩
            rw [HRE.out] at h
            cases h
           | false =>
            have HL2 : qAc (qCK ls vs fs res code g met' (dn.set kk true) shs' = RR) := ⟨by rw [HR2.out, HGO.out, HNR.out, if_neg (show ¬ (false = true) by decide), if_pos rfl]⟩
            clear leafs
            go_wp2_with fail
            go_roundg g
            case measure => omega
            case rel => exact ⟨met', dn.set kk true, shs', by have := qCI dn kk HDX.out; omega, HL2, HSM', ⟨HST'.out.m⟩, ⟨HST'.out.d⟩, ⟨HST'.out.s⟩, ⟨HST'.out.b⟩, ⟨HST'.out.t⟩, ⟨HST'.out.x⟩⟩
end RV
end Q
end
end Go.Proofs.YtfddibbignedkaaGreatDoor
