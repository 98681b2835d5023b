/- Chapter 14: what the laws of this seat share: the words, the contracts of code.Verify, Encode, Text and of the document's Verify. -/
import Derived.Test.YtfddibbignedkaaGreatDoorR1
import Derived.Deep.RegionHeld3
import Derived.Deep.Cut
import Derived.Deep.LoopGhost
import Derived.Deep.CutRange
import Derived.Deep.QuietTactic
import Derived.BigQuiet
set_option maxHeartbeats 8000000
set_option maxRecDepth 100000
set_option linter.unusedVariables false
set_option linter.unusedSimpArgs false
namespace Go.Proofs.YtfddibbignedkaaGreatDoor
section
namespace Q
open Go.RowKit YA YC YB
namespace RV
noncomputable def qAW (met : List Bool) (shs : List S117) (i : Int) (x : S117) : Bool × List Bool × List S117 :=
 if rdOf false met i = true then (eqB (qAM shs i) x, met, shs) else (true, met.set i.toNat true, shs.set i.toNat x)
def NoPost (W : World) (M S n cM cS : Nat) (ok : Nat → Prop) (R : Bool × List Bool × List S117) (e : Ending) (w' : World) : Prop :=
 e = .returned (.bool R.1) ∧ Kd.R Kd.bool 4 w' 0 (fun q => q = M) (.slice (some ⟨M, 0, none⟩) n cM) R.2.1 ∧ Kd.N k117 117 w' 0 ok (.slice (some ⟨S, 0, none⟩) n cS) R.2.2 ∧ Fr W w' (fun q => q = M ∨ q = S)
theorem qE3 {W : World} {M S n cM cS : Nat} {ok okp : Nat → Prop} {met : List Bool} {shs : List S117} (hM : Kd.R Kd.bool 4 W 0 (fun q => q = M) (.slice (some ⟨M, 0, none⟩) n cM) met) (hS : Kd.N k117 117 W 0 ok (.slice (some ⟨S, 0, none⟩) n cS) shs) (i : Int) (h0 : 0 ≤ i) (h1 : i < n) (x : S117) (A1 A2 : Option Addr) (c1 c2 : Nat)
  (hF1 : Kd.F (Kd.int .i64) W okp A1 x.f0.length x.f0) (hc1 : x.f0.length ≤ c1) (hF2 : Kd.F k200 W okp A2 x.f1.length x.f1) (hc2 : x.f1.length ≤ c2) (hokp : ∀ q, okp q → ok q ∧ q ≠ S ∧ q ≠ M) (hMS : M ≠ S) (hokM : ∀ q, ok q → q ≠ M) (hsm : ∀ y ∈ shs, qDa y) (hMl : M < W.heap.size) (hSl : S < W.heap.size) :
  Calls Tryz.prog 69 #[.slice (some ⟨M, 0, none⟩) n cM, .slice (some ⟨S, 0, none⟩) n cS, .int .i64 i, .agg #[.slice A1 x.f0.length c1, .slice A2 x.f1.length c2]] W (NoPost W M S n cM cS ok (qAW met shs i x)) := by
 obtain ⟨D1, d1, D2, d2, y0, y1, l1, l2, Y1, Y2, yfr⟩ := qEm hS i h0 h1
 obtain ⟨x0, x0f⟩ := Kd.R_celln (α := Bool) false hM i h0 h1
 have hlen : shs.length = n := (Kd.N_reads' hS).1.symm
 have hmem : qAM shs i ∈ shs := by
  unfold qAM
  rw [List.getD_eq_getElem?_getD, List.getElem?_eq_getElem (by omega)]; exact List.getElem_mem _
 have hsy := hsm _ hmem
 obtain ⟨y, hy⟩ := eX (qAM shs i)
 obtain ⟨b, hb⟩ := eX (rdOf false met i)
 have hR : qAW met shs i x = if b = true then (eqB y x, met, shs) else (true, met.set i.toNat true, shs.set i.toNat x) := by rw [hb, hy]; rfl
 obtain ⟨R, hRR⟩ := eX (qAW met shs i x)
 rw [← hRR] at hR ⊢
 rw [← hy] at y0 y1 l1 l2 Y1 Y2 hsy
 rw [← hb] at x0
 obtain ⟨p1, hp1⟩ := eX x.f0.length
 obtain ⟨p2, hp2⟩ := eX x.f1.length
 obtain ⟨z1, hz1⟩ := eX y.f0.length
 obtain ⟨z2, hz2⟩ := eX y.f1.length
 have HSM : qAd (∀ W1, Below W.heap.size W W1 → Calls Tryz.prog 100 #[.agg #[.slice D1 z1 d1, .slice D2 z2 d2], .agg #[.slice A1 p1 c1, .slice A2 p2 c2]] W1 fun e w' => e = .returned (.bool (eqB y x)) ∧ Below W1.heap.size W1 w') := ⟨fun W1 hb1 => by
   rw [hz1, hz2, hp1, hp2]
   exact same_any D1 D2 A1 A2 d1 d2 c1 c2 y x W1 hsy (Kd.F_now (Kd.F_below Y1 hb1)) l1 (Kd.F_now (Kd.F_below Y2 hb1)) l2 (Kd.F_now (Kd.F_below hF1 hb1)) hc1 (Kd.F_now (Kd.F_below hF2 hb1)) hc2⟩
 rw [← hz1] at y0
 rw [← hz2] at y1
 obtain ⟨WB, hWB⟩ := eX (W.alloc (.cells #[.slice A1 p1 c1, .slice A2 p2 c2] 117))
 have hBB : Below W.heap.size W WB := hWB ▸ (Below.refl _ _).alloc (nl _) _
 have bX : WB.heap[W.heap.size]? = some (.cells #[.slice A1 p1 c1, .slice A2 p2 c2] 117 (0, 0)) := by rw [hWB]; exact qBb W _
 have u0 := (hBB.cell (p := ⟨S, i.toNat * 2, none⟩) hSl).trans y0
 have u1 := (hBB.cell (p := ⟨S, i.toNat * 2 + 1, none⟩) hSl).trans y1
 have v0 := (hBB.cell (p := ⟨M, i.toNat, none⟩) hMl).trans x0
 have HMB := am (Kd.R_below hM hBB)
 have HSB := am (Kd.N_below hS hBB)
 have F1 := am (Kd.F_below hF1 hBB)
 have F2 := am (Kd.F_below hF2 hBB)
 have HBB := am hBB
 have HP1 := am hp1
 have HP2 := am hp2
 have HC1 := am hc1
 have HC2 := am hc2
 have HRR := am hR
 have HOK := am hokp
 have HOM := am hokM
 have w0 := (qAa bX 0).trans rfl
 have w1 := (qAa bX 1).trans rfl
 have vf : WB.frozen? ⟨M, i.toNat, none⟩ = false := (Kd.R_celln (α := Bool) false HMB.out i h0 h1).2
 have uf0 : WB.frozen? ⟨S, i.toNat * 2, none⟩ = false := (qEm HSB.out i h0 h1).choose_spec.choose_spec.choose_spec.choose_spec.2.2.2.2.2.2 0
 have uf1 : WB.frozen? ⟨S, i.toNat * 2 + 1, none⟩ = false := (qEm HSB.out i h0 h1).choose_spec.choose_spec.choose_spec.choose_spec.2.2.2.2.2.2 1
 rw [← hp1, ← hp2]
 clear hM hS hF1 hF2 hc1 hc2 hokp hokM hsm Y1 Y2 l1 l2 yfr x0f y0 y1 x0 hlen hmem hsy hp1 hp2 hz1 hz2 hR hRR hy hb hBB
 have HMS := am hMS
 cases b with
 | true =>
  have e := HRR.out
  rw [if_pos rfl] at e
  rw [e]
  obtain ⟨eb, heb⟩ := eX (eqB y x)
  have HEB : qAd ((eb, met, shs) = (eqB y x, met, shs)) := ⟨by rw [heb]⟩
  rw [← heb] at HSM ⊢
  clear HRR e heb
  go_enter Tryz.func69, Tryz.ntmps69
  go_upto_region 1 with fail
  rw [← hWB]
  clear hWB
  go_wp2_with fail
  go_region_held3 (fun W' => W'.cell? ⟨S, i.toNat * 2, none⟩ = some (.slice D1 z1 d1) ∧ W'.cell? ⟨S, i.toNat * 2 + 1, none⟩ = some (.slice D2 z2 d2) ∧ W'.cell? ⟨W.heap.size, 0, none⟩ = some (.slice A1 p1 c1) ∧ W'.cell? ⟨W.heap.size, 1, none⟩ = some (.slice A2 p2 c2))
   (first | exact ⟨u0, u1, w0, w1⟩)
   (first
     | (go_at_call 100; (with_reducible refine (HSM.out _ HBB.out.drew).mono ?_); rintro e w2 ⟨rfl, hb2⟩; have hbb := (Below.refl WB.heap.size WB).drew.trans hb2; replace u0 := (hbb.cell (bl u0)).trans u0; replace u1 := (hbb.cell (bl u1)).trans u1; replace w0 := (hbb.cell (bl w0)).trans w0; replace w1 := (hbb.cell (bl w1)).trans w1; have HB2 := am hbb; clear hbb hb2))
  go_wp2
  go_ret
  exact ⟨rfl, Kd.R_below HMB.out HB2.out, Kd.N_below HSB.out HB2.out, Fr.of_below (HBB.out.trans (HB2.out.mono HBB.out.size))⟩
 | false =>
  have e := HRR.out
  rw [if_neg (by decide)] at e
  rw [e]
  clear HRR e HSM
  go_enter Tryz.func69, Tryz.ntmps69
  go_upto_region 1 with fail
  rw [← hWB]
  clear hWB
  go_wp2
  go_ret
  refine ⟨rfl, ?_, ?_, ?_⟩
  ·exact Kd.R_far (p := ⟨S, i.toNat * 2 + 1, none⟩) (Kd.R_far (p := ⟨S, i.toNat * 2, none⟩) (Kd.R_putg (α := Bool) HMB.out i true).1 (fun k hk => by rw [hk]; exact HMS.out) _) (fun k hk => by rw [hk]; exact HMS.out) _
  ·have g1 := Kd.F_far (p := ⟨M, i.toNat, none⟩) F1.out (fun k hk => (HOK.out k hk).2.2) (.bool true)
   have g2 := Kd.F_far (p := ⟨M, i.toNat, none⟩) F2.out (fun k hk => (HOK.out k hk).2.2) (.bool true)
   have l1 := HC1.out
   have l2 := HC2.out
   rw [HP1.out, HP2.out]
   exact rlay (Kd.N_far (p := ⟨M, i.toNat, none⟩) HSB.out (fun k hk => HOM.out k hk) (.bool true)) i h0 h1 (k117_mkF _ _ x l1 g1 l2 g2) (fun k hk => ⟨(HOK.out k hk).1, (HOK.out k hk).2.1⟩)
  exact Fr.set (Fr.set (Fr.set (Fr.of_below HBB.out) (.inl (.inl rfl)) _) (.inl (.inr rfl)) _) (.inl (.inr rfl)) _
end RV
end Q
end
section
namespace Q
open Go.RowKit YA YC YB
open Val Ins
namespace RV
abbrev FoundT : Type := Option (List Bool × List S117) × Int × Int
def qCO : Nat → List Bool → List Bool → Option Nat
 | k, m :: ms, d :: ds => if (m && !d) = true then some k else qCO (k + 1) ms ds
 | _, _, _ => none
theorem nextR_cons (k : Nat) (m : Bool) (ms : List Bool) (d : Bool) (ds : List Bool) : qCO k (m :: ms) (d :: ds) = if (m && !d) = true then some k else qCO (k + 1) ms ds := rfl
theorem nextR_some : ∀ (k : Nat) (ms ds : List Bool) (i : Nat), qCO k ms ds = some i → k ≤ i ∧ ms[i - k]? = some true ∧ ds[i - k]? = some false
 | k, [], ds, i, h => by simp [qCO] at h
 | k, m :: ms, [], i, h => by simp [qCO] at h
 | k, m :: ms, d :: ds, i, h => by
  unfold qCO at h
  split at h
  ·rename_i hb
   injection h with h
   subst h
   simp at hb
   exact ⟨nl _, by simp [hb.1], by simp [hb.2]⟩
  obtain ⟨h1, h2, h3⟩ := nextR_some (k + 1) ms ds i h
  refine ⟨by omega, ?_, ?_⟩
  ·rw [show i - k = (i - (k + 1)) + 1 by omega]; simpa using h2
  rw [show i - k = (i - (k + 1)) + 1 by omega]; simpa using h3
noncomputable def qBS (n : Nat) (i : Nat) (N : Int) (x : S138) (met : List Bool) (shs : List S117) : Int × List Bool × List S117 :=
 if x.f0 = false ∨ (x.f1 = true ∧ (n : Int) ≤ i + 1) ∨ (x.f2 = true ∧ (n : Int) ≤ N) then (51, met, shs)
 else if (x.f1 = true ∧ qC4 x.f3 = true) ∨ (x.f2 = true ∧ qC4 x.f4 = true) then (3, met, shs)
 else
  let a := if x.f1 = true then qAW met shs ((i : Int) + 1) x.f3 else (true, met, shs)
  if a.1 = false then (22, met, shs)
  else
   let b := if x.f2 = true then qAW a.2.1 a.2.2 N x.f4 else (true, a.2.1, a.2.2)
   if b.1 = false then (22, met, shs) else (0, b.2.1, b.2.2)
section
variable {n i : Nat} {N : Int} {x : S138} {met : List Bool} {shs : List S117}
theorem qD7 (h : x.f0 = false ∨ (x.f1 = true ∧ (n : Int) ≤ i + 1) ∨ (x.f2 = true ∧ (n : Int) ≤ N)) : qBS n i N x met shs = (51, met, shs) := by unfold qBS; rw [if_pos h]
theorem roundR_3 (h : ¬ (x.f0 = false ∨ (x.f1 = true ∧ (n : Int) ≤ i + 1) ∨ (x.f2 = true ∧ (n : Int) ≤ N))) (h2 : (x.f1 = true ∧ qC4 x.f3 = true) ∨ (x.f2 = true ∧ qC4 x.f4 = true)) : qBS n i N x met shs = (3, met, shs) := by unfold qBS; rw [if_neg h, if_pos h2]
noncomputable def qC5 (i : Nat) (N : Int) (f1 f2 : Bool) (a b : S117) (met : List Bool) (shs : List S117) : Int × List Bool × List S117 :=
 if (if f1 = true then qAW met shs ((i : Int) + 1) a else (true, met, shs)).1 = false then (22, met, shs)
 else if (if f2 = true then qAW (if f1 = true then qAW met shs ((i : Int) + 1) a else (true, met, shs)).2.1 (if f1 = true then qAW met shs ((i : Int) + 1) a else (true, met, shs)).2.2 N b else (true, (if f1 = true then qAW met shs ((i : Int) + 1) a else (true, met, shs)).2.1, (if f1 = true then qAW met shs ((i : Int) + 1) a else (true, met, shs)).2.2)).1 = false then (22, met, shs)
 else (0, (if f2 = true then qAW (if f1 = true then qAW met shs ((i : Int) + 1) a else (true, met, shs)).2.1 (if f1 = true then qAW met shs ((i : Int) + 1) a else (true, met, shs)).2.2 N b else (true, (if f1 = true then qAW met shs ((i : Int) + 1) a else (true, met, shs)).2.1, (if f1 = true then qAW met shs ((i : Int) + 1) a else (true, met, shs)).2.2)).2)
theorem qE9 (h : ¬ (x.f0 = false ∨ (x.f1 = true ∧ (n : Int) ≤ i + 1) ∨ (x.f2 = true ∧ (n : Int) ≤ N))) (h2 : ¬ ((x.f1 = true ∧ qC4 x.f3 = true) ∨ (x.f2 = true ∧ qC4 x.f4 = true))) : qBS n i N x met shs = qC5 i N x.f1 x.f2 x.f3 x.f4 met shs := by
 unfold qBS
 rw [if_neg h, if_neg h2]
 rfl
theorem qE4 {a b : S117} : qC5 i N false false a b met shs = (0, met, shs) := rfl
theorem qD1 {a b : S117} : qC5 i N true false a b met shs = if (qAW met shs ((i : Int) + 1) a).1 = false then (22, met, shs) else (0, (qAW met shs ((i : Int) + 1) a).2) := by
 unfold qC5
 simp
theorem qD0 {a b : S117} : qC5 i N false true a b met shs = if (qAW met shs N b).1 = false then (22, met, shs) else (0, (qAW met shs N b).2) := by
 unfold qC5
 simp
theorem qCY {a b : S117} : qC5 i N true true a b met shs = if (qAW met shs ((i : Int) + 1) a).1 = false then (22, met, shs) else if (qAW (qAW met shs ((i : Int) + 1) a).2.1 (qAW met shs ((i : Int) + 1) a).2.2 N b).1 = false then (22, met, shs) else (0, (qAW (qAW met shs ((i : Int) + 1) a).2.1 (qAW met shs ((i : Int) + 1) a).2.2 N b).2) := by
 unfold qC5
 simp
end
noncomputable def qDl (ls vs : List Int) (fs : List S24) (res : Int) (code : List S50) : Nat → List Bool → List Bool → List S117 → FoundT
 | 0, _, _, _ => (none, 0, 0)
 | g + 1, met, dn, shs =>
  match qCO 0 met dn with
  | none => (some (met, shs), 0, 0)
  | some i =>
   let r := qBS code.length i (qA3 code i).f1 (qAP ls vs fs res (qA3 code i).f0 (qA3 code i).f1 (qA3 code i).f2.f0 (qAM shs i).f0 (qAM shs i).f1) met shs
   if r.1 = 0 then qDl ls vs fs res code g r.2.1 (dn.set i true) r.2.2 else (none, i, r.1)
def FoPost (R : FoundT) (W : World) (e : Ending) (w' : World) : Prop :=
 ∃ v1 v2, e = .returned (.tuple #[v1, v2, .int .i64 R.2.1, .int .i64 R.2.2]) ∧ (∀ m s, R.1 = some (m, s) → Kd.R Kd.bool 4 w' 0 (fun _ => True) v1 m ∧ Kd.N k117 117 w' 0 (fun _ => True) v2 s) ∧ Below W.heap.size W w'
def TrOk (R : S138) : Prop := (∀ y ∈ R.f3.f1, y.f1.length ≤ 2000000) ∧ (∀ y ∈ R.f4.f1, y.f1.length ≤ 2000000)
theorem TrOk.ite {c : Prop} [Decidable c] {a b : S138} (h : TrOk a) (k : TrOk b) : TrOk (if c then a else b) := by split <;> assumption
theorem stepR_tries {ls vs : List Int} {fs : List S24} {res op n ty : Int} {st : List Int} {tr : List S200} (h0 : st.length ≤ 2000000) (h : ∀ y ∈ tr, y.f1.length ≤ 2000000) : TrOk (qAP ls vs fs res op n ty st tr) := by
 have hd : ∀ y ∈ tr.dropLast, y.f1.length ≤ 2000000 := fun y hy => h y ((List.dropLast_sublist _).subset hy)
 have ha : ∀ y ∈ tr ++ [(⟨n, st⟩ : S200)], y.f1.length ≤ 2000000 := fun y hy => by
  rcases List.mem_append.1 hy with h' | h'
  ·exact h y h'
  rw [List.mem_singleton.1 h']; exact h0
 have hn : ∀ y ∈ ([] : List S200), y.f1.length ≤ 2000000 := fun y hy => by cases hy
 unfold qAP
 repeat' (first | exact (⟨h, hn⟩ : TrOk ⟨_, _, _, ⟨_, tr⟩, ⟨_, []⟩⟩) | exact (⟨hn, hn⟩ : TrOk ⟨_, _, _, ⟨_, []⟩, ⟨_, []⟩⟩) | exact (⟨hd, hn⟩ : TrOk ⟨_, _, _, ⟨_, tr.dropLast⟩, ⟨_, []⟩⟩) | exact (⟨ha, h⟩ : TrOk ⟨_, _, _, ⟨_, tr ++ [⟨n, st⟩]⟩, ⟨_, tr⟩⟩) | exact (⟨hn, h⟩ : TrOk ⟨_, _, _, ⟨_, []⟩, ⟨_, tr⟩⟩) | exact (⟨h, h⟩ : TrOk ⟨_, _, _, ⟨_, tr⟩, ⟨_, tr⟩⟩) | apply TrOk.ite)
def FB (b : Nat) (fv pv : Array Value) (w : World) : Prop := w.heap[b]? = some (.cells fv 27 (0, 0)) ∧ w.heap[b + 1]? = some (.cells pv 30 (0, 0))
theorem FB.below {b : Nat} {fv pv : Array Value} {w w' : World} (h : FB b fv pv w) (hb : Below w.heap.size w w') : FB b fv pv w' := ⟨qAk h.1 hb, qAk h.2 hb⟩
theorem FB.fr {b : Nat} {fv pv : Array Value} {w w' : World} {S : Nat → Prop} (h : FB b fv pv w) (hf : Fr w w' S) (h0 : ¬ S b) (h1 : ¬ S (b + 1)) : FB b fv pv w' := ⟨hf.blk h.1 h0, hf.blk h.2 h1⟩
theorem FB.lt {b : Nat} {fv pv : Array Value} {w : World} (h : FB b fv pv w) : b + 1 < w.heap.size := qAZ h.2
structure FoSt (W : World) (M D S n cM cD cS : Nat) (fv pv : Array Value) (met dn : List Bool) (shs : List S117) (w : World) : Prop where
 m : Kd.R Kd.bool 4 w 0 (fun q => q = M) (.slice (some ⟨M, 0, none⟩) n cM) met
 d : Kd.R Kd.bool 4 w 0 (fun q => q = D) (.slice (some ⟨D, 0, none⟩) n cD) dn
 s : Kd.N k117 117 w 0 (fun q => q ≠ M ∧ q ≠ D) (.slice (some ⟨S, 0, none⟩) n cS) shs
 b : Below W.heap.size W w
 t : S < w.heap.size
 x : FB W.heap.size fv pv w
theorem FoSt.below {W : World} {M D S n cM cD cS : Nat} {fv pv : Array Value} {met dn : List Bool} {shs : List S117} {w w' : World} (h : FoSt W M D S n cM cD cS fv pv met dn shs w) (hb : Below w.heap.size w w') : FoSt W M D S n cM cD cS fv pv met dn shs w' :=
 ⟨Kd.R_below h.m hb, Kd.R_below h.d hb, Kd.N_below h.s hb, h.b.trans (hb.mono h.b.size), Nat.lt_of_lt_of_le h.t hb.size, h.x.below hb⟩
structure XB (M D S : Nat) (R : S138) (gX : Nat) (D3 D4 D5 D6 : Option Addr) (d3 d4 d5 d6 : Nat) (w : World) : Prop where
 h : w.heap[gX]? = some (.cells #[.bool R.f0, .bool R.f1, .bool R.f2, .slice D3 R.f3.f0.length d3, .slice D4 R.f3.f1.length d4, .slice D5 R.f4.f0.length d5, .slice D6 R.f4.f1.length d6] 138 (0, 0))
 g3 : Kd.F (Kd.int .i64) w (fun q => q ≠ M ∧ q ≠ D ∧ q ≠ S) D3 R.f3.f0.length R.f3.f0
 g4 : Kd.F k200 w (fun q => q ≠ M ∧ q ≠ D ∧ q ≠ S) D4 R.f3.f1.length R.f3.f1
 g5 : Kd.F (Kd.int .i64) w (fun q => q ≠ M ∧ q ≠ D ∧ q ≠ S) D5 R.f4.f0.length R.f4.f0
 g6 : Kd.F k200 w (fun q => q ≠ M ∧ q ≠ D ∧ q ≠ S) D6 R.f4.f1.length R.f4.f1
 l3 : R.f3.f0.length ≤ d3
 l4 : R.f3.f1.length ≤ d4
 l5 : R.f4.f0.length ≤ d5
 l6 : R.f4.f1.length ≤ d6
 n : gX ≠ M ∧ gX ≠ D ∧ gX ≠ S
theorem XB.below {M D S : Nat} {R : S138} {gX : Nat} {D3 D4 D5 D6 : Option Addr} {d3 d4 d5 d6 : Nat} {w w' : World} (h : XB M D S R gX D3 D4 D5 D6 d3 d4 d5 d6 w) (hb : Below w.heap.size w w') : XB M D S R gX D3 D4 D5 D6 d3 d4 d5 d6 w' :=
 ⟨qAk h.h hb, Kd.F_below h.g3 hb, Kd.F_below h.g4 hb, Kd.F_below h.g5 hb, Kd.F_below h.g6 hb, h.l3, h.l4, h.l5, h.l6, h.n⟩
theorem XB.fr {M D S : Nat} {R : S138} {gX : Nat} {D3 D4 D5 D6 : Option Addr} {d3 d4 d5 d6 : Nat} {w w' : World} (h : XB M D S R gX D3 D4 D5 D6 d3 d4 d5 d6 w) (hf : Fr w w' (fun q => q = M ∨ q = S)) : XB M D S R gX D3 D4 D5 D6 d3 d4 d5 d6 w' := by
 have hq : ∀ {α : Type} {d : Kd α} {A : Option Addr} {n : Nat} {xs : List α}, Kd.F d w (fun q => q ≠ M ∧ q ≠ D ∧ q ≠ S) A n xs → Kd.F d w' (fun q => q ≠ M ∧ q ≠ D ∧ q ≠ S) A n xs := fun g => Kd.F_kept g hf.2 (fun k hk e => by rcases e with e | e; exact hk.1 e; exact hk.2.2 e)
 exact ⟨hf.blk h.h (fun e => by rcases e with e | e; exact h.n.1 e; exact h.n.2.2 e), hq h.g3, hq h.g4, hq h.g5, hq h.g6, h.l3, h.l4, h.l5, h.l6, h.n⟩
theorem FoSt.noted {W : World} {M D S n cM cD cS : Nat} {fv pv : Array Value} {met dn : List Bool} {shs : List S117} {w w' : World} {R : Bool × List Bool × List S117} {e : Ending} (h : FoSt W M D S n cM cD cS fv pv met dn shs w) (hp : NoPost w M S n cM cS (fun q => q ≠ M ∧ q ≠ D) R e w') (hWM : W.heap.size + 1 < M) (hMD : M < D) (hDS : D < S) :
  e = .returned (.bool R.1) ∧ FoSt W M D S n cM cD cS fv pv R.2.1 dn R.2.2 w' ∧ Fr w w' (fun q => q = M ∨ q = S) := by
 obtain ⟨he, hm, hs, hf⟩ := hp
 have hb : Below W.heap.size w w' := Fr.below hf (fun q hq => by rcases hq with h | h <;> omega) h.b.size
 exact ⟨he, ⟨hm, Kd.R_kept h.d hf.2 (fun k hk e => by rcases e with e | e <;> omega), hs, h.b.trans hb, Nat.lt_of_lt_of_le h.t hf.size, h.x.fr hf (fun e => by rcases e with e | e <;> omega) (fun e => by rcases e with e | e <;> omega)⟩, hf⟩
theorem qDp {met : List Bool} {shs : List S117} {i : Int} {x : S117} (h : ∀ y ∈ shs, qDa y) (hx : qDa x) : ∀ y ∈ (qAW met shs i x).2.2, qDa y := by
 unfold qAW
 split
 ·exact h
 intro y hy
 rcases List.mem_or_eq_of_mem_set hy with hy | hy
 ·exact h y hy
 rw [hy]; exact hx
end RV
namespace RV
theorem qCo {fn : Func} {t u v x : Tmp} (h : fn.results = #[.tmp t, .tmp u, .tmp v, .tmp x]) (tmps : Array Value) (P : Program) (w : World) : (results fn tmps).run P w = .ok (.tuple #[tmps.getD t undef, tmps.getD u undef, tmps.getD v undef, tmps.getD x undef]) w := by simp [results, h]
theorem vinfo_rshape : (Tryz.prog.info? 117).map (fun i => (i.zero, i.size, i.bytes)) = some (some (.agg #[.slice none 0 0, .slice none 0 0]), 2, 48) := by kernel_rfl
theorem FK_rzero (W : World) : Kd.FK k117 W (fun _ => False) z117 [.slice none 0 0, .slice none 0 0] :=
 k117_mkF W _ ⟨[], []⟩ (nl 0) (Kd.F_nil _ _ _) (nl 0) (Kd.F_nil _ _ _)
theorem F_set7 {α : Type} {d : Kd α} {W : World} {ok : Nat → Prop} {A : Option Addr} {n : Nat} {xs : List α} (h : Kd.F d W ok A n xs) (g : Nat) (hg : ∀ k, ok k → k ≠ g) (b0 b1 b2 b3 b4 b5 b6 : Value) : Kd.F d (((((((W.setCell ⟨g, 0, none⟩ b0).setCell ⟨g, 1, none⟩ b1).setCell ⟨g, 2, none⟩ b2).setCell ⟨g, 3, none⟩ b3).setCell ⟨g, 4, none⟩ b4).setCell ⟨g, 5, none⟩ b5).setCell ⟨g, 6, none⟩ b6) ok A n xs :=
 Kd.F_far (Kd.F_far (Kd.F_far (Kd.F_far (Kd.F_far (Kd.F_far (Kd.F_far h hg _) hg _) hg _) hg _) hg _) hg _) hg _
theorem found_any {W : World} (A1 A2 A3 A4 A5 : Option Addr) (c1 c2 c3 c4 c5 : Nat) (res : Int) {ps ls vs : List Int} {fs : List S24} {code : List S50} {okF : Nat → Prop} (hP : Kd.F (Kd.int .i64) W okF A1 ps.length ps) (hL : Kd.F (Kd.int .i64) W okF A2 ls.length ls) (hC : Kd.F k50 W okF A3 code.length code) (hF : Kd.F k24 W okF A4 fs.length fs) (hV : Kd.F (Kd.int .i64) W okF A5 vs.length vs) (hc1 : ps.length ≤ c1) (hc2 : ls.length ≤ c2) (hc3 : code.length ≤ c3) (hc4 : fs.length ≤ c4) (hc5 : vs.length ≤ c5)
  (hp1 : ps.length ≤ 2000000) (hl1 : ls.length ≤ 2000000) (hv1 : vs.length ≤ 2000000) (hf1 : fs.length ≤ 2000000) (hn3 : code.length ≤ 2000000) (hfs : ∀ x ∈ fs, x.f0.length ≤ 2000000) (ha he : Int)
  (hH : ∀ W1, Below W.heap.size W W1 → Calls Tryz.prog 66 #[.agg #[.slice A1 ps.length c1, .int .i64 res, .slice A2 ls.length c2, .slice A3 code.length c3], .agg #[.slice A4 fs.length c4, .slice A5 vs.length c5]] W1 fun e w' => e = .returned (.tuple #[.int .i64 ha, .int .i64 he]) ∧ Below W1.heap.size W1 w')
  (hok : he = 0 → 0 < code.length ∧ code.length ≤ 4096 ∧ ∀ x ∈ code, 1 ≤ x.f0 ∧ x.f0 ≤ 17 ∧ 0 ≤ x.f1) :
  Calls Tryz.prog 43 #[.agg #[.slice A1 ps.length c1, .int .i64 res, .slice A2 ls.length c2, .slice A3 code.length c3], .agg #[.slice A4 fs.length c4, .slice A5 vs.length c5]] W (FoPost (if he = 0 then qDl ls vs fs res code (code.length + 1) ((List.replicate code.length false).set 0 true) (List.replicate code.length false) (List.replicate code.length z117) else (none, ha, he)) W) := by
 obtain ⟨RR, hRR⟩ := eX ((if he = 0 then qDl ls vs fs res code (code.length + 1) ((List.replicate code.length false).set 0 true) (List.replicate code.length false) (List.replicate code.length z117) else (none, ha, he)))
 rw [← hRR]
 obtain ⟨n, hn⟩ := eL code
 obtain ⟨p1, hpp⟩ := eL ps
 obtain ⟨l1, hll⟩ := eL ls
 obtain ⟨f1, hff⟩ := eL fs
 obtain ⟨v1, hvv⟩ := eL vs
 rw [← hn, ← hpp, ← hll, ← hff, ← hvv] at hH
 rw [← hn] at hC hn3 hok hRR
 have HL := am (Kd.F_bound hL)
 have HC := am (Kd.F_bound hC)
 have HF := am (Kd.F_bound hF)
 have HV := am (Kd.F_bound hV)
 have HFS := am hfs
 have HN := am hn
 have HR := am hRR
 have HH := am hH
 have HOK := am hok
 have HZ : qAd (ls.length ≤ c2 ∧ fs.length ≤ 2000000 ∧ vs.length ≤ c5 ∧ ls.length ≤ 2000000 ∧ vs.length ≤ 2000000) := ⟨⟨hc2, hf1, hc5, hl1, hv1⟩⟩
 rw [← hn, ← hpp, ← hll, ← hff, ← hvv]
 have HLL := am hll
 have HFF := am hff
 have HVV := am hvv
 clear hP hL hC hF hV hfs hRR hH hok hc1 hc2 hc3 hc4 hc5 hpp hn hll hff hvv hp1 hl1 hv1 hf1
 obtain ⟨W0, hW0⟩ := eX ((W.alloc (.cells #[.slice A1 p1 c1, .int .i64 res, .slice A2 l1 c2, .slice A3 n c3] 27)).alloc (.cells #[.slice A4 f1 c4, .slice A5 v1 c5] 30))
 have HX : qAd (FB W.heap.size #[.slice A1 p1 c1, .int .i64 res, .slice A2 l1 c2, .slice A3 n c3] #[.slice A4 f1 c4, .slice A5 v1 c5] W0) := ⟨hW0 ▸ ⟨al_e _ (al_n _ _ rfl), al_n _ _ (by simp)⟩⟩
 have HB : qAd (Below W.heap.size W W0) := ⟨hW0 ▸ ((Below.refl W.heap.size W).alloc (nl _) _).alloc (by simp) _⟩
 go_enter Tryz.func43, Tryz.ntmps43
 go_upto_region 1 with fail
 rw [← hW0]
 clear hW0
 have xf0 := (qAa HX.out.1 0).trans rfl
 have xf1 := (qAa HX.out.1 1).trans rfl
 have xf2 := (qAa HX.out.1 2).trans rfl
 have xf3 := (qAa HX.out.1 3).trans rfl
 have xp0 := (qAa HX.out.2 0).trans rfl
 have xp1 := (qAa HX.out.2 1).trans rfl
 by_cases he0 : he = 0
 case neg =>
  have hq : (he != 0) = true := bne_iff_ne.mpr he0
  have e := HR.out
  rw [if_neg he0] at e
  go_wp2_with (go_at_call 66; refine (HH.out _ HB.out).mono ?_; rintro e w1 ⟨rfl, hb1⟩; have HB1 := am (HB.out.trans (hb1.mono HB.out.size)); clear hb1)
  refine bodyPost_ret (qCo rfl _ _ _) rfl ?_
  refine ⟨_, _, by rw [e]; rfl, fun m s h => ?_, HB1.out⟩
  rw [e] at h
  cases h
 have hnp := HOK.out he0
 have e := HR.out
 rw [if_pos he0] at e
 have HR := am e
 subst he0
 clear e
 go_upto_region 5 with (go_at_call 66; refine (HH.out _ HB.out).mono ?_; rintro e w1 ⟨rfl, hb1⟩; replace HX := am (HX.out.below hb1); replace HB := am (HB.out.trans (hb1.mono HB.out.size)); clear xf0 xf1 xf2 xf3 xp0 xp1; have xf3 := (qAa HX.out.1 3).trans rfl; clear hb1)
 obtain ⟨wA, hwA⟩ := eX w1
 rw [← hwA] at HX HB xf3 ⊢
 clear hwA HH HOK xf3
 go_upto_region 8 with (first
   | (at_make; refine Kd.R_make Kd.bool (w0 := wA) wA.heap.size 4 rfl (N := 30) rfl 91 _ _ rfl (n : Int) rfl rfl Tryz.underlying91 _ 1 qDY rfl (by decide) (by decide) false (ok := fun q => wA.heap.size ≤ q) (okp := fun _ => False) rfl (fun _ h => h.elim) (nl _) (by omega) (by omega) (Below.refl _ _) (nl _) ?_; intro vM w2 hRM _ hg2 _; rw [Int.toNat_natCast] at hRM; obtain ⟨M, cM, rfl, hM1, hM2, _⟩ := Kd.R_form hRM (by simpa using hnp.1); rw [List.length_replicate] at hRM; have hb2 : Below wA.heap.size wA w2 := (Below.refl _ _).grown hg2 (nl _) (by simp); have HX2 := am (HX.out.below hb2); have HB2 := am (HB.out.trans (hb2.mono HB.out.size)); have HRM := am hRM; clear hRM hg2 hb2)
   | (at_make; refine Kd.R_make Kd.bool (w0 := w2) w2.heap.size 4 rfl (N := 32) rfl 91 _ _ rfl (n : Int) rfl rfl Tryz.underlying91 _ 1 qDY rfl (by decide) (by decide) false (ok := fun q => w2.heap.size ≤ q) (okp := fun _ => False) rfl (fun _ h => h.elim) (nl _) (by omega) (by omega) (Below.refl _ _) (nl _) ?_; intro vD w3 hRD _ hg3 _; rw [Int.toNat_natCast] at hRD; obtain ⟨D, cD, rfl, hD1, hD2, _⟩ := Kd.R_form hRD (by simpa using hnp.1); rw [List.length_replicate] at hRD; have hb3 : Below w2.heap.size w2 w3 := (Below.refl _ _).grown hg3 (nl _) (by simp); have HX3 := am (HX2.out.below hb3); have HB3 := am (HB2.out.trans (hb3.mono HB2.out.size)); have HRM3 := am (Kd.R_below HRM.out hb3); have HRD := am hRD; clear hRD hg3 hb3)
   | (at_make; refine Kd.N_make k117 (w0 := w3) 0 117 rfl (N' := 34) rfl 92 _ _ rfl (n : Int) rfl rfl Tryz.underlying92 _ 48 vinfo_rshape rfl (by decide) (by decide) z117 (ok := fun q => w3.heap.size ≤ q) (FK_rzero _) (fun _ h => h.elim) (nl _) (by omega) (by omega) (Below.refl _ _) (Nat.zero_le _) ?_; intro vS w4 hNS _ hg4 hvS; rw [Int.toNat_natCast] at hNS; obtain ⟨S, cS, rfl, _, hS2, _⟩ := Kd.N_form hNS (by simpa using hnp.1); rw [List.length_replicate] at hNS; have hS1 : w3.heap.size ≤ S := (by { obtain ⟨b, hb, hl⟩ := hvS; simp [Value.ownBlock] at hb; omega }); have hb4 : Below w3.heap.size w3 w4 := (Below.refl _ _).grown hg4 (nl _) (by simp); have HX4 := am (HX3.out.below hb4); have HB4 := am (HB3.out.trans (hb4.mono HB3.out.size)); have HRM4 := am (Kd.R_below HRM3.out hb4); have HRD4 := am (Kd.R_below HRD.out hb4); have HNS := am hNS; clear hNS hg4 hvS hb4))
 obtain ⟨m0, m0f⟩ := Kd.R_celln (α := Bool) false HRM4.out 0 (Int.le_refl 0) (by omega)
 have m0' : w4.cell? ⟨M, 0, none⟩ = some (.bool (rdOf false (List.replicate n false) 0)) := m0
 have m0f' : w4.frozen? ⟨M, 0, none⟩ = false := m0f
 have hMD : M < D := by omega
 have hDS : D < S := by omega
 have hWM : W.heap.size + 1 < M := Nat.lt_of_lt_of_le HX.out.lt hM1
 clear m0 m0f
 go_upto_region 9 with fail
 obtain ⟨w5, hw5⟩ : ∃ w5, w5 = w4.setCell ⟨M, 0, none⟩ (.bool true) := ⟨_, rfl⟩
 have HM5 : qAd (Kd.R Kd.bool 4 w5 0 (fun q => q = M) (.slice (some ⟨M, 0, none⟩) n cM) ((List.replicate n false).set 0 true)) := ⟨hw5 ▸ (Kd.R_putg (α := Bool) (Kd.R_mono (Kd.R_tight rfl (Kd.R_lower HRM4.out (Nat.zero_le _))) (fun k hk => by simpa [Value.ownBlock] using hk)) 0 true).1⟩
 have HD5 : qAd (Kd.R Kd.bool 4 w5 0 (fun q => q = D) (.slice (some ⟨D, 0, none⟩) n cD) (List.replicate n false)) := ⟨hw5 ▸ Kd.R_far (p := ⟨M, 0, none⟩) (Kd.R_mono (Kd.R_tight rfl (Kd.R_lower HRD4.out (Nat.zero_le _))) (fun k hk => by simpa [Value.ownBlock] using hk)) (fun k hk => by rw [hk]; exact Nat.ne_of_gt hMD) _⟩
 have HS5 : qAd (Kd.N k117 117 w5 0 (fun q => q ≠ M ∧ q ≠ D) (.slice (some ⟨S, 0, none⟩) n cS) (List.replicate n z117)) := ⟨hw5 ▸ Kd.N_far (p := ⟨M, 0, none⟩) (Kd.N_mono HNS.out (fun k hk => show k ≠ M ∧ k ≠ D from ⟨by omega, by omega⟩)) (fun k hk => hk.1) _⟩
 have HB5 : qAd (Below W.heap.size W w5) := ⟨hw5 ▸ HB4.out.setCell (show W.heap.size ≤ M by omega) _⟩
 have HX5 : qAd (FB W.heap.size #[.slice A1 p1 c1, .int .i64 res, .slice A2 l1 c2, .slice A3 n c3] #[.slice A4 f1 c4, .slice A5 v1 c5] w5) := ⟨hw5 ▸ ⟨(Below.heap_setCell _ _ _ _ (show W.heap.size ≠ M by omega)).trans HX4.out.1, (Below.heap_setCell _ _ _ _ (show W.heap.size + 1 ≠ M by omega)).trans HX4.out.2⟩⟩
 have hz5 : w5.heap.size = w4.heap.size := by rw [hw5]; simp [World.setCell]
 have HT5 : qAd (S < w5.heap.size) := ⟨by omega⟩
 rw [← hw5]
 clear hw5 hz5 m0' m0f' HNS HRD4 HRM4 HRD HRM3 HRM HX HX2 HX3 HX4 HB HB2 HB3 HB4
 have HSM5 : qAd (∀ y ∈ List.replicate n z117, qDa y) := ⟨fun y hy => by
   rw [List.mem_replicate] at hy
   rw [hy.2]
   exact ⟨Nat.zero_le _, Nat.zero_le _, fun y hy => by cases hy⟩⟩
 have HST : qAd (qDl ls vs fs res code (n + 1) ((List.replicate n false).set 0 true) (List.replicate n false) (List.replicate n z117) = RR) := ⟨HR.out.symm⟩
 go_loopg [14, 15] (n + 1) (fun gg _ _ wr => ∃ (met dn : List Bool) (shs : List S117), qDE dn < gg ∧ qAd (qDl ls vs fs res code gg met dn shs = RR) ∧ qAd (∀ y ∈ shs, qDa y) ∧ qAd (Kd.R Kd.bool 4 wr 0 (fun q => q = M) (.slice (some ⟨M, 0, none⟩) n cM) met) ∧ qAd (Kd.R Kd.bool 4 wr 0 (fun q => q = D) (.slice (some ⟨D, 0, none⟩) n cD) dn) ∧ qAd (Kd.N k117 117 wr 0 (fun q => q ≠ M ∧ q ≠ D) (.slice (some ⟨S, 0, none⟩) n cS) shs) ∧ qAd (Below W.heap.size W wr) ∧ qAd (S < wr.heap.size) ∧ qAd (FB W.heap.size #[.slice A1 p1 c1, .int .i64 res, .slice A2 l1 c2, .slice A3 n c3] #[.slice A4 f1 c4, .slice A5 v1 c5] wr))
 case atStart => exact ⟨_, _, _, by rw [qDi]; omega, HST, HSM5, HM5, HD5, HS5, HB5, HT5, HX5⟩
 case round =>
  obtain ⟨met, dn, shs, hgu, HL1, HSM, HM, HD, HS, HB, HT, HX⟩ := hrel
  obtain ⟨g, rfl⟩ : ∃ g, gk = g + 1 := ⟨gk - 1, by omega⟩
  obtain ⟨wo, hwo⟩ := eX wr
  rw [← hwo] at HM HD HS HB HT HX ⊢
  clear hwo HM5 HD5 HS5 HB5 HT5 HX5 HST HSM5 HR
  have HML : qAd (met.length = n) := ⟨(Kd.R_reads' HM.out).1.symm⟩
  have HDL : qAd (dn.length = n) := ⟨(Kd.R_reads' HD.out).1.symm⟩
  have HSL : qAd (shs.length = n) := ⟨(Kd.N_reads' HS.out).1.symm⟩
  go_wp2_with fail
  go_loopg [14] n (fun gg s14 wy => ∃ kk : Nat, kk ≤ n ∧ n - kk ≤ gg ∧ s14 = .int .i64 kk ∧ qAd (qCO kk (met.drop kk) (dn.drop kk) = qCO 0 met dn) ∧ wo = wy)
  case atStart => exact ⟨0, Nat.zero_le _, by omega, rfl, ⟨rfl⟩, rfl⟩
  case round =>
   obtain ⟨kk, hkk, hg, rfl, HNX, rfl⟩ := hrel
   by_cases hlt : kk < n
   rotate_left
   ·have e0 : n = kk := by omega
    subst e0
    have hnot : ¬ (n : Int) < (n : Int) := by omega
    have HRL : qAd (RR = (some (met, shs), 0, 0)) := ⟨by
      have h1 := HNX.out
      rw [List.drop_of_length_le (by have := HML.out; omega)] at h1
      rw [← HL1.out]
      unfold qDl
      rw [← h1]
      rfl⟩
    go_wp2_with fail
    refine bodyPost_ret (qCo rfl _ _ _) rfl ?_
    refine ⟨_, _, by rw [HRL.out]; rfl, fun m s h => ?_, HB.out⟩
    rw [HRL.out] at h
    injection h with h
    injection h with h1 h2
    subst h1 h2
    exact ⟨Kd.R_mono HM.out (fun _ _ => trivial), Kd.N_mono HS.out (fun _ _ => trivial)⟩
   have hltz : (kk : Int) < (n : Int) := by omega
   have h0 : (0 : Int) ≤ (kk : Int) := by omega
   obtain ⟨x0, x0f⟩ := Kd.R_celln (α := Bool) false HM.out (kk : Int) h0 hltz
   obtain ⟨y0, y0f⟩ := Kd.R_celln (α := Bool) false HD.out (kk : Int) h0 hltz
   rw [Int.toNat_natCast] at x0 x0f y0 y0f
   obtain ⟨mb, hmb⟩ : ∃ b, b = rdOf false met (kk : Int) := ⟨_, rfl⟩
   obtain ⟨db, hdb⟩ : ∃ b, b = rdOf false dn (kk : Int) := ⟨_, rfl⟩
   rw [← hmb] at x0
   rw [← hdb] at y0
   have hmx : met[kk]? = some mb := by rw [hmb]; exact qC0 met false kk (by have := HML.out; omega)
   have hdx : dn[kk]? = some db := by rw [hdb]; exact qC0 dn false kk (by have := HDL.out; omega)
   have x0' : wo.cell? ⟨M, kk, none⟩ = some (.bool mb) := x0
   have y0' : wo.cell? ⟨D, kk, none⟩ = some (.bool db) := y0
   have hnx := HNX.out
   rw [List.drop_eq_getElem_cons (show kk < met.length by have := HML.out; omega), List.drop_eq_getElem_cons (show kk < dn.length by have := HDL.out; omega), nextR_cons] at hnx
   rw [List.getElem?_eq_getElem (by have := HML.out; omega)] at hmx
   rw [List.getElem?_eq_getElem (by have := HDL.out; omega)] at hdx
   injection hmx with hmx
   injection hdx with hdx
   rw [hmx, hdx] at hnx
   have HDX : qAd (dn[kk]? = some db) := ⟨by rw [List.getElem?_eq_getElem (by have := HDL.out; omega), hdx]⟩
   clear x0 y0 hmx hdx hmb hdb
   cases mb with
   | false =>
    have HN2 : qAd (qCO (kk + 1) (met.drop (kk + 1)) (dn.drop (kk + 1)) = qCO 0 met dn) := ⟨by simpa using hnx⟩
    clear hnx
    go_wp2_with fail
    go_roundg (n - (kk + 1))
    case measure => omega
    case rel => exact ⟨kk + 1, by omega, by omega, by go_num, HN2, rfl⟩
   | true =>
    cases db with
    | true =>
     have HN2 : qAd (qCO (kk + 1) (met.drop (kk + 1)) (dn.drop (kk + 1)) = qCO 0 met dn) := ⟨by simpa using hnx⟩
     clear hnx
     go_wp2_with fail
     go_roundg (n - (kk + 1))
     case measure => omega
     case rel => exact ⟨kk + 1, by omega, by omega, by go_num, HN2, rfl⟩
    | false =>
     have HN2 : qAd (qCO 0 met dn = some kk) := ⟨by simpa using hnx.symm⟩
     clear hnx
     have hne : ((kk : Int) == (n : Int)) = false := bn (by omega)
     go_upto_region 15 with fail
     obtain ⟨wd, hwd⟩ : ∃ wd, wd = wo.setCell ⟨D, kk, none⟩ (.bool true) := ⟨_, rfl⟩
     have HMd : qAd (Kd.R Kd.bool 4 wd 0 (fun q => q = M) (.slice (some ⟨M, 0, none⟩) n cM) met) := ⟨hwd ▸ Kd.R_far (p := ⟨D, kk, none⟩) HM.out (fun k hk => by rw [hk]; exact Nat.ne_of_lt hMD) _⟩
     have HDd : qAd (Kd.R Kd.bool 4 wd 0 (fun q => q = D) (.slice (some ⟨D, 0, none⟩) n cD) (dn.set kk true)) := ⟨by
       have h_ := (Kd.R_putg (α := Bool) HD.out (kk : Int) true).1
       rw [Int.toNat_natCast] at h_
       exact hwd ▸ h_⟩
     have HSd : qAd (Kd.N k117 117 wd 0 (fun q => q ≠ M ∧ q ≠ D) (.slice (some ⟨S, 0, none⟩) n cS) shs) := ⟨hwd ▸ Kd.N_far (p := ⟨D, kk, none⟩) HS.out (fun k hk => hk.2) _⟩
     have HBd : qAd (Below W.heap.size W wd) := ⟨hwd ▸ HB.out.setCell (show W.heap.size ≤ D by omega) _⟩
     have HXd : qAd (FB W.heap.size #[.slice A1 p1 c1, .int .i64 res, .slice A2 l1 c2, .slice A3 n c3] #[.slice A4 f1 c4, .slice A5 v1 c5] wd) := ⟨hwd ▸ ⟨(Below.heap_setCell _ _ _ _ (show W.heap.size ≠ D by omega)).trans HX.out.1, (Below.heap_setCell _ _ _ _ (show W.heap.size + 1 ≠ D by omega)).trans HX.out.2⟩⟩
     have hzd : wd.heap.size = wo.heap.size := by rw [hwd]; simp [World.setCell]
     have HTd : qAd (S < wd.heap.size) := ⟨by have := HT.out; omega⟩
     rw [← hwd]
     clear hwd hzd HM HD HS HB HX HT x0' y0' x0f y0f HNX
     obtain ⟨E1, d1, E2, d2, y0, y1, yl1, yl2, Y1, Y2, _⟩ := qEm HSd.out (kk : Int) h0 hltz
     obtain ⟨ad, ea, k0, k1, k2, k3⟩ := qCr (Kd.F_now (Kd.F_below HC.out HBd.out)) (kk : Int) h0 hltz
     subst ea
     obtain ⟨ad', ea', k0', _⟩ := qCr (Kd.F_now HC.out) (kk : Int) h0 hltz
     obtain rfl := Option.some.inj ea'
     rw [Int.toNat_natCast] at k0'
     have HAD : qAd ((ad.add (kk * 4)).block < W.heap.size) := ⟨bl k0'⟩
     clear k0' ea'
     rw [Int.toNat_natCast] at k0 k1 k2 k3 y0 y1
     obtain ⟨sh, hsh⟩ : ∃ x, x = qAM shs (kk : Int) := ⟨_, rfl⟩
     obtain ⟨xi, hxi⟩ : ∃ x, x = qA3 code (kk : Int) := ⟨_, rfl⟩
     rw [← hsh] at y0 y1 yl1 yl2 Y1 Y2
     rw [← hxi] at k0 k1 k2 k3
     have hxm : xi ∈ code := by
      rw [hxi]; unfold qA3
      rw [List.getD_eq_getElem?_getD, List.getElem?_eq_getElem (by have := HN.out; omega)]; exact List.getElem_mem _
     have hsm : sh ∈ shs := by
      rw [hsh]; unfold qAM
      rw [List.getD_eq_getElem?_getD, List.getElem?_eq_getElem (by have := HSL.out; omega)]; exact List.getElem_mem _
     have hss := HSM.out sh hsm
     have hxo := hnp.2.2 xi hxm
     obtain ⟨R, hR⟩ := eX (qAP ls vs fs res xi.f0 xi.f1 xi.f2.f0 sh.f0 sh.f1)
     obtain ⟨q0, hq0⟩ := eX xi.f0
     obtain ⟨q1, hq1⟩ := eX xi.f1
     obtain ⟨q2, hq2⟩ := eX xi.f2.f0
     obtain ⟨q3, hq3⟩ := eX xi.f2.f1
     rw [← hq0] at k0 hxo
     rw [← hq1] at k1 hxo
     rw [← hq2] at k2
     rw [← hq3] at k3
     rw [← hq0, ← hq1, ← hq2] at hR
     obtain ⟨e1, he1⟩ := eX sh.f0.length
     obtain ⟨e2, he2⟩ := eX sh.f1.length
     have HSTEP : qAd (∀ W1, Below wd.heap.size wd W1 → Calls Tryz.prog 67 #[.agg #[.slice A1 p1 c1, .int .i64 res, .slice A2 l1 c2, .slice (some ad) n c3], .agg #[.slice A4 f1 c4, .slice A5 v1 c5], .agg #[.int .i64 q0, .int .i64 q1, .int .i64 q2, .int .u64 q3], .agg #[.slice E1 e1 d1, .slice E2 e2 d2]] W1 (qBh W1 (fun q => q ≠ M ∧ q ≠ D ∧ q ≠ S ∧ (wd.heap.size < W1.heap.size → q ≠ wd.heap.size)) R)) := ⟨fun W1 hW1 => by
       have hBW := HBd.out.trans (hW1.mono HBd.out.size)
       have hF : ∀ {α : Type} {d : Kd α} {A : Option Addr} {m : Nat} {xs : List α}, Kd.F d W (fun k => okF k ∧ k < W.heap.size) A m xs → Kd.F d W1 (fun q => q ≠ M ∧ q ≠ D ∧ q ≠ S ∧ (wd.heap.size < W1.heap.size → q ≠ wd.heap.size)) A m xs := fun h => Kd.F_mono (Kd.F_below h hBW) (fun k hk => ⟨by have := hk.2; omega, by have := hk.2; omega, by have := hk.2; omega, fun _ => by have := hk.2; have := HBd.out.size; omega⟩)
       have hN : ∀ {α : Type} {d : Kd α} {A : Option Addr} {m : Nat} {xs : List α}, Kd.F d wd (fun k => (k ≠ M ∧ k ≠ D) ∧ k ≠ S) A m xs → Kd.F d W1 (fun q => q ≠ M ∧ q ≠ D ∧ q ≠ S ∧ (wd.heap.size < W1.heap.size → q ≠ wd.heap.size)) A m xs := fun h => Kd.F_mono (Kd.F_below (Kd.F_bound h) hW1) (fun k hk => ⟨hk.1.1.1, hk.1.1.2, hk.1.2, fun _ => by have := hk.2; omega⟩)
       rw [hR, HLL.out, HFF.out, HVV.out, he1, he2]
       exact step_any q0 q1 q2 q3 A1 A2 (some ad) A4 A5 E1 E2 p1 c1 c2 n c3 c4 c5 d1 d2 res (hF HL.out) HZ.out.1 (hF HF.out) HZ.out.2.1 (hF HV.out) HZ.out.2.2.1 (hN Y1) yl1 (hN Y2) yl2 hss.1 HZ.out.2.2.2.1 HZ.out.2.2.2.2 hss.2.1 (fun k hk => ⟨by have := HTd.out; have := hW1.size; omega, by have := HTd.out; have := hW1.size; omega, by have := HTd.out; have := hW1.size; omega, fun h_ => by omega⟩) HFS.out hxo.2.2 ⟨hxo.1, hxo.2.1⟩⟩
     rw [← he1] at y0
     rw [← he2] at y1
     have HR2 : qAd (RR = if (qBS n kk q1 R met shs).1 = 0 then qDl ls vs fs res code g (qBS n kk q1 R met shs).2.1 (dn.set kk true) (qBS n kk q1 R met shs).2.2 else (none, (kk : Int), (qBS n kk q1 R met shs).1)) := ⟨by
       rw [← HL1.out]
       conv => lhs; unfold qDl
       rw [HN2.out]
       simp only
       rw [← hxi, ← hsh, ← hq0, ← hq1, ← hq2, ← hR, ← HN.out]⟩
     have HRS : qAd ((∀ y ∈ R.f3.f1, y.f1.length ≤ 2000000) ∧ ∀ y ∈ R.f4.f1, y.f1.length ≤ 2000000) := ⟨by rw [hR]; exact stepR_tries hss.1 hss.2.2⟩
     clear HL1 hR hxi hsh hq0 hq1 hq2 hq3 he1 he2 Y1 Y2 yl1 yl2 hxm hsm hss
     have bf0 := (qAa HXd.out.1 0).trans rfl
     have bf1 := (qAa HXd.out.1 1).trans rfl
     have bf2 := (qAa HXd.out.1 2).trans rfl
     have bf3 := (qAa HXd.out.1 3).trans rfl
     have bp0 := (qAa HXd.out.2 0).trans rfl
     have bp1 := (qAa HXd.out.2 1).trans rfl
     have HSTd : qAd (FoSt W M D S n cM cD cS #[.slice A1 p1 c1, .int .i64 res, .slice A2 l1 c2, .slice (some ad) n c3] #[.slice A4 f1 c4, .slice A5 v1 c5] met (dn.set kk true) shs wd) := ⟨⟨HMd.out, HDd.out, HSd.out, HBd.out, HTd.out, HXd.out⟩⟩
     go_cut [15] from 37 to 150 (fun s15 wx => ∃ (gX : Nat) (D3 D4 D5 D6 : Option Addr) (d3 d4 d5 d6 : Nat), s15 = .pointer (some ⟨gX, 0, none⟩) ∧ qAd (FoSt W M D S n cM cD cS #[.slice A1 p1 c1, .int .i64 res, .slice A2 l1 c2, .slice (some ad) n c3] #[.slice A4 f1 c4, .slice A5 v1 c5] met (dn.set kk true) shs wx) ∧ qAd (XB M D S R gX D3 D4 D5 D6 d3 d4 d5 d6 wx) ∧ qAd (wx.cell? ⟨(ad.add (kk * 4)).block, (ad.add (kk * 4)).off + 1, none⟩ = some (.int .i64 q1)))
     case first =>
      have nbf0 : qAd ((Addr.block ⟨W.heap.size, 0, none⟩) ≠ wd.heap.size) := ⟨Nat.ne_of_lt (bl bf0)⟩
      have nbf1 : qAd ((Addr.block ⟨W.heap.size, 1, none⟩) ≠ wd.heap.size) := ⟨Nat.ne_of_lt (bl bf1)⟩
      have nbf2 : qAd ((Addr.block ⟨W.heap.size, 2, none⟩) ≠ wd.heap.size) := ⟨Nat.ne_of_lt (bl bf2)⟩
      have nbf3 : qAd ((Addr.block ⟨W.heap.size, 3, none⟩) ≠ wd.heap.size) := ⟨Nat.ne_of_lt (bl bf3)⟩
      have nbp0 : qAd ((Addr.block ⟨W.heap.size + 1, 0, none⟩) ≠ wd.heap.size) := ⟨Nat.ne_of_lt (bl bp0)⟩
      have nbp1 : qAd ((Addr.block ⟨W.heap.size + 1, 1, none⟩) ≠ wd.heap.size) := ⟨Nat.ne_of_lt (bl bp1)⟩
      have nk0 : qAd ((Addr.block (ad.add (kk * 4))) ≠ wd.heap.size) := ⟨Nat.ne_of_lt (bl k0)⟩
      have nk1 : qAd ((Addr.block ⟨(ad.add (kk * 4)).block, (ad.add (kk * 4)).off + 1, none⟩) ≠ wd.heap.size) := ⟨Nat.ne_of_lt (bl k1)⟩
      have nk2 : qAd ((Addr.block ⟨(ad.add (kk * 4)).block, (ad.add (kk * 4)).off + 2, none⟩) ≠ wd.heap.size) := ⟨Nat.ne_of_lt (bl k2)⟩
      have nk3 : qAd ((Addr.block ⟨(ad.add (kk * 4)).block, (ad.add (kk * 4)).off + 3, none⟩) ≠ wd.heap.size) := ⟨Nat.ne_of_lt (bl k3)⟩
      have ny0 : qAd ((Addr.block ⟨S, kk * 2, none⟩) ≠ wd.heap.size) := ⟨Nat.ne_of_lt (bl y0)⟩
      have ny1 : qAd ((Addr.block ⟨S, kk * 2 + 1, none⟩) ≠ wd.heap.size) := ⟨Nat.ne_of_lt (bl y1)⟩
      have HK1 : qAd (wd.cell? ⟨(ad.add (kk * 4)).block, (ad.add (kk * 4)).off + 1, none⟩ = some (.int .i64 q1)) := ⟨k1⟩
      refine wp_region_noPanic ?_
      refine wp_region_held_drew (S := fun W' => W'.cell? ⟨W.heap.size, 0, none⟩ = some (.slice A1 p1 c1) ∧ W'.cell? ⟨W.heap.size, 1, none⟩ = some (.int .i64 res) ∧ W'.cell? ⟨W.heap.size, 2, none⟩ = some (.slice A2 l1 c2) ∧ W'.cell? ⟨W.heap.size, 3, none⟩ = some (.slice (some ad) n c3) ∧ W'.cell? ⟨W.heap.size + 1, 0, none⟩ = some (.slice A4 f1 c4) ∧ W'.cell? ⟨W.heap.size + 1, 1, none⟩ = some (.slice A5 v1 c5) ∧ W'.cell? (ad.add (kk * 4)) = some (.int .i64 q0) ∧ W'.cell? ⟨(ad.add (kk * 4)).block, (ad.add (kk * 4)).off + 1, none⟩ = some (.int .i64 q1) ∧ W'.cell? ⟨(ad.add (kk * 4)).block, (ad.add (kk * 4)).off + 2, none⟩ = some (.int .i64 q2) ∧ W'.cell? ⟨(ad.add (kk * 4)).block, (ad.add (kk * 4)).off + 3, none⟩ = some (.int .u64 q3) ∧ W'.cell? ⟨S, kk * 2, none⟩ = some (.slice E1 e1 d1) ∧ W'.cell? ⟨S, kk * 2 + 1, none⟩ = some (.slice E2 e2 d2)) (by kernel_rfl) ⟨bf0, bf1, bf2, bf3, bp0, bp1, k0, k1, k2, k3, y0, y1⟩ (fun hHeld => ?_)
      refine tH 0 (v := ?_) rfl (.inl ⟨by rfl, ?_⟩) ?_
      rotate_left
      ·intro w hSw; (try dsimp only at hSw); go_simp <;> with_reducible rfl
      simp only [Act.put, zA, zB, zC, zD, zE, zF]
      refine tH 1 (v := ?_) rfl (.inl ⟨by rfl, ?_⟩) ?_
      rotate_left
      ·intro w hSw; (try dsimp only at hSw); go_simp <;> with_reducible rfl
      simp only [Act.put, zA, zB, zC, zD, zE, zF]
      refine tH 2 (v := ?_) rfl (.inl ⟨by rfl, ?_⟩) ?_
      rotate_left
      ·intro w hSw; (try dsimp only at hSw); go_simp <;> with_reducible rfl
      simp only [Act.put, zA, zB, zC, zD, zE, zF]
      refine tH 3 (v := ?_) rfl (.inl ⟨by rfl, ?_⟩) ?_
      rotate_left
      ·intro w hSw; (try dsimp only at hSw); go_simp <;> with_reducible rfl
      simp only [Act.put, zA, zB, zC, zD, zE, zF]
      refine tH 4 (v := ?_) rfl (.inl ⟨by rfl, ?_⟩) ?_
      rotate_left
      ·intro w hSw; (try dsimp only at hSw); go_simp <;> with_reducible rfl
      simp only [Act.put, zA, zB, zC, zD, zE, zF]
      refine tH 5 (v := ?_) rfl (.inl ⟨by rfl, ?_⟩) ?_
      rotate_left
      ·intro w hSw; (try dsimp only at hSw); go_simp <;> with_reducible rfl
      simp only [Act.put, zA, zB, zC, zD, zE, zF]
      refine tH 6 (v := ?_) rfl (.inl ⟨by rfl, ?_⟩) ?_
      rotate_left
      ·intro w hSw; (try dsimp only at hSw); go_simp <;> with_reducible rfl
      simp only [Act.put, zA, zB, zC, zD, zE, zF]
      refine tH 7 (v := ?_) rfl (.inl ⟨by rfl, ?_⟩) ?_
      rotate_left
      ·intro w hSw; (try dsimp only at hSw); go_simp <;> with_reducible rfl
      simp only [Act.put, zA, zB, zC, zD, zE, zF]
      refine tH 8 (v := ?_) rfl (.inl ⟨by rfl, ?_⟩) ?_
      rotate_left
      ·intro w hSw; (try dsimp only at hSw); go_simp <;> with_reducible rfl
      simp only [Act.put, zA, zB, zC, zD, zE, zF]
      refine tH 9 (v := ?_) rfl (.inl ⟨by rfl, ?_⟩) ?_
      rotate_left
      ·intro w hSw; (try dsimp only at hSw); go_simp <;> with_reducible rfl
      simp only [Act.put, zA, zB, zC, zD, zE, zF]
      refine tH 10 (v := ?_) rfl (.inl ⟨by rfl, ?_⟩) ?_
      rotate_left
      ·intro w hSw; (try dsimp only at hSw); go_simp <;> with_reducible rfl
      simp only [Act.put, zA, zB, zC, zD, zE, zF]
      refine wpAnyH_ready (rs := [11, 12]) (by kernel_rfl) (by simp) ?_
      refine AllReadyH.cons (o := _) rfl (fun K hK => ?_) (AllReadyH.cons (o := _) rfl (fun K hK => ?_) AllReadyH.nil)
      focus
       go_simp
       go_at_call 67
       refine (HSTEP.out wd.drew (Below.refl wd.heap.size wd).drew).mono ?_
       rintro e w1 ⟨cs, rfl, hK, hb1⟩
       obtain ⟨D3, d3, D4, d4, D5, d5, D6, d6, rfl, l3, g3, l4, g4, l5, g5, l6, g6⟩ := qDL hK
       obtain ⟨m3, hm3⟩ := eX R.f3.f0.length
       obtain ⟨m4, hm4⟩ := eX R.f3.f1.length
       obtain ⟨m5, hm5⟩ := eX R.f4.f0.length
       obtain ⟨m6, hm6⟩ := eX R.f4.f1.length
       rw [← hm3] at l3 g3 ⊢
       rw [← hm4] at l4 g4 ⊢
       rw [← hm5] at l5 g5 ⊢
       rw [← hm6] at l6 g6 ⊢
       obtain ⟨b0, hb0⟩ := eX R.f0
       obtain ⟨b1, hb1'⟩ : ∃ b, b = R.f1 := ⟨_, rfl⟩
       obtain ⟨b2, hb2⟩ := eX R.f2
       rw [← hb0, ← hb1', ← hb2]
       have Q0 := am hb0
       have Q1 := am hb1'
       have Q2 := am hb2
       have G3 := am g3
       have G4 := am g4
       have G5 := am g5
       have G6 := am g6
       have L3 := am l3
       have L4 := am l4
       have L5 := am l5
       have L6 := am l6
       have M3 := am hm3
       have M4 := am hm4
       have M5 := am hm5
       have M6 := am hm6
       have hbb : Below wd.heap.size wd w1 := (Below.refl wd.heap.size wd).drew.trans hb1
       replace G3 := am (Kd.F_mono G3.out (fun k hk => (show k ≠ M ∧ k ≠ D ∧ k ≠ S from ⟨hk.1, hk.2.1, hk.2.2.1⟩)))
       replace G4 := am (Kd.F_mono G4.out (fun k hk => (show k ≠ M ∧ k ≠ D ∧ k ≠ S from ⟨hk.1, hk.2.1, hk.2.2.1⟩)))
       replace G5 := am (Kd.F_mono G5.out (fun k hk => (show k ≠ M ∧ k ≠ D ∧ k ≠ S from ⟨hk.1, hk.2.1, hk.2.2.1⟩)))
       replace G6 := am (Kd.F_mono G6.out (fun k hk => (show k ≠ M ∧ k ≠ D ∧ k ≠ S from ⟨hk.1, hk.2.1, hk.2.2.1⟩)))
       replace bf0 := (hbb.cell (bl bf0)).trans bf0
       replace bf1 := (hbb.cell (bl bf1)).trans bf1
       replace bf2 := (hbb.cell (bl bf2)).trans bf2
       replace bf3 := (hbb.cell (bl bf3)).trans bf3
       replace bp0 := (hbb.cell (bl bp0)).trans bp0
       replace bp1 := (hbb.cell (bl bp1)).trans bp1
       replace k0 := (hbb.cell (bl k0)).trans k0
       replace k1 := (hbb.cell (bl k1)).trans k1
       replace k2 := (hbb.cell (bl k2)).trans k2
       replace k3 := (hbb.cell (bl k3)).trans k3
       replace y0 := (hbb.cell (bl y0)).trans y0
       replace y1 := (hbb.cell (bl y1)).trans y1
       have HBW := am hbb
       clear hK g3 g4 g5 g6 l3 l4 l5 l6 hm3 hm4 hm5 hm6 hb0 hb1' hb2
       clear hbb hb1
       go_wp2_with fail
       refine hK.out _ _ ⟨bf0, bf1, bf2, bf3, bp0, bp1, k0, k1, k2, k3, y0, y1⟩ (fun hHeld => ?_)
       clear hK K
       try simp only [Act.put, zA, zB, zC, zD, zE, zF]
       refine wpAnyH_ready (rs := [12]) (by kernel_rfl) (by simp) ?_
       refine AllReadyH.cons (o := _) rfl (fun K hK => ?_) AllReadyH.nil
       go_simp
       refine hK.out _ _ ⟨qA1 _ bf0, qA1 _ bf1, qA1 _ bf2, qA1 _ bf3, qA1 _ bp0, qA1 _ bp1, qA1 _ k0, qA1 _ k1, qA1 _ k2, qA1 _ k3, qA1 _ y0, qA1 _ y1⟩ (fun hHeld => ?_)
       clear hK K
       try simp only [Act.put, zA, zB, zC, zD, zE, zF]
       refine wpAnyH_ready (rs := [13]) (by kernel_rfl) (by simp) ?_
       refine AllReadyH.cons (o := _) rfl (fun K hK => ?_) AllReadyH.nil
       go_simp
       refine hK.out _ _ ⟨qA1 _ bf0, qA1 _ bf1, qA1 _ bf2, qA1 _ bf3, qA1 _ bp0, qA1 _ bp1, qA1 _ k0, qA1 _ k1, qA1 _ k2, qA1 _ k3, qA1 _ y0, qA1 _ y1⟩ (fun hHeld => ?_)
       clear hK K
       try simp only [Act.put, zA, zB, zC, zD, zE, zF]
       refine wpAnyH_done (by kernel_rfl) ?_ _
       refine NoPanic.normal ?_
       obtain ⟨w2, hw2⟩ := eX (w1.alloc (.cells #[.bool b0, .bool b1, .bool b2, .slice D3 m3 d3, .slice D4 m4 d4, .slice D5 m5 d5, .slice D6 m6 d6] 138))
       have hbw : Below wd.heap.size wd w2 := hw2 ▸ HBW.out.alloc HBW.out.size _
       obtain ⟨gX, hgX⟩ := eX w1.heap.size
       have bX : w2.heap[gX]? = some (.cells #[.bool b0, .bool b1, .bool b2, .slice D3 m3 d3, .slice D4 m4 d4, .slice D5 m5 d5, .slice D6 m6 d6] 138 (0, 0)) := by rw [hw2, hgX]; exact qBb w1 _
       have hgl : wd.heap.size ≤ gX := by rw [hgX]; exact HBW.out.size
       replace G3 := am (Kd.F_alloc G3.out (.cells #[.bool b0, .bool b1, .bool b2, .slice D3 m3 d3, .slice D4 m4 d4, .slice D5 m5 d5, .slice D6 m6 d6] 138))
       replace G4 := am (Kd.F_alloc G4.out (.cells #[.bool b0, .bool b1, .bool b2, .slice D3 m3 d3, .slice D4 m4 d4, .slice D5 m5 d5, .slice D6 m6 d6] 138))
       replace G5 := am (Kd.F_alloc G5.out (.cells #[.bool b0, .bool b1, .bool b2, .slice D3 m3 d3, .slice D4 m4 d4, .slice D5 m5 d5, .slice D6 m6 d6] 138))
       replace G6 := am (Kd.F_alloc G6.out (.cells #[.bool b0, .bool b1, .bool b2, .slice D3 m3 d3, .slice D4 m4 d4, .slice D5 m5 d5, .slice D6 m6 d6] 138))
       rw [← hw2] at G3 G4 G5 G6 ⊢
       rw [← hgX]
       clear hw2 hgX HBW hHeld
       clear bf0 bf1 bf2 bf3 bp0 bp1 k0 k1 k2 k3 y0 y1
       rw [Q0.out, Q1.out, Q2.out, M3.out, M4.out, M5.out, M6.out] at bX
       have g3 := G3.out
       have g4 := G4.out
       have g5 := G5.out
       have g6 := G6.out
       have l3 := L3.out
       have l4 := L4.out
       have l5 := L5.out
       have l6 := L6.out
       rw [M3.out] at g3 l3
       rw [M4.out] at g4 l4
       rw [M5.out] at g5 l5
       rw [M6.out] at g6 l6
       have hST := HSTd.out.below hbw
       have hXB : XB M D S R gX D3 D4 D5 D6 d3 d4 d5 d6 w2 := ⟨bX, g3, g4, g5, g6, l3, l4, l5, l6, by have := HTd.out; omega⟩
       have hKK := (hbw.cell (bl HK1.out)).trans HK1.out
       clear bX g3 g4 g5 g6 l3 l4 l5 l6 hbw hgl
       go_wp2_with fail
       go_meet
       case rel => exact ⟨gX, D3, D4, D5, D6, d3, d4, d5, d6, rfl, ⟨hST⟩, ⟨hXB⟩, ⟨hKK⟩⟩
      rotate_left
      focus
       go_simp
       refine hK.out _ _ ⟨qA1 _ bf0, qA1 _ bf1, qA1 _ bf2, qA1 _ bf3, qA1 _ bp0, qA1 _ bp1, qA1 _ k0, qA1 _ k1, qA1 _ k2, qA1 _ k3, qA1 _ y0, qA1 _ y1⟩ (fun hHeld => ?_)
       clear hK K
       try simp only [Act.put, zA, zB, zC, zD, zE, zF]
       refine wpAnyH_ready (rs := [11]) (by kernel_rfl) (by simp) ?_
       refine AllReadyH.cons (o := _) rfl (fun K hK => ?_) AllReadyH.nil
       go_simp
       go_at_call 67
       refine (HSTEP.out ((wd.alloc (.cells #[.bool false, .bool false, .bool false, .slice none 0 0, .slice none 0 0, .slice none 0 0, .slice none 0 0] 138)).drew) ((Below.refl wd.heap.size wd).alloc (nl _) _).drew).mono ?_
       rintro e w1 ⟨cs, rfl, hK, hb1⟩
       obtain ⟨D3, d3, D4, d4, D5, d5, D6, d6, rfl, l3, g3, l4, g4, l5, g5, l6, g6⟩ := qDL hK
       obtain ⟨m3, hm3⟩ := eX R.f3.f0.length
       obtain ⟨m4, hm4⟩ := eX R.f3.f1.length
       obtain ⟨m5, hm5⟩ := eX R.f4.f0.length
       obtain ⟨m6, hm6⟩ := eX R.f4.f1.length
       rw [← hm3] at l3 g3 ⊢
       rw [← hm4] at l4 g4 ⊢
       rw [← hm5] at l5 g5 ⊢
       rw [← hm6] at l6 g6 ⊢
       obtain ⟨b0, hb0⟩ := eX R.f0
       obtain ⟨b1, hb1'⟩ : ∃ b, b = R.f1 := ⟨_, rfl⟩
       obtain ⟨b2, hb2⟩ := eX R.f2
       rw [← hb0, ← hb1', ← hb2]
       have Q0 := am hb0
       have Q1 := am hb1'
       have Q2 := am hb2
       have G3 := am g3
       have G4 := am g4
       have G5 := am g5
       have G6 := am g6
       have L3 := am l3
       have L4 := am l4
       have L5 := am l5
       have L6 := am l6
       have M3 := am hm3
       have M4 := am hm4
       have M5 := am hm5
       have M6 := am hm6
       have hbb : Below wd.heap.size wd w1 := ((Below.refl wd.heap.size wd).alloc (nl _) _).drew.trans (hb1.mono (by show wd.heap.size ≤ (wd.alloc _).heap.size; simp))
       have bZ : w1.heap[wd.heap.size]? = some (.cells #[.bool false, .bool false, .bool false, .slice none 0 0, .slice none 0 0, .slice none 0 0, .slice none 0 0] 138 (0, 0)) := qAk (show ((wd.alloc (.cells #[.bool false, .bool false, .bool false, .slice none 0 0, .slice none 0 0, .slice none 0 0, .slice none 0 0] 138)).drew).heap[wd.heap.size]? = some (.cells #[.bool false, .bool false, .bool false, .slice none 0 0, .slice none 0 0, .slice none 0 0, .slice none 0 0] 138 (0, 0)) from qBb wd _) hb1
       have z0 : w1.cell? ⟨wd.heap.size, 0, none⟩ = some (.bool false) := (qAa bZ 0).trans rfl
       have zf0 : w1.frozen? ⟨wd.heap.size, 0, none⟩ = false := qAb bZ 0
       have z1 : w1.cell? ⟨wd.heap.size, 1, none⟩ = some (.bool false) := (qAa bZ 1).trans rfl
       have zf1 : w1.frozen? ⟨wd.heap.size, 1, none⟩ = false := qAb bZ 1
       have z2 : w1.cell? ⟨wd.heap.size, 2, none⟩ = some (.bool false) := (qAa bZ 2).trans rfl
       have zf2 : w1.frozen? ⟨wd.heap.size, 2, none⟩ = false := qAb bZ 2
       have z3 : w1.cell? ⟨wd.heap.size, 3, none⟩ = some (.slice none 0 0) := (qAa bZ 3).trans rfl
       have zf3 : w1.frozen? ⟨wd.heap.size, 3, none⟩ = false := qAb bZ 3
       have z4 : w1.cell? ⟨wd.heap.size, 4, none⟩ = some (.slice none 0 0) := (qAa bZ 4).trans rfl
       have zf4 : w1.frozen? ⟨wd.heap.size, 4, none⟩ = false := qAb bZ 4
       have z5 : w1.cell? ⟨wd.heap.size, 5, none⟩ = some (.slice none 0 0) := (qAa bZ 5).trans rfl
       have zf5 : w1.frozen? ⟨wd.heap.size, 5, none⟩ = false := qAb bZ 5
       have z6 : w1.cell? ⟨wd.heap.size, 6, none⟩ = some (.slice none 0 0) := (qAa bZ 6).trans rfl
       have zf6 : w1.frozen? ⟨wd.heap.size, 6, none⟩ = false := qAb bZ 6
       replace bf0 := (hbb.cell (bl bf0)).trans bf0
       replace bf1 := (hbb.cell (bl bf1)).trans bf1
       replace bf2 := (hbb.cell (bl bf2)).trans bf2
       replace bf3 := (hbb.cell (bl bf3)).trans bf3
       replace bp0 := (hbb.cell (bl bp0)).trans bp0
       replace bp1 := (hbb.cell (bl bp1)).trans bp1
       replace k0 := (hbb.cell (bl k0)).trans k0
       replace k1 := (hbb.cell (bl k1)).trans k1
       replace k2 := (hbb.cell (bl k2)).trans k2
       replace k3 := (hbb.cell (bl k3)).trans k3
       replace y0 := (hbb.cell (bl y0)).trans y0
       replace y1 := (hbb.cell (bl y1)).trans y1
       have HBW := am hbb
       have HBZ := am bZ
       replace G3 := am (Kd.F_mono G3.out (fun k hk => (show k ≠ M ∧ k ≠ D ∧ k ≠ S ∧ k ≠ wd.heap.size from ⟨hk.1, hk.2.1, hk.2.2.1, hk.2.2.2 (by show wd.heap.size < (wd.alloc _).heap.size; simp)⟩)))
       replace G4 := am (Kd.F_mono G4.out (fun k hk => (show k ≠ M ∧ k ≠ D ∧ k ≠ S ∧ k ≠ wd.heap.size from ⟨hk.1, hk.2.1, hk.2.2.1, hk.2.2.2 (by show wd.heap.size < (wd.alloc _).heap.size; simp)⟩)))
       replace G5 := am (Kd.F_mono G5.out (fun k hk => (show k ≠ M ∧ k ≠ D ∧ k ≠ S ∧ k ≠ wd.heap.size from ⟨hk.1, hk.2.1, hk.2.2.1, hk.2.2.2 (by show wd.heap.size < (wd.alloc _).heap.size; simp)⟩)))
       replace G6 := am (Kd.F_mono G6.out (fun k hk => (show k ≠ M ∧ k ≠ D ∧ k ≠ S ∧ k ≠ wd.heap.size from ⟨hk.1, hk.2.1, hk.2.2.1, hk.2.2.2 (by show wd.heap.size < (wd.alloc _).heap.size; simp)⟩)))
       have hg1 : qAd (∀ k, (wd.alloc (.cells #[.bool false, .bool false, .bool false, .slice none 0 0, .slice none 0 0, .slice none 0 0, .slice none 0 0] 138)).heap.size ≤ k → k ≠ wd.heap.size) := ⟨fun k hk => by simp at hk; omega⟩
       clear hK g3 g4 g5 g6 l3 l4 l5 l6 hm3 hm4 hm5 hm6 hb0 hb1' hb2
       clear hbb hb1 bZ
       go_wp2_with fail
       refine hK.out _ _ ⟨bf0, bf1, bf2, bf3, bp0, bp1, k0, k1, k2, k3, y0, y1⟩ (fun hHeld => ?_)
       clear hK K
       try simp only [Act.put, zA, zB, zC, zD, zE, zF]
       refine wpAnyH_ready (rs := [13]) (by kernel_rfl) (by simp) ?_
       refine AllReadyH.cons (o := _) rfl (fun K hK => ?_) AllReadyH.nil
       go_simp
       refine hK.out _ _ ⟨qBY bf0 nbf0.out, qBY bf1 nbf1.out, qBY bf2 nbf2.out, qBY bf3 nbf3.out, qBY bp0 nbp0.out, qBY bp1 nbp1.out, qBY k0 nk0.out, qBY k1 nk1.out, qBY k2 nk2.out, qBY k3 nk3.out, qBY y0 ny0.out, qBY y1 ny1.out⟩ (fun hHeld => ?_)
       clear hK K
       try simp only [Act.put, zA, zB, zC, zD, zE, zF]
       refine wpAnyH_done (by kernel_rfl) ?_ _
       refine NoPanic.normal ?_
       obtain ⟨w2, hw2⟩ : ∃ w2, w2 = (((((((w1.setCell ⟨wd.heap.size, 0, none⟩ (.bool b0)).setCell ⟨wd.heap.size, 1, none⟩ (.bool b1)).setCell ⟨wd.heap.size, 2, none⟩ (.bool b2)).setCell ⟨wd.heap.size, 3, none⟩ (.slice D3 m3 d3)).setCell ⟨wd.heap.size, 4, none⟩ (.slice D4 m4 d4)).setCell ⟨wd.heap.size, 5, none⟩ (.slice D5 m5 d5)).setCell ⟨wd.heap.size, 6, none⟩ (.slice D6 m6 d6)) := ⟨_, rfl⟩
       have hbw : Below wd.heap.size wd w2 := hw2 ▸ below7 HBW.out (nl _) _ _ _ _ _ _ _
       obtain ⟨gX, hgX⟩ := eX wd.heap.size
       have bX : w2.heap[gX]? = some (.cells #[.bool b0, .bool b1, .bool b2, .slice D3 m3 d3, .slice D4 m4 d4, .slice D5 m5 d5, .slice D6 m6 d6] 138 (0, 0)) := by rw [hw2, hgX]; exact lay7 HBZ.out
       have hgl : wd.heap.size ≤ gX := by rw [hgX]; exact nl _
       replace G3 := am (F_set7 G3.out wd.heap.size (fun k hk => hk.2.2.2) (.bool b0) (.bool b1) (.bool b2) (.slice D3 m3 d3) (.slice D4 m4 d4) (.slice D5 m5 d5) (.slice D6 m6 d6))
       replace G4 := am (F_set7 G4.out wd.heap.size (fun k hk => hk.2.2.2) (.bool b0) (.bool b1) (.bool b2) (.slice D3 m3 d3) (.slice D4 m4 d4) (.slice D5 m5 d5) (.slice D6 m6 d6))
       replace G5 := am (F_set7 G5.out wd.heap.size (fun k hk => hk.2.2.2) (.bool b0) (.bool b1) (.bool b2) (.slice D3 m3 d3) (.slice D4 m4 d4) (.slice D5 m5 d5) (.slice D6 m6 d6))
       replace G6 := am (F_set7 G6.out wd.heap.size (fun k hk => hk.2.2.2) (.bool b0) (.bool b1) (.bool b2) (.slice D3 m3 d3) (.slice D4 m4 d4) (.slice D5 m5 d5) (.slice D6 m6 d6))
       replace G3 := am (Kd.F_mono G3.out (fun k hk => (show k ≠ M ∧ k ≠ D ∧ k ≠ S from ⟨hk.1, hk.2.1, hk.2.2.1⟩)))
       replace G4 := am (Kd.F_mono G4.out (fun k hk => (show k ≠ M ∧ k ≠ D ∧ k ≠ S from ⟨hk.1, hk.2.1, hk.2.2.1⟩)))
       replace G5 := am (Kd.F_mono G5.out (fun k hk => (show k ≠ M ∧ k ≠ D ∧ k ≠ S from ⟨hk.1, hk.2.1, hk.2.2.1⟩)))
       replace G6 := am (Kd.F_mono G6.out (fun k hk => (show k ≠ M ∧ k ≠ D ∧ k ≠ S from ⟨hk.1, hk.2.1, hk.2.2.1⟩)))
       rw [← hw2] at G3 G4 G5 G6 ⊢
       rw [← hgX]
       clear hw2 hgX HBW HBZ hg1 hHeld z0 zf0 z1 zf1 z2 zf2 z3 zf3 z4 zf4 z5 zf5 z6 zf6
       clear bf0 bf1 bf2 bf3 bp0 bp1 k0 k1 k2 k3 y0 y1
       rw [Q0.out, Q1.out, Q2.out, M3.out, M4.out, M5.out, M6.out] at bX
       have g3 := G3.out
       have g4 := G4.out
       have g5 := G5.out
       have g6 := G6.out
       have l3 := L3.out
       have l4 := L4.out
       have l5 := L5.out
       have l6 := L6.out
       rw [M3.out] at g3 l3
       rw [M4.out] at g4 l4
       rw [M5.out] at g5 l5
       rw [M6.out] at g6 l6
       have hST := HSTd.out.below hbw
       have hXB : XB M D S R gX D3 D4 D5 D6 d3 d4 d5 d6 w2 := ⟨bX, g3, g4, g5, g6, l3, l4, l5, l6, by have := HTd.out; omega⟩
       have hKK := (hbw.cell (bl HK1.out)).trans HK1.out
       clear bX g3 g4 g5 g6 l3 l4 l5 l6 hbw hgl
       go_wp2_with fail
       go_meet
       case rel => exact ⟨gX, D3, D4, D5, D6, d3, d4, d5, d6, rfl, ⟨hST⟩, ⟨hXB⟩, ⟨hKK⟩⟩
     case rest =>
      obtain ⟨gX, D3, D4, D5, D6, d3, d4, d5, d6, rfl, HST, HXB, HK⟩ := hcut
      obtain ⟨b0, hb0⟩ := eX R.f0
      obtain ⟨b1, hb1⟩ := eX R.f1
      obtain ⟨b2, hb2⟩ := eX R.f2
      obtain ⟨m3, hm3⟩ := eX R.f3.f0.length
      obtain ⟨m4, hm4⟩ := eX R.f3.f1.length
      obtain ⟨m5, hm5⟩ := eX R.f4.f0.length
      obtain ⟨m6, hm6⟩ := eX R.f4.f1.length
      have leafs : ∀ (er : Int), (qBS n kk q1 R met shs).1 = er → er ≠ 0 → qAd (RR = (none, (kk : Int), er)) := fun er h1 h2 => ⟨by rw [HR2.out, h1, if_neg h2]⟩
      clear HSTd HMd HDd HSd HBd HTd HXd HSTEP bf0 bf1 bf2 bf3 bp0 bp1 k0 k1 k2 k3 y0 y1
      go_upto_region 16 with fail
      go_cut [101] from 75 to 150 (fun s101 wx => s101 = .bool (!b0 || (b1 && decide ((n : Int) ≤ (kk : Int) + 1)) || (b2 && decide ((n : Int) ≤ q1))) ∧ wx = wc)
      case first =>
       have hbx := HXB.out.h
       rw [← hb0, ← hb1, ← hb2, ← hm3, ← hm4, ← hm5, ← hm6] at hbx
       have a0 := (qAa hbx 0).trans rfl
       have a1 := (qAa hbx 1).trans rfl
       have a2 := (qAa hbx 2).trans rfl
       have a3 := (qAa hbx 3).trans rfl
       have a4 := (qAa hbx 4).trans rfl
       have a5 := (qAa hbx 5).trans rfl
       have a6 := (qAa hbx 6).trans rfl
       have xf3 := (qAa HST.out.x.1 3).trans rfl
       have kc1 := HK.out
       clear leafs hb0 hb1 hb2 hm3 hm4 hm5 hm6
       cases b0 with
       | false =>
        have hwk : wrap64 ((kk : Int) + 1) = (kk : Int) + 1 ∧ IntKind.i64.wrap ((kk : Int) + 1) = (kk : Int) + 1 := ⟨by unfold wrap64; omega, by simp [IntKind.wrap, IntKind.bits, IntKind.signed]; omega⟩
        obtain ⟨hwk, hwk2⟩ := hwk
        go_wp2_with fail
        go_meet
        case rel => exact ⟨by simp, rfl⟩
       | true =>
        cases b1 with
        | false =>
         cases b2 with
         | false =>
          have hwk : wrap64 ((kk : Int) + 1) = (kk : Int) + 1 ∧ IntKind.i64.wrap ((kk : Int) + 1) = (kk : Int) + 1 := ⟨by unfold wrap64; omega, by simp [IntKind.wrap, IntKind.bits, IntKind.signed]; omega⟩
          obtain ⟨hwk, hwk2⟩ := hwk
          go_wp2_with fail
          go_meet
          case rel => exact ⟨by simp [], rfl⟩
         | true =>
          by_cases hN : (n : Int) ≤ q1
          ·have e2 := decide_eq_true hN
           have hwk : wrap64 ((kk : Int) + 1) = (kk : Int) + 1 ∧ IntKind.i64.wrap ((kk : Int) + 1) = (kk : Int) + 1 := ⟨by unfold wrap64; omega, by simp [IntKind.wrap, IntKind.bits, IntKind.signed]; omega⟩
           obtain ⟨hwk, hwk2⟩ := hwk
           go_wp2_with fail
           go_meet
           case rel => exact ⟨by simp [hN], rfl⟩
          have e2 : decide (q1 ≥ (n : Int)) = false := decide_eq_false (by omega)
          have hwk : wrap64 ((kk : Int) + 1) = (kk : Int) + 1 ∧ IntKind.i64.wrap ((kk : Int) + 1) = (kk : Int) + 1 := ⟨by unfold wrap64; omega, by simp [IntKind.wrap, IntKind.bits, IntKind.signed]; omega⟩
          obtain ⟨hwk, hwk2⟩ := hwk
          go_wp2_with fail
          go_meet
          case rel => exact ⟨by simp [hN], rfl⟩
        | true =>
         by_cases hK : (n : Int) ≤ (kk : Int) + 1
         ·have e1 := decide_eq_true hK
          have hwk : wrap64 ((kk : Int) + 1) = (kk : Int) + 1 ∧ IntKind.i64.wrap ((kk : Int) + 1) = (kk : Int) + 1 := ⟨by unfold wrap64; omega, by simp [IntKind.wrap, IntKind.bits, IntKind.signed]; omega⟩
          obtain ⟨hwk, hwk2⟩ := hwk
          go_wp2_with fail
          go_meet
          case rel => exact ⟨by simp [hK], rfl⟩
         have e1 : decide ((kk : Int) + 1 ≥ (n : Int)) = false := decide_eq_false (by omega)
         cases b2 with
         | false =>
          have hwk : wrap64 ((kk : Int) + 1) = (kk : Int) + 1 ∧ IntKind.i64.wrap ((kk : Int) + 1) = (kk : Int) + 1 := ⟨by unfold wrap64; omega, by simp [IntKind.wrap, IntKind.bits, IntKind.signed]; omega⟩
          obtain ⟨hwk, hwk2⟩ := hwk
          go_wp2_with fail
          go_meet
          case rel => exact ⟨by simp [hK], rfl⟩
         | true =>
          by_cases hN : (n : Int) ≤ q1
          ·have e2 := decide_eq_true hN
           have hwk : wrap64 ((kk : Int) + 1) = (kk : Int) + 1 ∧ IntKind.i64.wrap ((kk : Int) + 1) = (kk : Int) + 1 := ⟨by unfold wrap64; omega, by simp [IntKind.wrap, IntKind.bits, IntKind.signed]; omega⟩
           obtain ⟨hwk, hwk2⟩ := hwk
           go_wp2_with fail
           go_meet
           case rel => exact ⟨by simp [hK, hN], rfl⟩
          have e2 : decide (q1 ≥ (n : Int)) = false := decide_eq_false (by omega)
          have hwk : wrap64 ((kk : Int) + 1) = (kk : Int) + 1 ∧ IntKind.i64.wrap ((kk : Int) + 1) = (kk : Int) + 1 := ⟨by unfold wrap64; omega, by simp [IntKind.wrap, IntKind.bits, IntKind.signed]; omega⟩
          obtain ⟨hwk, hwk2⟩ := hwk
          go_wp2_with fail
          go_meet
          case rel => exact ⟨by simp [hK, hN], rfl⟩
      case rest =>
       obtain ⟨rfl, rfl⟩ := hcut
       obtain ⟨bd, hbd⟩ : ∃ b, b = (!b0 || (b1 && decide ((n : Int) ≤ (kk : Int) + 1)) || (b2 && decide ((n : Int) ≤ q1))) := ⟨_, rfl⟩
       rw [← hbd]
       cases bd with
       | true =>
        have HRE := leafs 51 (by
          rw [qD7]
          rw [← hb0, ← hb1, ← hb2]
          simpa [or_assoc] using hbd.symm) (by decide)
        clear leafs hbd
        go_wp2_with fail
        try rw [Exit.noGoto_ret]
        refine bodyPost_ret (qCo rfl _ _ _) rfl ?_
        refine ⟨_, _, by rw [HRE.out]; rfl, fun m s h => ?_, HST.out.b⟩
        rw [HRE.out] at h
        cases h
       | false =>
        have hgd : ¬ (R.f0 = false ∨ (R.f1 = true ∧ (n : Int) ≤ kk + 1) ∨ (R.f2 = true ∧ (n : Int) ≤ q1)) := by
         rw [← hb0, ← hb1, ← hb2]
         intro h_
         have h2_ := hbd.symm
         simp only [Bool.or_eq_false_iff, Bool.and_eq_false_iff, decide_eq_false_iff_not, Bool.not_eq_false'] at h2_
         rcases h_ with h_ | h_ | h_
         ·rw [h_] at h2_; simp at h2_
         ·rcases h2_.1.2 with h3 | h3
          ·rw [h_.1] at h3; cases h3
          exact h3 h_.2
         rcases h2_.2 with h3 | h3
         ·rw [h_.1] at h3; cases h3
         exact h3 h_.2
        clear hbd
        obtain ⟨o3, ho3⟩ := eX (qC4 R.f3)
        obtain ⟨o4, ho4⟩ := eX (qC4 R.f4)
        have HO3 : qAd (∀ W1, XB M D S R gX D3 D4 D5 D6 d3 d4 d5 d6 W1 → Calls Tryz.prog 68 #[.agg #[.slice D3 m3 d3, .slice D4 m4 d4]] W1 fun e w' => e = .returned (.bool o3) ∧ Below W1.heap.size W1 w') := ⟨fun W1 h => by
          rw [hm3, hm4, ho3]
          exact over_any D3 D4 d3 d4 R.f3 W1 (Kd.F_now h.g3) h.l3 (Kd.F_now h.g4) h.l4⟩
        have HO4 : qAd (∀ W1, XB M D S R gX D3 D4 D5 D6 d3 d4 d5 d6 W1 → Calls Tryz.prog 68 #[.agg #[.slice D5 m5 d5, .slice D6 m6 d6]] W1 fun e w' => e = .returned (.bool o4) ∧ Below W1.heap.size W1 w') := ⟨fun W1 h => by
          rw [hm5, hm6, ho4]
          exact over_any D5 D6 d5 d6 R.f4 W1 (Kd.F_now h.g5) h.l5 (Kd.F_now h.g6) h.l6⟩
        go_upto_region 18 with fail
        go_cut [118] from 75 to 150 (fun s118 wx => s118 = .bool ((b1 && o3) || (b2 && o4)) ∧ qAd (FoSt W M D S n cM cD cS #[.slice A1 p1 c1, .int .i64 res, .slice A2 l1 c2, .slice (some ad) n c3] #[.slice A4 f1 c4, .slice A5 v1 c5] met (dn.set kk true) shs wx) ∧ qAd (XB M D S R gX D3 D4 D5 D6 d3 d4 d5 d6 wx) ∧ qAd (wx.cell? ⟨(ad.add (kk * 4)).block, (ad.add (kk * 4)).off + 1, none⟩ = some (.int .i64 q1)))
        case first =>
         have HMS : qAd (b0 = R.f0 ∧ b1 = R.f1 ∧ b2 = R.f2 ∧ m3 = R.f3.f0.length ∧ m4 = R.f3.f1.length ∧ m5 = R.f4.f0.length ∧ m6 = R.f4.f1.length) := ⟨⟨hb0, hb1, hb2, hm3, hm4, hm5, hm6⟩⟩
         have hbx := HXB.out.h
         rw [← HMS.out.1, ← HMS.out.2.1, ← HMS.out.2.2.1, ← HMS.out.2.2.2.1, ← HMS.out.2.2.2.2.1, ← HMS.out.2.2.2.2.2.1, ← HMS.out.2.2.2.2.2.2] at hbx
         have a0 := (qAa hbx 0).trans rfl
         have a1 := (qAa hbx 1).trans rfl
         have a2 := (qAa hbx 2).trans rfl
         have a3 := (qAa hbx 3).trans rfl
         have a4 := (qAa hbx 4).trans rfl
         have a5 := (qAa hbx 5).trans rfl
         have a6 := (qAa hbx 6).trans rfl
         have xf3 := (qAa HST.out.x.1 3).trans rfl
         have kc1 := HK.out
         clear leafs hb0 hb1 hb2 hm3 hm4 hm5 hm6 ho3 ho4 hgd
         cases b1 with
         | false =>
          cases b2 with
          | false =>
           go_wp2_with (first | (go_at_call 68; (with_reducible refine (HO3.out _ HXB.out).mono ?_); rintro e w3 ⟨rfl, hb3⟩; clear hbx a0 a1 a2 a3 a4 a5 a6 xf3 kc1; replace HST := am (HST.out.below hb3); replace HXB := am (HXB.out.below hb3); replace HK : qAd (w3.cell? ⟨(ad.add (kk * 4)).block, (ad.add (kk * 4)).off + 1, none⟩ = some (.int .i64 q1)) := ⟨(hb3.cell (bl HK.out)).trans HK.out⟩; clear hb3; have hbx := HXB.out.h; rw [← HMS.out.1, ← HMS.out.2.1, ← HMS.out.2.2.1, ← HMS.out.2.2.2.1, ← HMS.out.2.2.2.2.1, ← HMS.out.2.2.2.2.2.1, ← HMS.out.2.2.2.2.2.2] at hbx; have a0 := (qAa hbx 0).trans rfl; have a1 := (qAa hbx 1).trans rfl; have a2 := (qAa hbx 2).trans rfl; have a3 := (qAa hbx 3).trans rfl; have a4 := (qAa hbx 4).trans rfl; have a5 := (qAa hbx 5).trans rfl; have a6 := (qAa hbx 6).trans rfl; have xf3 := (qAa HST.out.x.1 3).trans rfl; have kc1 := HK.out) | (go_at_call 68; (with_reducible refine (HO4.out _ HXB.out).mono ?_); rintro e w3 ⟨rfl, hb3⟩; clear hbx a0 a1 a2 a3 a4 a5 a6 xf3 kc1; replace HST := am (HST.out.below hb3); replace HXB := am (HXB.out.below hb3); replace HK : qAd (w3.cell? ⟨(ad.add (kk * 4)).block, (ad.add (kk * 4)).off + 1, none⟩ = some (.int .i64 q1)) := ⟨(hb3.cell (bl HK.out)).trans HK.out⟩; clear hb3; have hbx := HXB.out.h; rw [← HMS.out.1, ← HMS.out.2.1, ← HMS.out.2.2.1, ← HMS.out.2.2.2.1, ← HMS.out.2.2.2.2.1, ← HMS.out.2.2.2.2.2.1, ← HMS.out.2.2.2.2.2.2] at hbx; have a0 := (qAa hbx 0).trans rfl; have a1 := (qAa hbx 1).trans rfl; have a2 := (qAa hbx 2).trans rfl; have a3 := (qAa hbx 3).trans rfl; have a4 := (qAa hbx 4).trans rfl; have a5 := (qAa hbx 5).trans rfl; have a6 := (qAa hbx 6).trans rfl; have xf3 := (qAa HST.out.x.1 3).trans rfl; have kc1 := HK.out))
           go_meet
           case rel => exact ⟨by simp, HST, HXB, HK⟩
          | true =>
           go_wp2_with (first | (go_at_call 68; (with_reducible refine (HO3.out _ HXB.out).mono ?_); rintro e w3 ⟨rfl, hb3⟩; clear hbx a0 a1 a2 a3 a4 a5 a6 xf3 kc1; replace HST := am (HST.out.below hb3); replace HXB := am (HXB.out.below hb3); replace HK : qAd (w3.cell? ⟨(ad.add (kk * 4)).block, (ad.add (kk * 4)).off + 1, none⟩ = some (.int .i64 q1)) := ⟨(hb3.cell (bl HK.out)).trans HK.out⟩; clear hb3; have hbx := HXB.out.h; rw [← HMS.out.1, ← HMS.out.2.1, ← HMS.out.2.2.1, ← HMS.out.2.2.2.1, ← HMS.out.2.2.2.2.1, ← HMS.out.2.2.2.2.2.1, ← HMS.out.2.2.2.2.2.2] at hbx; have a0 := (qAa hbx 0).trans rfl; have a1 := (qAa hbx 1).trans rfl; have a2 := (qAa hbx 2).trans rfl; have a3 := (qAa hbx 3).trans rfl; have a4 := (qAa hbx 4).trans rfl; have a5 := (qAa hbx 5).trans rfl; have a6 := (qAa hbx 6).trans rfl; have xf3 := (qAa HST.out.x.1 3).trans rfl; have kc1 := HK.out) | (go_at_call 68; (with_reducible refine (HO4.out _ HXB.out).mono ?_); rintro e w3 ⟨rfl, hb3⟩; clear hbx a0 a1 a2 a3 a4 a5 a6 xf3 kc1; replace HST := am (HST.out.below hb3); replace HXB := am (HXB.out.below hb3); replace HK : qAd (w3.cell? ⟨(ad.add (kk * 4)).block, (ad.add (kk * 4)).off + 1, none⟩ = some (.int .i64 q1)) := ⟨(hb3.cell (bl HK.out)).trans HK.out⟩; clear hb3; have hbx := HXB.out.h; rw [← HMS.out.1, ← HMS.out.2.1, ← HMS.out.2.2.1, ← HMS.out.2.2.2.1, ← HMS.out.2.2.2.2.1, ← HMS.out.2.2.2.2.2.1, ← HMS.out.2.2.2.2.2.2] at hbx; have a0 := (qAa hbx 0).trans rfl; have a1 := (qAa hbx 1).trans rfl; have a2 := (qAa hbx 2).trans rfl; have a3 := (qAa hbx 3).trans rfl; have a4 := (qAa hbx 4).trans rfl; have a5 := (qAa hbx 5).trans rfl; have a6 := (qAa hbx 6).trans rfl; have xf3 := (qAa HST.out.x.1 3).trans rfl; have kc1 := HK.out))
           go_meet
           case rel => exact ⟨by simp, HST, HXB, HK⟩
         | true =>
          cases o3 with
          | true =>
           go_wp2_with (first | (go_at_call 68; (with_reducible refine (HO3.out _ HXB.out).mono ?_); rintro e w3 ⟨rfl, hb3⟩; clear hbx a0 a1 a2 a3 a4 a5 a6 xf3 kc1; replace HST := am (HST.out.below hb3); replace HXB := am (HXB.out.below hb3); replace HK : qAd (w3.cell? ⟨(ad.add (kk * 4)).block, (ad.add (kk * 4)).off + 1, none⟩ = some (.int .i64 q1)) := ⟨(hb3.cell (bl HK.out)).trans HK.out⟩; clear hb3; have hbx := HXB.out.h; rw [← HMS.out.1, ← HMS.out.2.1, ← HMS.out.2.2.1, ← HMS.out.2.2.2.1, ← HMS.out.2.2.2.2.1, ← HMS.out.2.2.2.2.2.1, ← HMS.out.2.2.2.2.2.2] at hbx; have a0 := (qAa hbx 0).trans rfl; have a1 := (qAa hbx 1).trans rfl; have a2 := (qAa hbx 2).trans rfl; have a3 := (qAa hbx 3).trans rfl; have a4 := (qAa hbx 4).trans rfl; have a5 := (qAa hbx 5).trans rfl; have a6 := (qAa hbx 6).trans rfl; have xf3 := (qAa HST.out.x.1 3).trans rfl; have kc1 := HK.out) | (go_at_call 68; (with_reducible refine (HO4.out _ HXB.out).mono ?_); rintro e w3 ⟨rfl, hb3⟩; clear hbx a0 a1 a2 a3 a4 a5 a6 xf3 kc1; replace HST := am (HST.out.below hb3); replace HXB := am (HXB.out.below hb3); replace HK : qAd (w3.cell? ⟨(ad.add (kk * 4)).block, (ad.add (kk * 4)).off + 1, none⟩ = some (.int .i64 q1)) := ⟨(hb3.cell (bl HK.out)).trans HK.out⟩; clear hb3; have hbx := HXB.out.h; rw [← HMS.out.1, ← HMS.out.2.1, ← HMS.out.2.2.1, ← HMS.out.2.2.2.1, ← HMS.out.2.2.2.2.1, ← HMS.out.2.2.2.2.2.1, ← HMS.out.2.2.2.2.2.2] at hbx; have a0 := (qAa hbx 0).trans rfl; have a1 := (qAa hbx 1).trans rfl; have a2 := (qAa hbx 2).trans rfl; have a3 := (qAa hbx 3).trans rfl; have a4 := (qAa hbx 4).trans rfl; have a5 := (qAa hbx 5).trans rfl; have a6 := (qAa hbx 6).trans rfl; have xf3 := (qAa HST.out.x.1 3).trans rfl; have kc1 := HK.out))
           go_meet
           case rel => exact ⟨by simp, HST, HXB, HK⟩
          | false =>
           cases b2 with
           | false =>
            go_wp2_with (first | (go_at_call 68; (with_reducible refine (HO3.out _ HXB.out).mono ?_); rintro e w3 ⟨rfl, hb3⟩; clear hbx a0 a1 a2 a3 a4 a5 a6 xf3 kc1; replace HST := am (HST.out.below hb3); replace HXB := am (HXB.out.below hb3); replace HK : qAd (w3.cell? ⟨(ad.add (kk * 4)).block, (ad.add (kk * 4)).off + 1, none⟩ = some (.int .i64 q1)) := ⟨(hb3.cell (bl HK.out)).trans HK.out⟩; clear hb3; have hbx := HXB.out.h; rw [← HMS.out.1, ← HMS.out.2.1, ← HMS.out.2.2.1, ← HMS.out.2.2.2.1, ← HMS.out.2.2.2.2.1, ← HMS.out.2.2.2.2.2.1, ← HMS.out.2.2.2.2.2.2] at hbx; have a0 := (qAa hbx 0).trans rfl; have a1 := (qAa hbx 1).trans rfl; have a2 := (qAa hbx 2).trans rfl; have a3 := (qAa hbx 3).trans rfl; have a4 := (qAa hbx 4).trans rfl; have a5 := (qAa hbx 5).trans rfl; have a6 := (qAa hbx 6).trans rfl; have xf3 := (qAa HST.out.x.1 3).trans rfl; have kc1 := HK.out) | (go_at_call 68; (with_reducible refine (HO4.out _ HXB.out).mono ?_); rintro e w3 ⟨rfl, hb3⟩; clear hbx a0 a1 a2 a3 a4 a5 a6 xf3 kc1; replace HST := am (HST.out.below hb3); replace HXB := am (HXB.out.below hb3); replace HK : qAd (w3.cell? ⟨(ad.add (kk * 4)).block, (ad.add (kk * 4)).off + 1, none⟩ = some (.int .i64 q1)) := ⟨(hb3.cell (bl HK.out)).trans HK.out⟩; clear hb3; have hbx := HXB.out.h; rw [← HMS.out.1, ← HMS.out.2.1, ← HMS.out.2.2.1, ← HMS.out.2.2.2.1, ← HMS.out.2.2.2.2.1, ← HMS.out.2.2.2.2.2.1, ← HMS.out.2.2.2.2.2.2] at hbx; have a0 := (qAa hbx 0).trans rfl; have a1 := (qAa hbx 1).trans rfl; have a2 := (qAa hbx 2).trans rfl; have a3 := (qAa hbx 3).trans rfl; have a4 := (qAa hbx 4).trans rfl; have a5 := (qAa hbx 5).trans rfl; have a6 := (qAa hbx 6).trans rfl; have xf3 := (qAa HST.out.x.1 3).trans rfl; have kc1 := HK.out))
            go_meet
            case rel => exact ⟨by simp, HST, HXB, HK⟩
           | true =>
            go_wp2_with (first | (go_at_call 68; (with_reducible refine (HO3.out _ HXB.out).mono ?_); rintro e w3 ⟨rfl, hb3⟩; clear hbx a0 a1 a2 a3 a4 a5 a6 xf3 kc1; replace HST := am (HST.out.below hb3); replace HXB := am (HXB.out.below hb3); replace HK : qAd (w3.cell? ⟨(ad.add (kk * 4)).block, (ad.add (kk * 4)).off + 1, none⟩ = some (.int .i64 q1)) := ⟨(hb3.cell (bl HK.out)).trans HK.out⟩; clear hb3; have hbx := HXB.out.h; rw [← HMS.out.1, ← HMS.out.2.1, ← HMS.out.2.2.1, ← HMS.out.2.2.2.1, ← HMS.out.2.2.2.2.1, ← HMS.out.2.2.2.2.2.1, ← HMS.out.2.2.2.2.2.2] at hbx; have a0 := (qAa hbx 0).trans rfl; have a1 := (qAa hbx 1).trans rfl; have a2 := (qAa hbx 2).trans rfl; have a3 := (qAa hbx 3).trans rfl; have a4 := (qAa hbx 4).trans rfl; have a5 := (qAa hbx 5).trans rfl; have a6 := (qAa hbx 6).trans rfl; have xf3 := (qAa HST.out.x.1 3).trans rfl; have kc1 := HK.out) | (go_at_call 68; (with_reducible refine (HO4.out _ HXB.out).mono ?_); rintro e w3 ⟨rfl, hb3⟩; clear hbx a0 a1 a2 a3 a4 a5 a6 xf3 kc1; replace HST := am (HST.out.below hb3); replace HXB := am (HXB.out.below hb3); replace HK : qAd (w3.cell? ⟨(ad.add (kk * 4)).block, (ad.add (kk * 4)).off + 1, none⟩ = some (.int .i64 q1)) := ⟨(hb3.cell (bl HK.out)).trans HK.out⟩; clear hb3; have hbx := HXB.out.h; rw [← HMS.out.1, ← HMS.out.2.1, ← HMS.out.2.2.1, ← HMS.out.2.2.2.1, ← HMS.out.2.2.2.2.1, ← HMS.out.2.2.2.2.2.1, ← HMS.out.2.2.2.2.2.2] at hbx; have a0 := (qAa hbx 0).trans rfl; have a1 := (qAa hbx 1).trans rfl; have a2 := (qAa hbx 2).trans rfl; have a3 := (qAa hbx 3).trans rfl; have a4 := (qAa hbx 4).trans rfl; have a5 := (qAa hbx 5).trans rfl; have a6 := (qAa hbx 6).trans rfl; have xf3 := (qAa HST.out.x.1 3).trans rfl; have kc1 := HK.out))
            go_meet
            case rel => exact ⟨by simp, HST, HXB, HK⟩
        case rest =>
         obtain ⟨rfl, HST, HXB, HK⟩ := hcut
         obtain ⟨bo, hbo⟩ := eX (((b1 && o3) || (b2 && o4)))
         rw [← hbo]
         cases bo with
         | true =>
          have HRE := leafs 3 (by
            rw [roundR_3 hgd (by
              rw [← hb1, ← hb2, ← ho3, ← ho4]
              have h_ := hbo.symm
              simp only [Bool.or_eq_true, Bool.and_eq_true] at h_
              exact h_)]) (by decide)
          clear leafs hbo hgd HO3 HO4
          go_wp2_with fail
          try rw [Exit.noGoto_ret]
          refine bodyPost_ret (qCo rfl _ _ _) rfl ?_
          refine ⟨_, _, by rw [HRE.out]; rfl, fun m s h => ?_, HST.out.b⟩
          rw [HRE.out] at h
          cases h
         | false =>
          have hov : ¬ ((R.f1 = true ∧ qC4 R.f3 = true) ∨ (R.f2 = true ∧ qC4 R.f4 = true)) := by
           rw [← hb1, ← hb2, ← ho3, ← ho4]
           intro h_
           have h2_ := hbo.symm
           rw [← Bool.and_eq_true, ← Bool.and_eq_true, ← Bool.or_eq_true, h2_] at h_
           cases h_
          have HGO : qAd (qBS n kk q1 R met shs = qC5 kk q1 b1 b2 R.f3 R.f4 met shs) := ⟨by rw [qE9 hgd hov, ← hb1, ← hb2]⟩
          have HPL : qAd ((b1 = true → (kk : Int) + 1 < n) ∧ (b2 = true → q1 < n)) := ⟨by
            rw [hb1, hb2]
            refine ⟨fun h_ => ?_, fun h_ => ?_⟩
            · exact Decidable.byContradiction fun h2_ => hgd (.inr (.inl ⟨h_, by omega⟩))
            · exact Decidable.byContradiction fun h2_ => hgd (.inr (.inr ⟨h_, by omega⟩))⟩
          have HSML : qAd ((b1 = true → qDa R.f3) ∧ (b2 = true → qDa R.f4)) := ⟨by
            have h1_ : b1 = true → qC4 R.f3 = false := fun h_ => Bool.eq_false_iff.mpr fun h2_ => hov (.inl ⟨hb1 ▸ h_, h2_⟩)
            have h2_ : b2 = true → qC4 R.f4 = false := fun h_ => Bool.eq_false_iff.mpr fun h2_ => hov (.inr ⟨hb2 ▸ h_, h2_⟩)
            refine ⟨fun h_ => ?_, fun h_ => ?_⟩
            · have h3_ := h1_ h_
              unfold qC4 at h3_
              simp only [Bool.or_eq_false_iff, decide_eq_false_iff_not] at h3_
              exact ⟨by omega, by omega, HRS.out.1⟩
            · have h3_ := h2_ h_
              unfold qC4 at h3_
              simp only [Bool.or_eq_false_iff, decide_eq_false_iff_not] at h3_
              exact ⟨by omega, by omega, HRS.out.2⟩⟩
          clear hbo hgd hov HO3 HO4 ho3 ho4
          go_upto_region 20 with fail
          go_cut [149] from 75 to 150 (fun s149 wx => ∃ (bb : Bool) (met' : List Bool) (shs' : List S117), s149 = .bool bb ∧ qAd (qC5 kk q1 b1 b2 R.f3 R.f4 met shs = if bb = true then (22, met, shs) else (0, met', shs')) ∧ qAd (∀ y ∈ shs', qDa y) ∧ qAd (FoSt W M D S n cM cD cS #[.slice A1 p1 c1, .int .i64 res, .slice A2 l1 c2, .slice (some ad) n c3] #[.slice A4 f1 c4, .slice A5 v1 c5] met' (dn.set kk true) shs' wx))
          case first =>
           have HMS : qAd (b0 = R.f0 ∧ b1 = R.f1 ∧ b2 = R.f2 ∧ m3 = R.f3.f0.length ∧ m4 = R.f3.f1.length ∧ m5 = R.f4.f0.length ∧ m6 = R.f4.f1.length) := ⟨⟨hb0, hb1, hb2, hm3, hm4, hm5, hm6⟩⟩
           clear leafs hb0 hb1 hb2 hm3 hm4 hm5 hm6
           have HNM : qAd (¬ ((ad.add (kk * 4)).block = M ∨ (ad.add (kk * 4)).block = S)) := ⟨fun e => by have := HAD.out; rcases e with e | e <;> omega⟩
           replace HST := am (HST.out.below (Below.refl _ _).drew)
           replace HXB := am (HXB.out.below (Below.refl _ _).drew)
           have HK0 := HK
           have hbx := HXB.out.h
           rw [← HMS.out.1, ← HMS.out.2.1, ← HMS.out.2.2.1, ← HMS.out.2.2.2.1, ← HMS.out.2.2.2.2.1, ← HMS.out.2.2.2.2.2.1, ← HMS.out.2.2.2.2.2.2] at hbx
           have a0 := (qAa hbx 0).trans rfl
           have a1 := (qAa hbx 1).trans rfl
           have a2 := (qAa hbx 2).trans rfl
           have a3 := (qAa hbx 3).trans rfl
           have a4 := (qAa hbx 4).trans rfl
           have a5 := (qAa hbx 5).trans rfl
           have a6 := (qAa hbx 6).trans rfl
           have xf3 := (qAa HST.out.x.1 3).trans rfl
           have kc1 := HK.out
           cases b1 with
           | false =>
            cases b2 with
            | false =>
             refine wp_region_noPanic ?_
             refine wp_region_held_drew (S := fun W' => W'.cell? ⟨gX, 1, none⟩ = some (.bool false) ∧ W'.cell? ⟨gX, 2, none⟩ = some (.bool false) ∧ W'.cell? ⟨gX, 3, none⟩ = some (.slice D3 m3 d3) ∧ W'.cell? ⟨gX, 4, none⟩ = some (.slice D4 m4 d4) ∧ W'.cell? ⟨gX, 5, none⟩ = some (.slice D5 m5 d5) ∧ W'.cell? ⟨gX, 6, none⟩ = some (.slice D6 m6 d6) ∧ W'.cell? ⟨W.heap.size, 3, none⟩ = some (.slice (some ad) n c3) ∧ W'.cell? ⟨(ad.add (kk * 4)).block, (ad.add (kk * 4)).off + 1, none⟩ = some (.int .i64 q1)) (by kernel_rfl) ⟨a1, a2, a3, a4, a5, a6, xf3, kc1⟩ (fun hHeld => ?_)
             refine tH 0 (v := ?_) rfl (.inl ⟨by rfl, ?_⟩) ?_
             rotate_left
             ·intro w hSw; (try dsimp only at hSw); go_simp <;> with_reducible rfl
             simp only [Act.put, zA, zB, zC, zD, zE, zF]
             refine tH 1 (v := ?_) rfl (.inl ⟨by rfl, ?_⟩) ?_
             rotate_left
             ·intro w hSw; (try dsimp only at hSw); go_simp <;> with_reducible rfl
             simp only [Act.put, zA, zB, zC, zD, zE, zF]
             refine tH 2 (v := ?_) rfl (.inl ⟨by rfl, ?_⟩) ?_
             rotate_left
             ·intro w hSw; (try dsimp only at hSw); go_simp <;> with_reducible rfl
             simp only [Act.put, zA, zB, zC, zD, zE, zF]
             refine tH 3 rfl (.inr ⟨by rfl, rfl⟩) ?_
             simp only [Act.put, zA, zB, zC, zD, zE, zF]
             refine tH 4 rfl (.inr ⟨by rfl, rfl⟩) ?_
             simp only [Act.put, zA, zB, zC, zD, zE, zF]
             refine tH 5 rfl (.inr ⟨by rfl, rfl⟩) ?_
             simp only [Act.put, zA, zB, zC, zD, zE, zF]
             refine tH 6 rfl (.inr ⟨by rfl, rfl⟩) ?_
             simp only [Act.put, zA, zB, zC, zD, zE, zF]
             refine tH 7 rfl (.inr ⟨by rfl, rfl⟩) ?_
             simp only [Act.put, zA, zB, zC, zD, zE, zF]
             refine tH 8 rfl (.inr ⟨by rfl, rfl⟩) ?_
             simp only [Act.put, zA, zB, zC, zD, zE, zF]
             refine tH 9 rfl (.inr ⟨by rfl, rfl⟩) ?_
             simp only [Act.put, zA, zB, zC, zD, zE, zF]
             refine tH 10 rfl (.inr ⟨by rfl, rfl⟩) ?_
             simp only [Act.put, zA, zB, zC, zD, zE, zF]
             refine tH 11 (v := ?_) rfl (.inl ⟨by rfl, ?_⟩) ?_
             rotate_left
             ·intro w hSw; (try dsimp only at hSw); go_simp <;> with_reducible rfl
             simp only [Act.put, zA, zB, zC, zD, zE, zF]
             refine tH 12 (v := ?_) rfl (.inl ⟨by rfl, ?_⟩) ?_
             rotate_left
             ·intro w hSw; (try dsimp only at hSw); go_simp <;> with_reducible rfl
             simp only [Act.put, zA, zB, zC, zD, zE, zF]
             refine tH 13 (v := ?_) rfl (.inl ⟨by rfl, ?_⟩) ?_
             rotate_left
             ·intro w hSw; (try dsimp only at hSw); go_simp <;> with_reducible rfl
             simp only [Act.put, zA, zB, zC, zD, zE, zF]
             refine tH 14 (v := ?_) rfl (.inl ⟨by rfl, ?_⟩) ?_
             rotate_left
             ·intro w hSw; (try dsimp only at hSw); go_simp <;> with_reducible rfl
             simp only [Act.put, zA, zB, zC, zD, zE, zF]
             refine tH 15 (v := ?_) rfl (.inl ⟨by rfl, ?_⟩) ?_
             rotate_left
             ·intro w hSw; (try dsimp only at hSw); go_simp <;> with_reducible rfl
             simp only [Act.put, zA, zB, zC, zD, zE, zF]
             refine tH 16 rfl (.inr ⟨by rfl, rfl⟩) ?_
             simp only [Act.put, zA, zB, zC, zD, zE, zF]
             refine tH 17 rfl (.inr ⟨by rfl, rfl⟩) ?_
             simp only [Act.put, zA, zB, zC, zD, zE, zF]
             refine tH 18 rfl (.inr ⟨by rfl, rfl⟩) ?_
             simp only [Act.put, zA, zB, zC, zD, zE, zF]
             refine tH 19 rfl (.inr ⟨by rfl, rfl⟩) ?_
             simp only [Act.put, zA, zB, zC, zD, zE, zF]
             refine tH 20 rfl (.inr ⟨by rfl, rfl⟩) ?_
             simp only [Act.put, zA, zB, zC, zD, zE, zF]
             refine tH 21 rfl (.inr ⟨by rfl, rfl⟩) ?_
             simp only [Act.put, zA, zB, zC, zD, zE, zF]
             refine tH 22 rfl (.inr ⟨by rfl, rfl⟩) ?_
             simp only [Act.put, zA, zB, zC, zD, zE, zF]
             refine tH 23 rfl (.inr ⟨by rfl, rfl⟩) ?_
             simp only [Act.put, zA, zB, zC, zD, zE, zF]
             refine tH 24 rfl (.inr ⟨by rfl, rfl⟩) ?_
             simp only [Act.put, zA, zB, zC, zD, zE, zF]
             refine tH 25 rfl (.inr ⟨by rfl, rfl⟩) ?_
             simp only [Act.put, zA, zB, zC, zD, zE, zF]
             refine tH 26 rfl (.inr ⟨by rfl, rfl⟩) ?_
             simp only [Act.put, zA, zB, zC, zD, zE, zF]
             refine tH 27 rfl (.inr ⟨by rfl, rfl⟩) ?_
             simp only [Act.put, zA, zB, zC, zD, zE, zF]
             refine tH 28 (v := ?_) rfl (.inl ⟨by rfl, ?_⟩) ?_
             rotate_left
             ·intro w hSw; (try dsimp only at hSw); go_simp <;> with_reducible rfl
             simp only [Act.put, zA, zB, zC, zD, zE, zF]
             refine tH 29 (v := ?_) rfl (.inl ⟨by rfl, ?_⟩) ?_
             rotate_left
             ·intro w hSw; (try dsimp only at hSw); go_simp <;> with_reducible rfl
             simp only [Act.put, zA, zB, zC, zD, zE, zF]
             refine wpAnyH_done (by kernel_rfl) ?_ _
             refine NoPanic.normal ?_
             go_wp2_with fail
             go_meet
             case rel => exact ⟨false, met, shs, rfl, ⟨by rw [qE4]; rfl⟩, HSM, HST⟩
            | true =>
             have HNB : qAd (∀ (W1 : World) (met' : List Bool) (shs' : List S117), FoSt W M D S n cM cD cS #[.slice A1 p1 c1, .int .i64 res, .slice A2 l1 c2, .slice (some ad) n c3] #[.slice A4 f1 c4, .slice A5 v1 c5] met' (dn.set kk true) shs' W1 → XB M D S R gX D3 D4 D5 D6 d3 d4 d5 d6 W1 → (∀ y ∈ shs', qDa y) → Calls Tryz.prog 69 #[.slice (some ⟨M, 0, none⟩) n cM, .slice (some ⟨S, 0, none⟩) n cS, .int .i64 (q1), .agg #[.slice D5 m5 d5, .slice D6 m6 d6]] W1 fun e w' => e = .returned (.bool (qAW met' shs' (q1) R.f4).1) ∧ FoSt W M D S n cM cD cS #[.slice A1 p1 c1, .int .i64 res, .slice A2 l1 c2, .slice (some ad) n c3] #[.slice A4 f1 c4, .slice A5 v1 c5] (qAW met' shs' (q1) R.f4).2.1 (dn.set kk true) (qAW met' shs' (q1) R.f4).2.2 w' ∧ Fr W1 w' (fun q => q = M ∨ q = S)) := ⟨fun W1 met' shs' h hx hsm => by
               rw [HMS.out.2.2.2.2.2.1, HMS.out.2.2.2.2.2.2]
               refine (qE3 h.m h.s (q1) (by first | omega | exact hxo.2.2) (by first | exact HPL.out.1 rfl | exact HPL.out.2 rfl) R.f4 D5 D6 d5 d6 hx.g5 hx.l5 hx.g6 hx.l6 (fun q hq => ⟨⟨hq.1, hq.2.1⟩, hq.2.2, hq.1⟩) (by omega) (fun q hq => hq.1) hsm (by have := h.t; omega) h.t).mono ?_
               intro e w' hp
               exact h.noted hp hWM hMD hDS⟩
             obtain ⟨⟨t1, met1, shs1⟩, hr1⟩ : ∃ r, r = qAW met shs (q1) R.f4 := ⟨_, rfl⟩
             have HC1 : qAd (∀ W1, FoSt W M D S n cM cD cS #[.slice A1 p1 c1, .int .i64 res, .slice A2 l1 c2, .slice (some ad) n c3] #[.slice A4 f1 c4, .slice A5 v1 c5] met (dn.set kk true) shs W1 → XB M D S R gX D3 D4 D5 D6 d3 d4 d5 d6 W1 → Calls Tryz.prog 69 #[.slice (some ⟨M, 0, none⟩) n cM, .slice (some ⟨S, 0, none⟩) n cS, .int .i64 (q1), .agg #[.slice D5 m5 d5, .slice D6 m6 d6]] W1 fun e w' => e = .returned (.bool t1) ∧ FoSt W M D S n cM cD cS #[.slice A1 p1 c1, .int .i64 res, .slice A2 l1 c2, .slice (some ad) n c3] #[.slice A4 f1 c4, .slice A5 v1 c5] met1 (dn.set kk true) shs1 w' ∧ Fr W1 w' (fun q => q = M ∨ q = S)) := ⟨fun W1 h hx => by
               have h_ := HNB.out W1 met shs h hx HSM.out
               rw [← hr1] at h_
               exact h_⟩
             have HS1 : qAd (∀ y ∈ shs1, qDa y) := ⟨by
               have h_ := qDp (met := met) (i := q1) HSM.out (HSML.out.2 rfl)
               rw [← hr1] at h_
               exact h_⟩
             cases t1 with
             | false =>
              refine wp_region_noPanic ?_
              refine wp_region_held_drew (S := fun W' => W'.cell? ⟨gX, 1, none⟩ = some (.bool false) ∧ W'.cell? ⟨gX, 2, none⟩ = some (.bool true) ∧ W'.cell? ⟨gX, 3, none⟩ = some (.slice D3 m3 d3) ∧ W'.cell? ⟨gX, 4, none⟩ = some (.slice D4 m4 d4) ∧ W'.cell? ⟨gX, 5, none⟩ = some (.slice D5 m5 d5) ∧ W'.cell? ⟨gX, 6, none⟩ = some (.slice D6 m6 d6) ∧ W'.cell? ⟨W.heap.size, 3, none⟩ = some (.slice (some ad) n c3) ∧ W'.cell? ⟨(ad.add (kk * 4)).block, (ad.add (kk * 4)).off + 1, none⟩ = some (.int .i64 q1)) (by kernel_rfl) ⟨a1, a2, a3, a4, a5, a6, xf3, kc1⟩ (fun hHeld => ?_)
              refine tH 0 (v := ?_) rfl (.inl ⟨by rfl, ?_⟩) ?_
              rotate_left
              ·intro w hSw; (try dsimp only at hSw); go_simp <;> with_reducible rfl
              simp only [Act.put, zA, zB, zC, zD, zE, zF]
              refine tH 1 (v := ?_) rfl (.inl ⟨by rfl, ?_⟩) ?_
              rotate_left
              ·intro w hSw; (try dsimp only at hSw); go_simp <;> with_reducible rfl
              simp only [Act.put, zA, zB, zC, zD, zE, zF]
              refine tH 2 (v := ?_) rfl (.inl ⟨by rfl, ?_⟩) ?_
              rotate_left
              ·intro w hSw; (try dsimp only at hSw); go_simp <;> with_reducible rfl
              simp only [Act.put, zA, zB, zC, zD, zE, zF]
              refine tH 3 rfl (.inr ⟨by rfl, rfl⟩) ?_
              simp only [Act.put, zA, zB, zC, zD, zE, zF]
              refine tH 4 rfl (.inr ⟨by rfl, rfl⟩) ?_
              simp only [Act.put, zA, zB, zC, zD, zE, zF]
              refine tH 5 rfl (.inr ⟨by rfl, rfl⟩) ?_
              simp only [Act.put, zA, zB, zC, zD, zE, zF]
              refine tH 6 rfl (.inr ⟨by rfl, rfl⟩) ?_
              simp only [Act.put, zA, zB, zC, zD, zE, zF]
              refine tH 7 rfl (.inr ⟨by rfl, rfl⟩) ?_
              simp only [Act.put, zA, zB, zC, zD, zE, zF]
              refine tH 8 rfl (.inr ⟨by rfl, rfl⟩) ?_
              simp only [Act.put, zA, zB, zC, zD, zE, zF]
              refine tH 9 rfl (.inr ⟨by rfl, rfl⟩) ?_
              simp only [Act.put, zA, zB, zC, zD, zE, zF]
              refine tH 10 rfl (.inr ⟨by rfl, rfl⟩) ?_
              simp only [Act.put, zA, zB, zC, zD, zE, zF]
              refine tH 11 (v := ?_) rfl (.inl ⟨by rfl, ?_⟩) ?_
              rotate_left
              ·intro w hSw; (try dsimp only at hSw); go_simp <;> with_reducible rfl
              simp only [Act.put, zA, zB, zC, zD, zE, zF]
              refine tH 12 (v := ?_) rfl (.inl ⟨by rfl, ?_⟩) ?_
              rotate_left
              ·intro w hSw; (try dsimp only at hSw); go_simp <;> with_reducible rfl
              simp only [Act.put, zA, zB, zC, zD, zE, zF]
              refine tH 13 (v := ?_) rfl (.inl ⟨by rfl, ?_⟩) ?_
              rotate_left
              ·intro w hSw; (try dsimp only at hSw); go_simp <;> with_reducible rfl
              simp only [Act.put, zA, zB, zC, zD, zE, zF]
              refine tH 14 (v := ?_) rfl (.inl ⟨by rfl, ?_⟩) ?_
              rotate_left
              ·intro w hSw; (try dsimp only at hSw); go_simp <;> with_reducible rfl
              simp only [Act.put, zA, zB, zC, zD, zE, zF]
              refine tH 15 (v := ?_) rfl (.inl ⟨by rfl, ?_⟩) ?_
              rotate_left
              ·intro w hSw; (try dsimp only at hSw); go_simp <;> with_reducible rfl
              simp only [Act.put, zA, zB, zC, zD, zE, zF]
              refine tH 16 (v := ?_) rfl (.inl ⟨by rfl, ?_⟩) ?_
              rotate_left
              ·intro w hSw; (try dsimp only at hSw); go_simp <;> with_reducible rfl
              simp only [Act.put, zA, zB, zC, zD, zE, zF]
              refine tH 17 (v := ?_) rfl (.inl ⟨by rfl, ?_⟩) ?_
              rotate_left
              ·intro w hSw; (try dsimp only at hSw); go_simp <;> with_reducible rfl
              simp only [Act.put, zA, zB, zC, zD, zE, zF]
              refine tH 18 (v := ?_) rfl (.inl ⟨by rfl, ?_⟩) ?_
              rotate_left
              ·intro w hSw; (try dsimp only at hSw); go_simp <;> with_reducible rfl
              simp only [Act.put, zA, zB, zC, zD, zE, zF]
              refine tH 19 (v := ?_) rfl (.inl ⟨by rfl, ?_⟩) ?_
              rotate_left
              ·intro w hSw; (try dsimp only at hSw); go_simp <;> with_reducible rfl
              simp only [Act.put, zA, zB, zC, zD, zE, zF]
              refine tH 20 (v := ?_) rfl (.inl ⟨by rfl, ?_⟩) ?_
              rotate_left
              ·intro w hSw; (try dsimp only at hSw); go_simp <;> with_reducible rfl
              simp only [Act.put, zA, zB, zC, zD, zE, zF]
              refine tH 21 (v := ?_) rfl (.inl ⟨by rfl, ?_⟩) ?_
              rotate_left
              ·intro w hSw; (try dsimp only at hSw); go_simp <;> with_reducible rfl
              simp only [Act.put, zA, zB, zC, zD, zE, zF]
              refine tH 22 (v := ?_) rfl (.inl ⟨by rfl, ?_⟩) ?_
              rotate_left
              ·intro w hSw; (try dsimp only at hSw); go_simp <;> with_reducible rfl
              simp only [Act.put, zA, zB, zC, zD, zE, zF]
              refine tH 23 (v := ?_) rfl (.inl ⟨by rfl, ?_⟩) ?_
              rotate_left
              ·intro w hSw; (try dsimp only at hSw); go_simp <;> with_reducible rfl
              simp only [Act.put, zA, zB, zC, zD, zE, zF]
              refine tH 24 (v := ?_) rfl (.inl ⟨by rfl, ?_⟩) ?_
              rotate_left
              ·intro w hSw; (try dsimp only at hSw); go_simp <;> with_reducible rfl
              simp only [Act.put, zA, zB, zC, zD, zE, zF]
              refine tH 25 (v := ?_) rfl (.inl ⟨by rfl, ?_⟩) ?_
              rotate_left
              ·intro w hSw; (try dsimp only at hSw); go_simp <;> with_reducible rfl
              simp only [Act.put, zA, zB, zC, zD, zE, zF]
              refine wpAnyH_ready (rs := [26]) (by kernel_rfl) (by simp) ?_
              refine AllReadyH.cons (o := _) rfl (fun K hK => ?_) ?_
              ·go_simp
               go_at_call 69
               (with_reducible refine (HC1.out _ HST.out HXB.out).mono ?_)
               rintro e w5 ⟨rfl, hst, hfr⟩
               clear hbx a0 a1 a2 a3 a4 a5 a6 xf3 kc1
               replace HST := am hst
               replace HXB := am (HXB.out.fr hfr)
               replace HK : qAd (w5.cell? ⟨(ad.add (kk * 4)).block, (ad.add (kk * 4)).off + 1, none⟩ = some (.int .i64 q1)) := ⟨hfr.cell HK.out HNM.out⟩
               clear hst hfr
               have hbx := HXB.out.h
               rw [← HMS.out.1, ← HMS.out.2.1, ← HMS.out.2.2.1, ← HMS.out.2.2.2.1, ← HMS.out.2.2.2.2.1, ← HMS.out.2.2.2.2.2.1, ← HMS.out.2.2.2.2.2.2] at hbx
               have a0 := (qAa hbx 0).trans rfl
               have a1 := (qAa hbx 1).trans rfl
               have a2 := (qAa hbx 2).trans rfl
               have a3 := (qAa hbx 3).trans rfl
               have a4 := (qAa hbx 4).trans rfl
               have a5 := (qAa hbx 5).trans rfl
               have a6 := (qAa hbx 6).trans rfl
               have xf3 := (qAa HST.out.x.1 3).trans rfl
               have kc1 := HK.out
               go_wp2_with fail
               refine hK.out _ _ ⟨a1, a2, a3, a4, a5, a6, xf3, kc1⟩ (fun hHeld => ?_)
               clear hK K
               try simp only [Act.put, zA, zB, zC, zD, zE, zF]
               refine tH 27 (v := ?_) rfl (.inl ⟨by rfl, ?_⟩) ?_
               rotate_left
               ·intro w hSw; (try dsimp only at hSw); go_simp <;> with_reducible rfl
               simp only [Act.put, zA, zB, zC, zD, zE, zF]
               refine tH 28 (v := ?_) rfl (.inl ⟨by rfl, ?_⟩) ?_
               rotate_left
               ·intro w hSw; (try dsimp only at hSw); go_simp <;> with_reducible rfl
               simp only [Act.put, zA, zB, zC, zD, zE, zF]
               refine tH 29 (v := ?_) rfl (.inl ⟨by rfl, ?_⟩) ?_
               rotate_left
               ·intro w hSw; (try dsimp only at hSw); go_simp <;> with_reducible rfl
               simp only [Act.put, zA, zB, zC, zD, zE, zF]
               refine wpAnyH_done (by kernel_rfl) ?_ _
               refine NoPanic.normal ?_
               go_wp2_with fail
               go_meet
               case rel => exact ⟨true, met1, shs1, rfl, ⟨by rw [qD0, ← hr1]; rfl⟩, HS1, HST⟩
              exact AllReadyH.nil
             | true =>
              refine wp_region_noPanic ?_
              refine wp_region_held_drew (S := fun W' => W'.cell? ⟨gX, 1, none⟩ = some (.bool false) ∧ W'.cell? ⟨gX, 2, none⟩ = some (.bool true) ∧ W'.cell? ⟨gX, 3, none⟩ = some (.slice D3 m3 d3) ∧ W'.cell? ⟨gX, 4, none⟩ = some (.slice D4 m4 d4) ∧ W'.cell? ⟨gX, 5, none⟩ = some (.slice D5 m5 d5) ∧ W'.cell? ⟨gX, 6, none⟩ = some (.slice D6 m6 d6) ∧ W'.cell? ⟨W.heap.size, 3, none⟩ = some (.slice (some ad) n c3) ∧ W'.cell? ⟨(ad.add (kk * 4)).block, (ad.add (kk * 4)).off + 1, none⟩ = some (.int .i64 q1)) (by kernel_rfl) ⟨a1, a2, a3, a4, a5, a6, xf3, kc1⟩ (fun hHeld => ?_)
              refine tH 0 (v := ?_) rfl (.inl ⟨by rfl, ?_⟩) ?_
              rotate_left
              ·intro w hSw; (try dsimp only at hSw); go_simp <;> with_reducible rfl
              simp only [Act.put, zA, zB, zC, zD, zE, zF]
              refine tH 1 (v := ?_) rfl (.inl ⟨by rfl, ?_⟩) ?_
              rotate_left
              ·intro w hSw; (try dsimp only at hSw); go_simp <;> with_reducible rfl
              simp only [Act.put, zA, zB, zC, zD, zE, zF]
              refine tH 2 (v := ?_) rfl (.inl ⟨by rfl, ?_⟩) ?_
              rotate_left
              ·intro w hSw; (try dsimp only at hSw); go_simp <;> with_reducible rfl
              simp only [Act.put, zA, zB, zC, zD, zE, zF]
              refine tH 3 rfl (.inr ⟨by rfl, rfl⟩) ?_
              simp only [Act.put, zA, zB, zC, zD, zE, zF]
              refine tH 4 rfl (.inr ⟨by rfl, rfl⟩) ?_
              simp only [Act.put, zA, zB, zC, zD, zE, zF]
              refine tH 5 rfl (.inr ⟨by rfl, rfl⟩) ?_
              simp only [Act.put, zA, zB, zC, zD, zE, zF]
              refine tH 6 rfl (.inr ⟨by rfl, rfl⟩) ?_
              simp only [Act.put, zA, zB, zC, zD, zE, zF]
              refine tH 7 rfl (.inr ⟨by rfl, rfl⟩) ?_
              simp only [Act.put, zA, zB, zC, zD, zE, zF]
              refine tH 8 rfl (.inr ⟨by rfl, rfl⟩) ?_
              simp only [Act.put, zA, zB, zC, zD, zE, zF]
              refine tH 9 rfl (.inr ⟨by rfl, rfl⟩) ?_
              simp only [Act.put, zA, zB, zC, zD, zE, zF]
              refine tH 10 rfl (.inr ⟨by rfl, rfl⟩) ?_
              simp only [Act.put, zA, zB, zC, zD, zE, zF]
              refine tH 11 (v := ?_) rfl (.inl ⟨by rfl, ?_⟩) ?_
              rotate_left
              ·intro w hSw; (try dsimp only at hSw); go_simp <;> with_reducible rfl
              simp only [Act.put, zA, zB, zC, zD, zE, zF]
              refine tH 12 (v := ?_) rfl (.inl ⟨by rfl, ?_⟩) ?_
              rotate_left
              ·intro w hSw; (try dsimp only at hSw); go_simp <;> with_reducible rfl
              simp only [Act.put, zA, zB, zC, zD, zE, zF]
              refine tH 13 (v := ?_) rfl (.inl ⟨by rfl, ?_⟩) ?_
              rotate_left
              ·intro w hSw; (try dsimp only at hSw); go_simp <;> with_reducible rfl
              simp only [Act.put, zA, zB, zC, zD, zE, zF]
              refine tH 14 (v := ?_) rfl (.inl ⟨by rfl, ?_⟩) ?_
              rotate_left
              ·intro w hSw; (try dsimp only at hSw); go_simp <;> with_reducible rfl
              simp only [Act.put, zA, zB, zC, zD, zE, zF]
              refine tH 15 (v := ?_) rfl (.inl ⟨by rfl, ?_⟩) ?_
              rotate_left
              ·intro w hSw; (try dsimp only at hSw); go_simp <;> with_reducible rfl
              simp only [Act.put, zA, zB, zC, zD, zE, zF]
              refine tH 16 (v := ?_) rfl (.inl ⟨by rfl, ?_⟩) ?_
              rotate_left
              ·intro w hSw; (try dsimp only at hSw); go_simp <;> with_reducible rfl
              simp only [Act.put, zA, zB, zC, zD, zE, zF]
              refine tH 17 (v := ?_) rfl (.inl ⟨by rfl, ?_⟩) ?_
              rotate_left
              ·intro w hSw; (try dsimp only at hSw); go_simp <;> with_reducible rfl
              simp only [Act.put, zA, zB, zC, zD, zE, zF]
              refine tH 18 (v := ?_) rfl (.inl ⟨by rfl, ?_⟩) ?_
              rotate_left
              ·intro w hSw; (try dsimp only at hSw); go_simp <;> with_reducible rfl
              simp only [Act.put, zA, zB, zC, zD, zE, zF]
              refine tH 19 (v := ?_) rfl (.inl ⟨by rfl, ?_⟩) ?_
              rotate_left
              ·intro w hSw; (try dsimp only at hSw); go_simp <;> with_reducible rfl
              simp only [Act.put, zA, zB, zC, zD, zE, zF]
              refine tH 20 (v := ?_) rfl (.inl ⟨by rfl, ?_⟩) ?_
              rotate_left
              ·intro w hSw; (try dsimp only at hSw); go_simp <;> with_reducible rfl
              simp only [Act.put, zA, zB, zC, zD, zE, zF]
              refine tH 21 (v := ?_) rfl (.inl ⟨by rfl, ?_⟩) ?_
              rotate_left
              ·intro w hSw; (try dsimp only at hSw); go_simp <;> with_reducible rfl
              simp only [Act.put, zA, zB, zC, zD, zE, zF]
              refine tH 22 (v := ?_) rfl (.inl ⟨by rfl, ?_⟩) ?_
              rotate_left
              ·intro w hSw; (try dsimp only at hSw); go_simp <;> with_reducible rfl
              simp only [Act.put, zA, zB, zC, zD, zE, zF]
              refine tH 23 (v := ?_) rfl (.inl ⟨by rfl, ?_⟩) ?_
              rotate_left
              ·intro w hSw; (try dsimp only at hSw); go_simp <;> with_reducible rfl
              simp only [Act.put, zA, zB, zC, zD, zE, zF]
              refine tH 24 (v := ?_) rfl (.inl ⟨by rfl, ?_⟩) ?_
              rotate_left
              ·intro w hSw; (try dsimp only at hSw); go_simp <;> with_reducible rfl
              simp only [Act.put, zA, zB, zC, zD, zE, zF]
              refine tH 25 (v := ?_) rfl (.inl ⟨by rfl, ?_⟩) ?_
              rotate_left
              ·intro w hSw; (try dsimp only at hSw); go_simp <;> with_reducible rfl
              simp only [Act.put, zA, zB, zC, zD, zE, zF]
              refine wpAnyH_ready (rs := [26]) (by kernel_rfl) (by simp) ?_
              refine AllReadyH.cons (o := _) rfl (fun K hK => ?_) ?_
              ·go_simp
               go_at_call 69
               (with_reducible refine (HC1.out _ HST.out HXB.out).mono ?_)
               rintro e w5 ⟨rfl, hst, hfr⟩
               clear hbx a0 a1 a2 a3 a4 a5 a6 xf3 kc1
               replace HST := am hst
               replace HXB := am (HXB.out.fr hfr)
               replace HK : qAd (w5.cell? ⟨(ad.add (kk * 4)).block, (ad.add (kk * 4)).off + 1, none⟩ = some (.int .i64 q1)) := ⟨hfr.cell HK.out HNM.out⟩
               clear hst hfr
               have hbx := HXB.out.h
               rw [← HMS.out.1, ← HMS.out.2.1, ← HMS.out.2.2.1, ← HMS.out.2.2.2.1, ← HMS.out.2.2.2.2.1, ← HMS.out.2.2.2.2.2.1, ← HMS.out.2.2.2.2.2.2] at hbx
               have a0 := (qAa hbx 0).trans rfl
               have a1 := (qAa hbx 1).trans rfl
               have a2 := (qAa hbx 2).trans rfl
               have a3 := (qAa hbx 3).trans rfl
               have a4 := (qAa hbx 4).trans rfl
               have a5 := (qAa hbx 5).trans rfl
               have a6 := (qAa hbx 6).trans rfl
               have xf3 := (qAa HST.out.x.1 3).trans rfl
               have kc1 := HK.out
               go_wp2_with fail
               refine hK.out _ _ ⟨a1, a2, a3, a4, a5, a6, xf3, kc1⟩ (fun hHeld => ?_)
               clear hK K
               try simp only [Act.put, zA, zB, zC, zD, zE, zF]
               refine tH 27 (v := ?_) rfl (.inl ⟨by rfl, ?_⟩) ?_
               rotate_left
               ·intro w hSw; (try dsimp only at hSw); go_simp <;> with_reducible rfl
               simp only [Act.put, zA, zB, zC, zD, zE, zF]
               refine tH 28 (v := ?_) rfl (.inl ⟨by rfl, ?_⟩) ?_
               rotate_left
               ·intro w hSw; (try dsimp only at hSw); go_simp <;> with_reducible rfl
               simp only [Act.put, zA, zB, zC, zD, zE, zF]
               refine tH 29 (v := ?_) rfl (.inl ⟨by rfl, ?_⟩) ?_
               rotate_left
               ·intro w hSw; (try dsimp only at hSw); go_simp <;> with_reducible rfl
               simp only [Act.put, zA, zB, zC, zD, zE, zF]
               refine wpAnyH_done (by kernel_rfl) ?_ _
               refine NoPanic.normal ?_
               go_wp2_with fail
               go_meet
               case rel => exact ⟨false, met1, shs1, rfl, ⟨by rw [qD0, ← hr1]; rfl⟩, HS1, HST⟩
              exact AllReadyH.nil
           | true =>
            have HNA : qAd (∀ (W1 : World) (met' : List Bool) (shs' : List S117), FoSt W M D S n cM cD cS #[.slice A1 p1 c1, .int .i64 res, .slice A2 l1 c2, .slice (some ad) n c3] #[.slice A4 f1 c4, .slice A5 v1 c5] met' (dn.set kk true) shs' W1 → XB M D S R gX D3 D4 D5 D6 d3 d4 d5 d6 W1 → (∀ y ∈ shs', qDa y) → Calls Tryz.prog 69 #[.slice (some ⟨M, 0, none⟩) n cM, .slice (some ⟨S, 0, none⟩) n cS, .int .i64 ((kk : Int) + 1), .agg #[.slice D3 m3 d3, .slice D4 m4 d4]] W1 fun e w' => e = .returned (.bool (qAW met' shs' ((kk : Int) + 1) R.f3).1) ∧ FoSt W M D S n cM cD cS #[.slice A1 p1 c1, .int .i64 res, .slice A2 l1 c2, .slice (some ad) n c3] #[.slice A4 f1 c4, .slice A5 v1 c5] (qAW met' shs' ((kk : Int) + 1) R.f3).2.1 (dn.set kk true) (qAW met' shs' ((kk : Int) + 1) R.f3).2.2 w' ∧ Fr W1 w' (fun q => q = M ∨ q = S)) := ⟨fun W1 met' shs' h hx hsm => by
              rw [HMS.out.2.2.2.1, HMS.out.2.2.2.2.1]
              refine (qE3 h.m h.s ((kk : Int) + 1) (by first | omega | exact hxo.2.2) (by first | exact HPL.out.1 rfl | exact HPL.out.2 rfl) R.f3 D3 D4 d3 d4 hx.g3 hx.l3 hx.g4 hx.l4 (fun q hq => ⟨⟨hq.1, hq.2.1⟩, hq.2.2, hq.1⟩) (by omega) (fun q hq => hq.1) hsm (by have := h.t; omega) h.t).mono ?_
              intro e w' hp
              exact h.noted hp hWM hMD hDS⟩
            obtain ⟨⟨t1, met1, shs1⟩, hr1⟩ : ∃ r, r = qAW met shs ((kk : Int) + 1) R.f3 := ⟨_, rfl⟩
            have HC1 : qAd (∀ W1, FoSt W M D S n cM cD cS #[.slice A1 p1 c1, .int .i64 res, .slice A2 l1 c2, .slice (some ad) n c3] #[.slice A4 f1 c4, .slice A5 v1 c5] met (dn.set kk true) shs W1 → XB M D S R gX D3 D4 D5 D6 d3 d4 d5 d6 W1 → Calls Tryz.prog 69 #[.slice (some ⟨M, 0, none⟩) n cM, .slice (some ⟨S, 0, none⟩) n cS, .int .i64 ((kk : Int) + 1), .agg #[.slice D3 m3 d3, .slice D4 m4 d4]] W1 fun e w' => e = .returned (.bool t1) ∧ FoSt W M D S n cM cD cS #[.slice A1 p1 c1, .int .i64 res, .slice A2 l1 c2, .slice (some ad) n c3] #[.slice A4 f1 c4, .slice A5 v1 c5] met1 (dn.set kk true) shs1 w' ∧ Fr W1 w' (fun q => q = M ∨ q = S)) := ⟨fun W1 h hx => by
              have h_ := HNA.out W1 met shs h hx HSM.out
              rw [← hr1] at h_
              exact h_⟩
            have HS1 : qAd (∀ y ∈ shs1, qDa y) := ⟨by
              have h_ := qDp (met := met) (i := (kk : Int) + 1) HSM.out (HSML.out.1 rfl)
              rw [← hr1] at h_
              exact h_⟩
            cases b2 with
            | false =>
             cases t1 with
             | false =>
              have hwk : wrap64 ((kk : Int) + 1) = (kk : Int) + 1 ∧ IntKind.i64.wrap ((kk : Int) + 1) = (kk : Int) + 1 := ⟨by unfold wrap64; omega, by simp [IntKind.wrap, IntKind.bits, IntKind.signed]; omega⟩
              obtain ⟨hwk, hwk2⟩ := hwk
              refine wp_region_noPanic ?_
              refine wp_region_held_drew (S := fun W' => W'.cell? ⟨gX, 1, none⟩ = some (.bool true) ∧ W'.cell? ⟨gX, 2, none⟩ = some (.bool false) ∧ W'.cell? ⟨gX, 3, none⟩ = some (.slice D3 m3 d3) ∧ W'.cell? ⟨gX, 4, none⟩ = some (.slice D4 m4 d4) ∧ W'.cell? ⟨gX, 5, none⟩ = some (.slice D5 m5 d5) ∧ W'.cell? ⟨gX, 6, none⟩ = some (.slice D6 m6 d6) ∧ W'.cell? ⟨W.heap.size, 3, none⟩ = some (.slice (some ad) n c3) ∧ W'.cell? ⟨(ad.add (kk * 4)).block, (ad.add (kk * 4)).off + 1, none⟩ = some (.int .i64 q1)) (by kernel_rfl) ⟨a1, a2, a3, a4, a5, a6, xf3, kc1⟩ (fun hHeld => ?_)
              refine tH 0 (v := ?_) rfl (.inl ⟨by rfl, ?_⟩) ?_
              rotate_left
              ·intro w hSw; (try dsimp only at hSw); go_simp <;> with_reducible rfl
              simp only [Act.put, zA, zB, zC, zD, zE, zF]
              refine tH 1 (v := ?_) rfl (.inl ⟨by rfl, ?_⟩) ?_
              rotate_left
              ·intro w hSw; (try dsimp only at hSw); go_simp <;> with_reducible rfl
              simp only [Act.put, zA, zB, zC, zD, zE, zF]
              refine tH 2 (v := ?_) rfl (.inl ⟨by rfl, ?_⟩) ?_
              rotate_left
              ·intro w hSw; (try dsimp only at hSw); go_simp <;> with_reducible rfl
              simp only [Act.put, zA, zB, zC, zD, zE, zF]
              refine tH 3 (v := ?_) rfl (.inl ⟨by rfl, ?_⟩) ?_
              rotate_left
              ·intro w hSw; (try dsimp only at hSw); go_simp <;> with_reducible rfl
              simp only [Act.put, zA, zB, zC, zD, zE, zF]
              refine tH 4 (v := ?_) rfl (.inl ⟨by rfl, ?_⟩) ?_
              rotate_left
              ·intro w hSw; (try dsimp only at hSw); go_simp <;> with_reducible rfl
              simp only [Act.put, zA, zB, zC, zD, zE, zF]
              refine tH 5 (v := ?_) rfl (.inl ⟨by rfl, ?_⟩) ?_
              rotate_left
              ·intro w hSw; (try dsimp only at hSw); go_simp <;> with_reducible rfl
              simp only [Act.put, zA, zB, zC, zD, zE, zF]
              refine tH 6 (v := ?_) rfl (.inl ⟨by rfl, ?_⟩) ?_
              rotate_left
              ·intro w hSw; (try dsimp only at hSw); go_simp <;> with_reducible rfl
              simp only [Act.put, zA, zB, zC, zD, zE, zF]
              refine tH 7 (v := ?_) rfl (.inl ⟨by rfl, ?_⟩) ?_
              rotate_left
              ·intro w hSw; (try dsimp only at hSw); go_simp <;> with_reducible rfl
              simp only [Act.put, zA, zB, zC, zD, zE, zF]
              refine tH 8 (v := ?_) rfl (.inl ⟨by rfl, ?_⟩) ?_
              rotate_left
              ·intro w hSw; (try dsimp only at hSw); go_simp <;> with_reducible rfl
              simp only [Act.put, zA, zB, zC, zD, zE, zF]
              refine wpAnyH_ready (rs := [9]) (by kernel_rfl) (by simp) ?_
              refine AllReadyH.cons (o := _) rfl (fun K hK => ?_) ?_
              ·go_simp
               go_at_call 69
               (with_reducible refine (HC1.out _ HST.out HXB.out).mono ?_)
               rintro e w5 ⟨rfl, hst, hfr⟩
               clear hbx a0 a1 a2 a3 a4 a5 a6 xf3 kc1
               replace HST := am hst
               replace HXB := am (HXB.out.fr hfr)
               replace HK : qAd (w5.cell? ⟨(ad.add (kk * 4)).block, (ad.add (kk * 4)).off + 1, none⟩ = some (.int .i64 q1)) := ⟨hfr.cell HK.out HNM.out⟩
               clear hst hfr
               have hbx := HXB.out.h
               rw [← HMS.out.1, ← HMS.out.2.1, ← HMS.out.2.2.1, ← HMS.out.2.2.2.1, ← HMS.out.2.2.2.2.1, ← HMS.out.2.2.2.2.2.1, ← HMS.out.2.2.2.2.2.2] at hbx
               have a0 := (qAa hbx 0).trans rfl
               have a1 := (qAa hbx 1).trans rfl
               have a2 := (qAa hbx 2).trans rfl
               have a3 := (qAa hbx 3).trans rfl
               have a4 := (qAa hbx 4).trans rfl
               have a5 := (qAa hbx 5).trans rfl
               have a6 := (qAa hbx 6).trans rfl
               have xf3 := (qAa HST.out.x.1 3).trans rfl
               have kc1 := HK.out
               go_wp2_with fail
               refine hK.out _ _ ⟨a1, a2, a3, a4, a5, a6, xf3, kc1⟩ (fun hHeld => ?_)
               clear hK K
               try simp only [Act.put, zA, zB, zC, zD, zE, zF]
               refine tH 10 (v := ?_) rfl (.inl ⟨by rfl, ?_⟩) ?_
               rotate_left
               ·intro w hSw; (try dsimp only at hSw); go_simp <;> with_reducible rfl
               simp only [Act.put, zA, zB, zC, zD, zE, zF]
               refine tH 11 (v := ?_) rfl (.inl ⟨by rfl, ?_⟩) ?_
               rotate_left
               ·intro w hSw; (try dsimp only at hSw); go_simp <;> with_reducible rfl
               simp only [Act.put, zA, zB, zC, zD, zE, zF]
               refine tH 12 (v := ?_) rfl (.inl ⟨by rfl, ?_⟩) ?_
               rotate_left
               ·intro w hSw; (try dsimp only at hSw); go_simp <;> with_reducible rfl
               simp only [Act.put, zA, zB, zC, zD, zE, zF]
               refine tH 13 rfl (.inr ⟨by rfl, rfl⟩) ?_
               simp only [Act.put, zA, zB, zC, zD, zE, zF]
               refine tH 14 rfl (.inr ⟨by rfl, rfl⟩) ?_
               simp only [Act.put, zA, zB, zC, zD, zE, zF]
               refine tH 15 rfl (.inr ⟨by rfl, rfl⟩) ?_
               simp only [Act.put, zA, zB, zC, zD, zE, zF]
               refine tH 16 rfl (.inr ⟨by rfl, rfl⟩) ?_
               simp only [Act.put, zA, zB, zC, zD, zE, zF]
               refine tH 17 rfl (.inr ⟨by rfl, rfl⟩) ?_
               simp only [Act.put, zA, zB, zC, zD, zE, zF]
               refine tH 18 rfl (.inr ⟨by rfl, rfl⟩) ?_
               simp only [Act.put, zA, zB, zC, zD, zE, zF]
               refine tH 19 rfl (.inr ⟨by rfl, rfl⟩) ?_
               simp only [Act.put, zA, zB, zC, zD, zE, zF]
               refine tH 20 rfl (.inr ⟨by rfl, rfl⟩) ?_
               simp only [Act.put, zA, zB, zC, zD, zE, zF]
               refine tH 21 rfl (.inr ⟨by rfl, rfl⟩) ?_
               simp only [Act.put, zA, zB, zC, zD, zE, zF]
               refine tH 22 rfl (.inr ⟨by rfl, rfl⟩) ?_
               simp only [Act.put, zA, zB, zC, zD, zE, zF]
               refine tH 23 rfl (.inr ⟨by rfl, rfl⟩) ?_
               simp only [Act.put, zA, zB, zC, zD, zE, zF]
               refine tH 24 rfl (.inr ⟨by rfl, rfl⟩) ?_
               simp only [Act.put, zA, zB, zC, zD, zE, zF]
               refine tH 25 rfl (.inr ⟨by rfl, rfl⟩) ?_
               simp only [Act.put, zA, zB, zC, zD, zE, zF]
               refine tH 26 rfl (.inr ⟨by rfl, rfl⟩) ?_
               simp only [Act.put, zA, zB, zC, zD, zE, zF]
               refine tH 27 rfl (.inr ⟨by rfl, rfl⟩) ?_
               simp only [Act.put, zA, zB, zC, zD, zE, zF]
               refine tH 28 rfl (.inr ⟨by rfl, rfl⟩) ?_
               simp only [Act.put, zA, zB, zC, zD, zE, zF]
               refine tH 29 (v := ?_) rfl (.inl ⟨by rfl, ?_⟩) ?_
               rotate_left
               ·intro w hSw; (try dsimp only at hSw); go_simp <;> with_reducible rfl
               simp only [Act.put, zA, zB, zC, zD, zE, zF]
               refine wpAnyH_done (by kernel_rfl) ?_ _
               refine NoPanic.normal ?_
               go_wp2_with fail
               go_meet
               case rel => exact ⟨true, met1, shs1, rfl, ⟨by rw [qD1, ← hr1]; rfl⟩, HS1, HST⟩
              exact AllReadyH.nil
             | true =>
              have hwk : wrap64 ((kk : Int) + 1) = (kk : Int) + 1 ∧ IntKind.i64.wrap ((kk : Int) + 1) = (kk : Int) + 1 := ⟨by unfold wrap64; omega, by simp [IntKind.wrap, IntKind.bits, IntKind.signed]; omega⟩
              obtain ⟨hwk, hwk2⟩ := hwk
              refine wp_region_noPanic ?_
              refine wp_region_held_drew (S := fun W' => W'.cell? ⟨gX, 1, none⟩ = some (.bool true) ∧ W'.cell? ⟨gX, 2, none⟩ = some (.bool false) ∧ W'.cell? ⟨gX, 3, none⟩ = some (.slice D3 m3 d3) ∧ W'.cell? ⟨gX, 4, none⟩ = some (.slice D4 m4 d4) ∧ W'.cell? ⟨gX, 5, none⟩ = some (.slice D5 m5 d5) ∧ W'.cell? ⟨gX, 6, none⟩ = some (.slice D6 m6 d6) ∧ W'.cell? ⟨W.heap.size, 3, none⟩ = some (.slice (some ad) n c3) ∧ W'.cell? ⟨(ad.add (kk * 4)).block, (ad.add (kk * 4)).off + 1, none⟩ = some (.int .i64 q1)) (by kernel_rfl) ⟨a1, a2, a3, a4, a5, a6, xf3, kc1⟩ (fun hHeld => ?_)
              refine tH 0 (v := ?_) rfl (.inl ⟨by rfl, ?_⟩) ?_
              rotate_left
              ·intro w hSw; (try dsimp only at hSw); go_simp <;> with_reducible rfl
              simp only [Act.put, zA, zB, zC, zD, zE, zF]
              refine tH 1 (v := ?_) rfl (.inl ⟨by rfl, ?_⟩) ?_
              rotate_left
              ·intro w hSw; (try dsimp only at hSw); go_simp <;> with_reducible rfl
              simp only [Act.put, zA, zB, zC, zD, zE, zF]
              refine tH 2 (v := ?_) rfl (.inl ⟨by rfl, ?_⟩) ?_
              rotate_left
              ·intro w hSw; (try dsimp only at hSw); go_simp <;> with_reducible rfl
              simp only [Act.put, zA, zB, zC, zD, zE, zF]
              refine tH 3 (v := ?_) rfl (.inl ⟨by rfl, ?_⟩) ?_
              rotate_left
              ·intro w hSw; (try dsimp only at hSw); go_simp <;> with_reducible rfl
              simp only [Act.put, zA, zB, zC, zD, zE, zF]
              refine tH 4 (v := ?_) rfl (.inl ⟨by rfl, ?_⟩) ?_
              rotate_left
              ·intro w hSw; (try dsimp only at hSw); go_simp <;> with_reducible rfl
              simp only [Act.put, zA, zB, zC, zD, zE, zF]
              refine tH 5 (v := ?_) rfl (.inl ⟨by rfl, ?_⟩) ?_
              rotate_left
              ·intro w hSw; (try dsimp only at hSw); go_simp <;> with_reducible rfl
              simp only [Act.put, zA, zB, zC, zD, zE, zF]
              refine tH 6 (v := ?_) rfl (.inl ⟨by rfl, ?_⟩) ?_
              rotate_left
              ·intro w hSw; (try dsimp only at hSw); go_simp <;> with_reducible rfl
              simp only [Act.put, zA, zB, zC, zD, zE, zF]
              refine tH 7 (v := ?_) rfl (.inl ⟨by rfl, ?_⟩) ?_
              rotate_left
              ·intro w hSw; (try dsimp only at hSw); go_simp <;> with_reducible rfl
              simp only [Act.put, zA, zB, zC, zD, zE, zF]
              refine tH 8 (v := ?_) rfl (.inl ⟨by rfl, ?_⟩) ?_
              rotate_left
              ·intro w hSw; (try dsimp only at hSw); go_simp <;> with_reducible rfl
              simp only [Act.put, zA, zB, zC, zD, zE, zF]
              refine wpAnyH_ready (rs := [9]) (by kernel_rfl) (by simp) ?_
              refine AllReadyH.cons (o := _) rfl (fun K hK => ?_) ?_
              ·go_simp
               go_at_call 69
               (with_reducible refine (HC1.out _ HST.out HXB.out).mono ?_)
               rintro e w5 ⟨rfl, hst, hfr⟩
               clear hbx a0 a1 a2 a3 a4 a5 a6 xf3 kc1
               replace HST := am hst
               replace HXB := am (HXB.out.fr hfr)
               replace HK : qAd (w5.cell? ⟨(ad.add (kk * 4)).block, (ad.add (kk * 4)).off + 1, none⟩ = some (.int .i64 q1)) := ⟨hfr.cell HK.out HNM.out⟩
               clear hst hfr
               have hbx := HXB.out.h
               rw [← HMS.out.1, ← HMS.out.2.1, ← HMS.out.2.2.1, ← HMS.out.2.2.2.1, ← HMS.out.2.2.2.2.1, ← HMS.out.2.2.2.2.2.1, ← HMS.out.2.2.2.2.2.2] at hbx
               have a0 := (qAa hbx 0).trans rfl
               have a1 := (qAa hbx 1).trans rfl
               have a2 := (qAa hbx 2).trans rfl
               have a3 := (qAa hbx 3).trans rfl
               have a4 := (qAa hbx 4).trans rfl
               have a5 := (qAa hbx 5).trans rfl
               have a6 := (qAa hbx 6).trans rfl
               have xf3 := (qAa HST.out.x.1 3).trans rfl
               have kc1 := HK.out
               go_wp2_with fail
               refine hK.out _ _ ⟨a1, a2, a3, a4, a5, a6, xf3, kc1⟩ (fun hHeld => ?_)
               clear hK K
               try simp only [Act.put, zA, zB, zC, zD, zE, zF]
               refine tH 10 (v := ?_) rfl (.inl ⟨by rfl, ?_⟩) ?_
               rotate_left
               ·intro w hSw; (try dsimp only at hSw); go_simp <;> with_reducible rfl
               simp only [Act.put, zA, zB, zC, zD, zE, zF]
               refine tH 11 (v := ?_) rfl (.inl ⟨by rfl, ?_⟩) ?_
               rotate_left
               ·intro w hSw; (try dsimp only at hSw); go_simp <;> with_reducible rfl
               simp only [Act.put, zA, zB, zC, zD, zE, zF]
               refine tH 12 (v := ?_) rfl (.inl ⟨by rfl, ?_⟩) ?_
               rotate_left
               ·intro w hSw; (try dsimp only at hSw); go_simp <;> with_reducible rfl
               simp only [Act.put, zA, zB, zC, zD, zE, zF]
               refine tH 13 (v := ?_) rfl (.inl ⟨by rfl, ?_⟩) ?_
               rotate_left
               ·intro w hSw; (try dsimp only at hSw); go_simp <;> with_reducible rfl
               simp only [Act.put, zA, zB, zC, zD, zE, zF]
               refine tH 14 (v := ?_) rfl (.inl ⟨by rfl, ?_⟩) ?_
               rotate_left
               ·intro w hSw; (try dsimp only at hSw); go_simp <;> with_reducible rfl
               simp only [Act.put, zA, zB, zC, zD, zE, zF]
               refine tH 15 (v := ?_) rfl (.inl ⟨by rfl, ?_⟩) ?_
               rotate_left
               ·intro w hSw; (try dsimp only at hSw); go_simp <;> with_reducible rfl
               simp only [Act.put, zA, zB, zC, zD, zE, zF]
               refine tH 16 rfl (.inr ⟨by rfl, rfl⟩) ?_
               simp only [Act.put, zA, zB, zC, zD, zE, zF]
               refine tH 17 rfl (.inr ⟨by rfl, rfl⟩) ?_
               simp only [Act.put, zA, zB, zC, zD, zE, zF]
               refine tH 18 rfl (.inr ⟨by rfl, rfl⟩) ?_
               simp only [Act.put, zA, zB, zC, zD, zE, zF]
               refine tH 19 rfl (.inr ⟨by rfl, rfl⟩) ?_
               simp only [Act.put, zA, zB, zC, zD, zE, zF]
               refine tH 20 rfl (.inr ⟨by rfl, rfl⟩) ?_
               simp only [Act.put, zA, zB, zC, zD, zE, zF]
               refine tH 21 rfl (.inr ⟨by rfl, rfl⟩) ?_
               simp only [Act.put, zA, zB, zC, zD, zE, zF]
               refine tH 22 rfl (.inr ⟨by rfl, rfl⟩) ?_
               simp only [Act.put, zA, zB, zC, zD, zE, zF]
               refine tH 23 rfl (.inr ⟨by rfl, rfl⟩) ?_
               simp only [Act.put, zA, zB, zC, zD, zE, zF]
               refine tH 24 rfl (.inr ⟨by rfl, rfl⟩) ?_
               simp only [Act.put, zA, zB, zC, zD, zE, zF]
               refine tH 25 rfl (.inr ⟨by rfl, rfl⟩) ?_
               simp only [Act.put, zA, zB, zC, zD, zE, zF]
               refine tH 26 rfl (.inr ⟨by rfl, rfl⟩) ?_
               simp only [Act.put, zA, zB, zC, zD, zE, zF]
               refine tH 27 rfl (.inr ⟨by rfl, rfl⟩) ?_
               simp only [Act.put, zA, zB, zC, zD, zE, zF]
               refine tH 28 (v := ?_) rfl (.inl ⟨by rfl, ?_⟩) ?_
               rotate_left
               ·intro w hSw; (try dsimp only at hSw); go_simp <;> with_reducible rfl
               simp only [Act.put, zA, zB, zC, zD, zE, zF]
               refine tH 29 (v := ?_) rfl (.inl ⟨by rfl, ?_⟩) ?_
               rotate_left
               ·intro w hSw; (try dsimp only at hSw); go_simp <;> with_reducible rfl
               simp only [Act.put, zA, zB, zC, zD, zE, zF]
               refine wpAnyH_done (by kernel_rfl) ?_ _
               refine NoPanic.normal ?_
               go_wp2_with fail
               go_meet
               case rel => exact ⟨false, met1, shs1, rfl, ⟨by rw [qD1, ← hr1]; rfl⟩, HS1, HST⟩
              exact AllReadyH.nil
            | true =>
             cases t1 with
             | false =>
              have hwk : wrap64 ((kk : Int) + 1) = (kk : Int) + 1 ∧ IntKind.i64.wrap ((kk : Int) + 1) = (kk : Int) + 1 := ⟨by unfold wrap64; omega, by simp [IntKind.wrap, IntKind.bits, IntKind.signed]; omega⟩
              obtain ⟨hwk, hwk2⟩ := hwk
              refine wp_region_noPanic ?_
              refine wp_region_held_drew (S := fun W' => W'.cell? ⟨gX, 1, none⟩ = some (.bool true) ∧ W'.cell? ⟨gX, 2, none⟩ = some (.bool true) ∧ W'.cell? ⟨gX, 3, none⟩ = some (.slice D3 m3 d3) ∧ W'.cell? ⟨gX, 4, none⟩ = some (.slice D4 m4 d4) ∧ W'.cell? ⟨gX, 5, none⟩ = some (.slice D5 m5 d5) ∧ W'.cell? ⟨gX, 6, none⟩ = some (.slice D6 m6 d6) ∧ W'.cell? ⟨W.heap.size, 3, none⟩ = some (.slice (some ad) n c3) ∧ W'.cell? ⟨(ad.add (kk * 4)).block, (ad.add (kk * 4)).off + 1, none⟩ = some (.int .i64 q1)) (by kernel_rfl) ⟨a1, a2, a3, a4, a5, a6, xf3, kc1⟩ (fun hHeld => ?_)
              refine tH 0 (v := ?_) rfl (.inl ⟨by rfl, ?_⟩) ?_
              rotate_left
              ·intro w hSw; (try dsimp only at hSw); go_simp <;> with_reducible rfl
              simp only [Act.put, zA, zB, zC, zD, zE, zF]
              refine tH 1 (v := ?_) rfl (.inl ⟨by rfl, ?_⟩) ?_
              rotate_left
              ·intro w hSw; (try dsimp only at hSw); go_simp <;> with_reducible rfl
              simp only [Act.put, zA, zB, zC, zD, zE, zF]
              refine tH 2 (v := ?_) rfl (.inl ⟨by rfl, ?_⟩) ?_
              rotate_left
              ·intro w hSw; (try dsimp only at hSw); go_simp <;> with_reducible rfl
              simp only [Act.put, zA, zB, zC, zD, zE, zF]
              refine tH 3 (v := ?_) rfl (.inl ⟨by rfl, ?_⟩) ?_
              rotate_left
              ·intro w hSw; (try dsimp only at hSw); go_simp <;> with_reducible rfl
              simp only [Act.put, zA, zB, zC, zD, zE, zF]
              refine tH 4 (v := ?_) rfl (.inl ⟨by rfl, ?_⟩) ?_
              rotate_left
              ·intro w hSw; (try dsimp only at hSw); go_simp <;> with_reducible rfl
              simp only [Act.put, zA, zB, zC, zD, zE, zF]
              refine tH 5 (v := ?_) rfl (.inl ⟨by rfl, ?_⟩) ?_
              rotate_left
              ·intro w hSw; (try dsimp only at hSw); go_simp <;> with_reducible rfl
              simp only [Act.put, zA, zB, zC, zD, zE, zF]
              refine tH 6 (v := ?_) rfl (.inl ⟨by rfl, ?_⟩) ?_
              rotate_left
              ·intro w hSw; (try dsimp only at hSw); go_simp <;> with_reducible rfl
              simp only [Act.put, zA, zB, zC, zD, zE, zF]
              refine tH 7 (v := ?_) rfl (.inl ⟨by rfl, ?_⟩) ?_
              rotate_left
              ·intro w hSw; (try dsimp only at hSw); go_simp <;> with_reducible rfl
              simp only [Act.put, zA, zB, zC, zD, zE, zF]
              refine tH 8 (v := ?_) rfl (.inl ⟨by rfl, ?_⟩) ?_
              rotate_left
              ·intro w hSw; (try dsimp only at hSw); go_simp <;> with_reducible rfl
              simp only [Act.put, zA, zB, zC, zD, zE, zF]
              refine wpAnyH_ready (rs := [9]) (by kernel_rfl) (by simp) ?_
              refine AllReadyH.cons (o := _) rfl (fun K hK => ?_) ?_
              ·go_simp
               go_at_call 69
               (with_reducible refine (HC1.out _ HST.out HXB.out).mono ?_)
               rintro e w5 ⟨rfl, hst, hfr⟩
               clear hbx a0 a1 a2 a3 a4 a5 a6 xf3 kc1
               replace HST := am hst
               replace HXB := am (HXB.out.fr hfr)
               replace HK : qAd (w5.cell? ⟨(ad.add (kk * 4)).block, (ad.add (kk * 4)).off + 1, none⟩ = some (.int .i64 q1)) := ⟨hfr.cell HK.out HNM.out⟩
               clear hst hfr
               have hbx := HXB.out.h
               rw [← HMS.out.1, ← HMS.out.2.1, ← HMS.out.2.2.1, ← HMS.out.2.2.2.1, ← HMS.out.2.2.2.2.1, ← HMS.out.2.2.2.2.2.1, ← HMS.out.2.2.2.2.2.2] at hbx
               have a0 := (qAa hbx 0).trans rfl
               have a1 := (qAa hbx 1).trans rfl
               have a2 := (qAa hbx 2).trans rfl
               have a3 := (qAa hbx 3).trans rfl
               have a4 := (qAa hbx 4).trans rfl
               have a5 := (qAa hbx 5).trans rfl
               have a6 := (qAa hbx 6).trans rfl
               have xf3 := (qAa HST.out.x.1 3).trans rfl
               have kc1 := HK.out
               go_wp2_with fail
               refine hK.out _ _ ⟨a1, a2, a3, a4, a5, a6, xf3, kc1⟩ (fun hHeld => ?_)
               clear hK K
               try simp only [Act.put, zA, zB, zC, zD, zE, zF]
               refine tH 10 (v := ?_) rfl (.inl ⟨by rfl, ?_⟩) ?_
               rotate_left
               ·intro w hSw; (try dsimp only at hSw); go_simp <;> with_reducible rfl
               simp only [Act.put, zA, zB, zC, zD, zE, zF]
               refine tH 11 (v := ?_) rfl (.inl ⟨by rfl, ?_⟩) ?_
               rotate_left
               ·intro w hSw; (try dsimp only at hSw); go_simp <;> with_reducible rfl
               simp only [Act.put, zA, zB, zC, zD, zE, zF]
               refine tH 12 (v := ?_) rfl (.inl ⟨by rfl, ?_⟩) ?_
               rotate_left
               ·intro w hSw; (try dsimp only at hSw); go_simp <;> with_reducible rfl
               simp only [Act.put, zA, zB, zC, zD, zE, zF]
               refine tH 13 rfl (.inr ⟨by rfl, rfl⟩) ?_
               simp only [Act.put, zA, zB, zC, zD, zE, zF]
               refine tH 14 rfl (.inr ⟨by rfl, rfl⟩) ?_
               simp only [Act.put, zA, zB, zC, zD, zE, zF]
               refine tH 15 rfl (.inr ⟨by rfl, rfl⟩) ?_
               simp only [Act.put, zA, zB, zC, zD, zE, zF]
               refine tH 16 rfl (.inr ⟨by rfl, rfl⟩) ?_
               simp only [Act.put, zA, zB, zC, zD, zE, zF]
               refine tH 17 rfl (.inr ⟨by rfl, rfl⟩) ?_
               simp only [Act.put, zA, zB, zC, zD, zE, zF]
               refine tH 18 rfl (.inr ⟨by rfl, rfl⟩) ?_
               simp only [Act.put, zA, zB, zC, zD, zE, zF]
               refine tH 19 rfl (.inr ⟨by rfl, rfl⟩) ?_
               simp only [Act.put, zA, zB, zC, zD, zE, zF]
               refine tH 20 rfl (.inr ⟨by rfl, rfl⟩) ?_
               simp only [Act.put, zA, zB, zC, zD, zE, zF]
               refine tH 21 rfl (.inr ⟨by rfl, rfl⟩) ?_
               simp only [Act.put, zA, zB, zC, zD, zE, zF]
               refine tH 22 rfl (.inr ⟨by rfl, rfl⟩) ?_
               simp only [Act.put, zA, zB, zC, zD, zE, zF]
               refine tH 23 rfl (.inr ⟨by rfl, rfl⟩) ?_
               simp only [Act.put, zA, zB, zC, zD, zE, zF]
               refine tH 24 rfl (.inr ⟨by rfl, rfl⟩) ?_
               simp only [Act.put, zA, zB, zC, zD, zE, zF]
               refine tH 25 rfl (.inr ⟨by rfl, rfl⟩) ?_
               simp only [Act.put, zA, zB, zC, zD, zE, zF]
               refine tH 26 rfl (.inr ⟨by rfl, rfl⟩) ?_
               simp only [Act.put, zA, zB, zC, zD, zE, zF]
               refine tH 27 rfl (.inr ⟨by rfl, rfl⟩) ?_
               simp only [Act.put, zA, zB, zC, zD, zE, zF]
               refine tH 28 rfl (.inr ⟨by rfl, rfl⟩) ?_
               simp only [Act.put, zA, zB, zC, zD, zE, zF]
               refine tH 29 (v := ?_) rfl (.inl ⟨by rfl, ?_⟩) ?_
               rotate_left
               ·intro w hSw; (try dsimp only at hSw); go_simp <;> with_reducible rfl
               simp only [Act.put, zA, zB, zC, zD, zE, zF]
               refine wpAnyH_done (by kernel_rfl) ?_ _
               refine NoPanic.normal ?_
               go_wp2_with fail
               go_meet
               case rel => exact ⟨true, met1, shs1, rfl, ⟨by rw [qCY, ← hr1]; rfl⟩, HS1, HST⟩
              exact AllReadyH.nil
             | true =>
              have HNB : qAd (∀ (W1 : World) (met' : List Bool) (shs' : List S117), FoSt W M D S n cM cD cS #[.slice A1 p1 c1, .int .i64 res, .slice A2 l1 c2, .slice (some ad) n c3] #[.slice A4 f1 c4, .slice A5 v1 c5] met' (dn.set kk true) shs' W1 → XB M D S R gX D3 D4 D5 D6 d3 d4 d5 d6 W1 → (∀ y ∈ shs', qDa y) → Calls Tryz.prog 69 #[.slice (some ⟨M, 0, none⟩) n cM, .slice (some ⟨S, 0, none⟩) n cS, .int .i64 (q1), .agg #[.slice D5 m5 d5, .slice D6 m6 d6]] W1 fun e w' => e = .returned (.bool (qAW met' shs' (q1) R.f4).1) ∧ FoSt W M D S n cM cD cS #[.slice A1 p1 c1, .int .i64 res, .slice A2 l1 c2, .slice (some ad) n c3] #[.slice A4 f1 c4, .slice A5 v1 c5] (qAW met' shs' (q1) R.f4).2.1 (dn.set kk true) (qAW met' shs' (q1) R.f4).2.2 w' ∧ Fr W1 w' (fun q => q = M ∨ q = S)) := ⟨fun W1 met' shs' h hx hsm => by
                rw [HMS.out.2.2.2.2.2.1, HMS.out.2.2.2.2.2.2]
                refine (qE3 h.m h.s (q1) (by first | omega | exact hxo.2.2) (by first | exact HPL.out.1 rfl | exact HPL.out.2 rfl) R.f4 D5 D6 d5 d6 hx.g5 hx.l5 hx.g6 hx.l6 (fun q hq => ⟨⟨hq.1, hq.2.1⟩, hq.2.2, hq.1⟩) (by omega) (fun q hq => hq.1) hsm (by have := h.t; omega) h.t).mono ?_
                intro e w' hp
                exact h.noted hp hWM hMD hDS⟩
              obtain ⟨⟨t2, met2, shs2⟩, hr2⟩ : ∃ r, r = qAW met1 shs1 (q1) R.f4 := ⟨_, rfl⟩
              have HC2 : qAd (∀ W1, FoSt W M D S n cM cD cS #[.slice A1 p1 c1, .int .i64 res, .slice A2 l1 c2, .slice (some ad) n c3] #[.slice A4 f1 c4, .slice A5 v1 c5] met1 (dn.set kk true) shs1 W1 → XB M D S R gX D3 D4 D5 D6 d3 d4 d5 d6 W1 → Calls Tryz.prog 69 #[.slice (some ⟨M, 0, none⟩) n cM, .slice (some ⟨S, 0, none⟩) n cS, .int .i64 (q1), .agg #[.slice D5 m5 d5, .slice D6 m6 d6]] W1 fun e w' => e = .returned (.bool t2) ∧ FoSt W M D S n cM cD cS #[.slice A1 p1 c1, .int .i64 res, .slice A2 l1 c2, .slice (some ad) n c3] #[.slice A4 f1 c4, .slice A5 v1 c5] met2 (dn.set kk true) shs2 w' ∧ Fr W1 w' (fun q => q = M ∨ q = S)) := ⟨fun W1 h hx => by
                have h_ := HNB.out W1 met1 shs1 h hx HS1.out
                rw [← hr2] at h_
                exact h_⟩
              have HS2 : qAd (∀ y ∈ shs2, qDa y) := ⟨by
                have h_ := qDp (met := met1) (i := q1) HS1.out (HSML.out.2 rfl)
                rw [← hr2] at h_
                exact h_⟩
              cases t2 with
              | false =>
               have hwk : wrap64 ((kk : Int) + 1) = (kk : Int) + 1 ∧ IntKind.i64.wrap ((kk : Int) + 1) = (kk : Int) + 1 := ⟨by unfold wrap64; omega, by simp [IntKind.wrap, IntKind.bits, IntKind.signed]; omega⟩
               obtain ⟨hwk, hwk2⟩ := hwk
               refine wp_region_noPanic ?_
               refine wp_region_held_drew (S := fun W' => W'.cell? ⟨gX, 1, none⟩ = some (.bool true) ∧ W'.cell? ⟨gX, 2, none⟩ = some (.bool true) ∧ W'.cell? ⟨gX, 3, none⟩ = some (.slice D3 m3 d3) ∧ W'.cell? ⟨gX, 4, none⟩ = some (.slice D4 m4 d4) ∧ W'.cell? ⟨gX, 5, none⟩ = some (.slice D5 m5 d5) ∧ W'.cell? ⟨gX, 6, none⟩ = some (.slice D6 m6 d6) ∧ W'.cell? ⟨W.heap.size, 3, none⟩ = some (.slice (some ad) n c3) ∧ W'.cell? ⟨(ad.add (kk * 4)).block, (ad.add (kk * 4)).off + 1, none⟩ = some (.int .i64 q1)) (by kernel_rfl) ⟨a1, a2, a3, a4, a5, a6, xf3, kc1⟩ (fun hHeld => ?_)
               refine tH 0 (v := ?_) rfl (.inl ⟨by rfl, ?_⟩) ?_
               rotate_left
               ·intro w hSw; (try dsimp only at hSw); go_simp <;> with_reducible rfl
               simp only [Act.put, zA, zB, zC, zD, zE, zF]
               refine tH 1 (v := ?_) rfl (.inl ⟨by rfl, ?_⟩) ?_
               rotate_left
               ·intro w hSw; (try dsimp only at hSw); go_simp <;> with_reducible rfl
               simp only [Act.put, zA, zB, zC, zD, zE, zF]
               refine tH 2 (v := ?_) rfl (.inl ⟨by rfl, ?_⟩) ?_
               rotate_left
               ·intro w hSw; (try dsimp only at hSw); go_simp <;> with_reducible rfl
               simp only [Act.put, zA, zB, zC, zD, zE, zF]
               refine tH 3 (v := ?_) rfl (.inl ⟨by rfl, ?_⟩) ?_
               rotate_left
               ·intro w hSw; (try dsimp only at hSw); go_simp <;> with_reducible rfl
               simp only [Act.put, zA, zB, zC, zD, zE, zF]
               refine tH 4 (v := ?_) rfl (.inl ⟨by rfl, ?_⟩) ?_
               rotate_left
               ·intro w hSw; (try dsimp only at hSw); go_simp <;> with_reducible rfl
               simp only [Act.put, zA, zB, zC, zD, zE, zF]
               refine tH 5 (v := ?_) rfl (.inl ⟨by rfl, ?_⟩) ?_
               rotate_left
               ·intro w hSw; (try dsimp only at hSw); go_simp <;> with_reducible rfl
               simp only [Act.put, zA, zB, zC, zD, zE, zF]
               refine tH 6 (v := ?_) rfl (.inl ⟨by rfl, ?_⟩) ?_
               rotate_left
               ·intro w hSw; (try dsimp only at hSw); go_simp <;> with_reducible rfl
               simp only [Act.put, zA, zB, zC, zD, zE, zF]
               refine tH 7 (v := ?_) rfl (.inl ⟨by rfl, ?_⟩) ?_
               rotate_left
               ·intro w hSw; (try dsimp only at hSw); go_simp <;> with_reducible rfl
               simp only [Act.put, zA, zB, zC, zD, zE, zF]
               refine tH 8 (v := ?_) rfl (.inl ⟨by rfl, ?_⟩) ?_
               rotate_left
               ·intro w hSw; (try dsimp only at hSw); go_simp <;> with_reducible rfl
               simp only [Act.put, zA, zB, zC, zD, zE, zF]
               refine wpAnyH_ready (rs := [9]) (by kernel_rfl) (by simp) ?_
               refine AllReadyH.cons (o := _) rfl (fun K hK => ?_) ?_
               ·go_simp
                go_at_call 69
                (with_reducible refine (HC1.out _ HST.out HXB.out).mono ?_)
                rintro e w5 ⟨rfl, hst, hfr⟩
                clear hbx a0 a1 a2 a3 a4 a5 a6 xf3 kc1
                replace HST := am hst
                replace HXB := am (HXB.out.fr hfr)
                replace HK : qAd (w5.cell? ⟨(ad.add (kk * 4)).block, (ad.add (kk * 4)).off + 1, none⟩ = some (.int .i64 q1)) := ⟨hfr.cell HK.out HNM.out⟩
                clear hst hfr
                have hbx := HXB.out.h
                rw [← HMS.out.1, ← HMS.out.2.1, ← HMS.out.2.2.1, ← HMS.out.2.2.2.1, ← HMS.out.2.2.2.2.1, ← HMS.out.2.2.2.2.2.1, ← HMS.out.2.2.2.2.2.2] at hbx
                have a0 := (qAa hbx 0).trans rfl
                have a1 := (qAa hbx 1).trans rfl
                have a2 := (qAa hbx 2).trans rfl
                have a3 := (qAa hbx 3).trans rfl
                have a4 := (qAa hbx 4).trans rfl
                have a5 := (qAa hbx 5).trans rfl
                have a6 := (qAa hbx 6).trans rfl
                have xf3 := (qAa HST.out.x.1 3).trans rfl
                have kc1 := HK.out
                go_wp2_with fail
                refine hK.out _ _ ⟨a1, a2, a3, a4, a5, a6, xf3, kc1⟩ (fun hHeld => ?_)
                clear hK K
                try simp only [Act.put, zA, zB, zC, zD, zE, zF]
                refine tH 10 (v := ?_) rfl (.inl ⟨by rfl, ?_⟩) ?_
                rotate_left
                ·intro w hSw; (try dsimp only at hSw); go_simp <;> with_reducible rfl
                simp only [Act.put, zA, zB, zC, zD, zE, zF]
                refine tH 11 (v := ?_) rfl (.inl ⟨by rfl, ?_⟩) ?_
                rotate_left
                ·intro w hSw; (try dsimp only at hSw); go_simp <;> with_reducible rfl
                simp only [Act.put, zA, zB, zC, zD, zE, zF]
                refine tH 12 (v := ?_) rfl (.inl ⟨by rfl, ?_⟩) ?_
                rotate_left
                ·intro w hSw; (try dsimp only at hSw); go_simp <;> with_reducible rfl
                simp only [Act.put, zA, zB, zC, zD, zE, zF]
                refine tH 13 (v := ?_) rfl (.inl ⟨by rfl, ?_⟩) ?_
                rotate_left
                ·intro w hSw; (try dsimp only at hSw); go_simp <;> with_reducible rfl
                simp only [Act.put, zA, zB, zC, zD, zE, zF]
                refine tH 14 (v := ?_) rfl (.inl ⟨by rfl, ?_⟩) ?_
                rotate_left
                ·intro w hSw; (try dsimp only at hSw); go_simp <;> with_reducible rfl
                simp only [Act.put, zA, zB, zC, zD, zE, zF]
                refine tH 15 (v := ?_) rfl (.inl ⟨by rfl, ?_⟩) ?_
                rotate_left
                ·intro w hSw; (try dsimp only at hSw); go_simp <;> with_reducible rfl
                simp only [Act.put, zA, zB, zC, zD, zE, zF]
                refine tH 16 (v := ?_) rfl (.inl ⟨by rfl, ?_⟩) ?_
                rotate_left
                ·intro w hSw; (try dsimp only at hSw); go_simp <;> with_reducible rfl
                simp only [Act.put, zA, zB, zC, zD, zE, zF]
                refine tH 17 (v := ?_) rfl (.inl ⟨by rfl, ?_⟩) ?_
                rotate_left
                ·intro w hSw; (try dsimp only at hSw); go_simp <;> with_reducible rfl
                simp only [Act.put, zA, zB, zC, zD, zE, zF]
                refine tH 18 (v := ?_) rfl (.inl ⟨by rfl, ?_⟩) ?_
                rotate_left
                ·intro w hSw; (try dsimp only at hSw); go_simp <;> with_reducible rfl
                simp only [Act.put, zA, zB, zC, zD, zE, zF]
                refine tH 19 (v := ?_) rfl (.inl ⟨by rfl, ?_⟩) ?_
                rotate_left
                ·intro w hSw; (try dsimp only at hSw); go_simp <;> with_reducible rfl
                simp only [Act.put, zA, zB, zC, zD, zE, zF]
                refine tH 20 (v := ?_) rfl (.inl ⟨by rfl, ?_⟩) ?_
                rotate_left
                ·intro w hSw; (try dsimp only at hSw); go_simp <;> with_reducible rfl
                simp only [Act.put, zA, zB, zC, zD, zE, zF]
                refine tH 21 (v := ?_) rfl (.inl ⟨by rfl, ?_⟩) ?_
                rotate_left
                ·intro w hSw; (try dsimp only at hSw); go_simp <;> with_reducible rfl
                simp only [Act.put, zA, zB, zC, zD, zE, zF]
                refine tH 22 (v := ?_) rfl (.inl ⟨by rfl, ?_⟩) ?_
                rotate_left
                ·intro w hSw; (try dsimp only at hSw); go_simp <;> with_reducible rfl
                simp only [Act.put, zA, zB, zC, zD, zE, zF]
                refine tH 23 (v := ?_) rfl (.inl ⟨by rfl, ?_⟩) ?_
                rotate_left
                ·intro w hSw; (try dsimp only at hSw); go_simp <;> with_reducible rfl
                simp only [Act.put, zA, zB, zC, zD, zE, zF]
                refine tH 24 (v := ?_) rfl (.inl ⟨by rfl, ?_⟩) ?_
                rotate_left
                ·intro w hSw; (try dsimp only at hSw); go_simp <;> with_reducible rfl
                simp only [Act.put, zA, zB, zC, zD, zE, zF]
                refine tH 25 (v := ?_) rfl (.inl ⟨by rfl, ?_⟩) ?_
                rotate_left
                ·intro w hSw; (try dsimp only at hSw); go_simp <;> with_reducible rfl
                simp only [Act.put, zA, zB, zC, zD, zE, zF]
                refine wpAnyH_ready (rs := [26]) (by kernel_rfl) (by simp) ?_
                refine AllReadyH.cons (o := _) rfl (fun K hK => ?_) ?_
                ·go_simp
                 go_at_call 69
                 (with_reducible refine (HC2.out _ HST.out HXB.out).mono ?_)
                 rintro e w5 ⟨rfl, hst, hfr⟩
                 clear hbx a0 a1 a2 a3 a4 a5 a6 xf3 kc1
                 replace HST := am hst
                 replace HXB := am (HXB.out.fr hfr)
                 replace HK : qAd (w5.cell? ⟨(ad.add (kk * 4)).block, (ad.add (kk * 4)).off + 1, none⟩ = some (.int .i64 q1)) := ⟨hfr.cell HK.out HNM.out⟩
                 clear hst hfr
                 have hbx := HXB.out.h
                 rw [← HMS.out.1, ← HMS.out.2.1, ← HMS.out.2.2.1, ← HMS.out.2.2.2.1, ← HMS.out.2.2.2.2.1, ← HMS.out.2.2.2.2.2.1, ← HMS.out.2.2.2.2.2.2] at hbx
                 have a0 := (qAa hbx 0).trans rfl
                 have a1 := (qAa hbx 1).trans rfl
                 have a2 := (qAa hbx 2).trans rfl
                 have a3 := (qAa hbx 3).trans rfl
                 have a4 := (qAa hbx 4).trans rfl
                 have a5 := (qAa hbx 5).trans rfl
                 have a6 := (qAa hbx 6).trans rfl
                 have xf3 := (qAa HST.out.x.1 3).trans rfl
                 have kc1 := HK.out
                 go_wp2_with fail
                 refine hK.out _ _ ⟨a1, a2, a3, a4, a5, a6, xf3, kc1⟩ (fun hHeld => ?_)
                 clear hK K
                 try simp only [Act.put, zA, zB, zC, zD, zE, zF]
                 refine tH 27 (v := ?_) rfl (.inl ⟨by rfl, ?_⟩) ?_
                 rotate_left
                 ·intro w hSw; (try dsimp only at hSw); go_simp <;> with_reducible rfl
                 simp only [Act.put, zA, zB, zC, zD, zE, zF]
                 refine tH 28 (v := ?_) rfl (.inl ⟨by rfl, ?_⟩) ?_
                 rotate_left
                 ·intro w hSw; (try dsimp only at hSw); go_simp <;> with_reducible rfl
                 simp only [Act.put, zA, zB, zC, zD, zE, zF]
                 refine tH 29 (v := ?_) rfl (.inl ⟨by rfl, ?_⟩) ?_
                 rotate_left
                 ·intro w hSw; (try dsimp only at hSw); go_simp <;> with_reducible rfl
                 simp only [Act.put, zA, zB, zC, zD, zE, zF]
                 refine wpAnyH_done (by kernel_rfl) ?_ _
                 refine NoPanic.normal ?_
                 go_wp2_with fail
                 go_meet
                 case rel => exact ⟨true, met2, shs2, rfl, ⟨by rw [qCY, ← hr1]; simp only; rw [← hr2]; rfl⟩, HS2, HST⟩
                exact AllReadyH.nil
               exact AllReadyH.nil
              | true =>
               have hwk : wrap64 ((kk : Int) + 1) = (kk : Int) + 1 ∧ IntKind.i64.wrap ((kk : Int) + 1) = (kk : Int) + 1 := ⟨by unfold wrap64; omega, by simp [IntKind.wrap, IntKind.bits, IntKind.signed]; omega⟩
               obtain ⟨hwk, hwk2⟩ := hwk
               refine wp_region_noPanic ?_
               refine wp_region_held_drew (S := fun W' => W'.cell? ⟨gX, 1, none⟩ = some (.bool true) ∧ W'.cell? ⟨gX, 2, none⟩ = some (.bool true) ∧ W'.cell? ⟨gX, 3, none⟩ = some (.slice D3 m3 d3) ∧ W'.cell? ⟨gX, 4, none⟩ = some (.slice D4 m4 d4) ∧ W'.cell? ⟨gX, 5, none⟩ = some (.slice D5 m5 d5) ∧ W'.cell? ⟨gX, 6, none⟩ = some (.slice D6 m6 d6) ∧ W'.cell? ⟨W.heap.size, 3, none⟩ = some (.slice (some ad) n c3) ∧ W'.cell? ⟨(ad.add (kk * 4)).block, (ad.add (kk * 4)).off + 1, none⟩ = some (.int .i64 q1)) (by kernel_rfl) ⟨a1, a2, a3, a4, a5, a6, xf3, kc1⟩ (fun hHeld => ?_)
               refine tH 0 (v := ?_) rfl (.inl ⟨by rfl, ?_⟩) ?_
               rotate_left
               ·intro w hSw; (try dsimp only at hSw); go_simp <;> with_reducible rfl
               simp only [Act.put, zA, zB, zC, zD, zE, zF]
               refine tH 1 (v := ?_) rfl (.inl ⟨by rfl, ?_⟩) ?_
               rotate_left
               ·intro w hSw; (try dsimp only at hSw); go_simp <;> with_reducible rfl
               simp only [Act.put, zA, zB, zC, zD, zE, zF]
               refine tH 2 (v := ?_) rfl (.inl ⟨by rfl, ?_⟩) ?_
               rotate_left
               ·intro w hSw; (try dsimp only at hSw); go_simp <;> with_reducible rfl
               simp only [Act.put, zA, zB, zC, zD, zE, zF]
               refine tH 3 (v := ?_) rfl (.inl ⟨by rfl, ?_⟩) ?_
               rotate_left
               ·intro w hSw; (try dsimp only at hSw); go_simp <;> with_reducible rfl
               simp only [Act.put, zA, zB, zC, zD, zE, zF]
               refine tH 4 (v := ?_) rfl (.inl ⟨by rfl, ?_⟩) ?_
               rotate_left
               ·intro w hSw; (try dsimp only at hSw); go_simp <;> with_reducible rfl
               simp only [Act.put, zA, zB, zC, zD, zE, zF]
               refine tH 5 (v := ?_) rfl (.inl ⟨by rfl, ?_⟩) ?_
               rotate_left
               ·intro w hSw; (try dsimp only at hSw); go_simp <;> with_reducible rfl
               simp only [Act.put, zA, zB, zC, zD, zE, zF]
               refine tH 6 (v := ?_) rfl (.inl ⟨by rfl, ?_⟩) ?_
               rotate_left
               ·intro w hSw; (try dsimp only at hSw); go_simp <;> with_reducible rfl
               simp only [Act.put, zA, zB, zC, zD, zE, zF]
               refine tH 7 (v := ?_) rfl (.inl ⟨by rfl, ?_⟩) ?_
               rotate_left
               ·intro w hSw; (try dsimp only at hSw); go_simp <;> with_reducible rfl
               simp only [Act.put, zA, zB, zC, zD, zE, zF]
               refine tH 8 (v := ?_) rfl (.inl ⟨by rfl, ?_⟩) ?_
               rotate_left
               ·intro w hSw; (try dsimp only at hSw); go_simp <;> with_reducible rfl
               simp only [Act.put, zA, zB, zC, zD, zE, zF]
               refine wpAnyH_ready (rs := [9]) (by kernel_rfl) (by simp) ?_
               refine AllReadyH.cons (o := _) rfl (fun K hK => ?_) ?_
               ·go_simp
                go_at_call 69
                (with_reducible refine (HC1.out _ HST.out HXB.out).mono ?_)
                rintro e w5 ⟨rfl, hst, hfr⟩
                clear hbx a0 a1 a2 a3 a4 a5 a6 xf3 kc1
                replace HST := am hst
                replace HXB := am (HXB.out.fr hfr)
                replace HK : qAd (w5.cell? ⟨(ad.add (kk * 4)).block, (ad.add (kk * 4)).off + 1, none⟩ = some (.int .i64 q1)) := ⟨hfr.cell HK.out HNM.out⟩
                clear hst hfr
                have hbx := HXB.out.h
                rw [← HMS.out.1, ← HMS.out.2.1, ← HMS.out.2.2.1, ← HMS.out.2.2.2.1, ← HMS.out.2.2.2.2.1, ← HMS.out.2.2.2.2.2.1, ← HMS.out.2.2.2.2.2.2] at hbx
                have a0 := (qAa hbx 0).trans rfl
                have a1 := (qAa hbx 1).trans rfl
                have a2 := (qAa hbx 2).trans rfl
                have a3 := (qAa hbx 3).trans rfl
                have a4 := (qAa hbx 4).trans rfl
                have a5 := (qAa hbx 5).trans rfl
                have a6 := (qAa hbx 6).trans rfl
                have xf3 := (qAa HST.out.x.1 3).trans rfl
                have kc1 := HK.out
                go_wp2_with fail
                refine hK.out _ _ ⟨a1, a2, a3, a4, a5, a6, xf3, kc1⟩ (fun hHeld => ?_)
                clear hK K
                try simp only [Act.put, zA, zB, zC, zD, zE, zF]
                refine tH 10 (v := ?_) rfl (.inl ⟨by rfl, ?_⟩) ?_
                rotate_left
                ·intro w hSw; (try dsimp only at hSw); go_simp <;> with_reducible rfl
                simp only [Act.put, zA, zB, zC, zD, zE, zF]
                refine tH 11 (v := ?_) rfl (.inl ⟨by rfl, ?_⟩) ?_
                rotate_left
                ·intro w hSw; (try dsimp only at hSw); go_simp <;> with_reducible rfl
                simp only [Act.put, zA, zB, zC, zD, zE, zF]
                refine tH 12 (v := ?_) rfl (.inl ⟨by rfl, ?_⟩) ?_
                rotate_left
                ·intro w hSw; (try dsimp only at hSw); go_simp <;> with_reducible rfl
                simp only [Act.put, zA, zB, zC, zD, zE, zF]
                refine tH 13 (v := ?_) rfl (.inl ⟨by rfl, ?_⟩) ?_
                rotate_left
                ·intro w hSw; (try dsimp only at hSw); go_simp <;> with_reducible rfl
                simp only [Act.put, zA, zB, zC, zD, zE, zF]
                refine tH 14 (v := ?_) rfl (.inl ⟨by rfl, ?_⟩) ?_
                rotate_left
                ·intro w hSw; (try dsimp only at hSw); go_simp <;> with_reducible rfl
                simp only [Act.put, zA, zB, zC, zD, zE, zF]
                refine tH 15 (v := ?_) rfl (.inl ⟨by rfl, ?_⟩) ?_
                rotate_left
                ·intro w hSw; (try dsimp only at hSw); go_simp <;> with_reducible rfl
                simp only [Act.put, zA, zB, zC, zD, zE, zF]
                refine tH 16 (v := ?_) rfl (.inl ⟨by rfl, ?_⟩) ?_
                rotate_left
                ·intro w hSw; (try dsimp only at hSw); go_simp <;> with_reducible rfl
                simp only [Act.put, zA, zB, zC, zD, zE, zF]
                refine tH 17 (v := ?_) rfl (.inl ⟨by rfl, ?_⟩) ?_
                rotate_left
                ·intro w hSw; (try dsimp only at hSw); go_simp <;> with_reducible rfl
                simp only [Act.put, zA, zB, zC, zD, zE, zF]
                refine tH 18 (v := ?_) rfl (.inl ⟨by rfl, ?_⟩) ?_
                rotate_left
                ·intro w hSw; (try dsimp only at hSw); go_simp <;> with_reducible rfl
                simp only [Act.put, zA, zB, zC, zD, zE, zF]
                refine tH 19 (v := ?_) rfl (.inl ⟨by rfl, ?_⟩) ?_
                rotate_left
                ·intro w hSw; (try dsimp only at hSw); go_simp <;> with_reducible rfl
                simp only [Act.put, zA, zB, zC, zD, zE, zF]
                refine tH 20 (v := ?_) rfl (.inl ⟨by rfl, ?_⟩) ?_
                rotate_left
                ·intro w hSw; (try dsimp only at hSw); go_simp <;> with_reducible rfl
                simp only [Act.put, zA, zB, zC, zD, zE, zF]
                refine tH 21 (v := ?_) rfl (.inl ⟨by rfl, ?_⟩) ?_
                rotate_left
                ·intro w hSw; (try dsimp only at hSw); go_simp <;> with_reducible rfl
                simp only [Act.put, zA, zB, zC, zD, zE, zF]
                refine tH 22 (v := ?_) rfl (.inl ⟨by rfl, ?_⟩) ?_
                rotate_left
                ·intro w hSw; (try dsimp only at hSw); go_simp <;> with_reducible rfl
                simp only [Act.put, zA, zB, zC, zD, zE, zF]
                refine tH 23 (v := ?_) rfl (.inl ⟨by rfl, ?_⟩) ?_
                rotate_left
                ·intro w hSw; (try dsimp only at hSw); go_simp <;> with_reducible rfl
                simp only [Act.put, zA, zB, zC, zD, zE, zF]
                refine tH 24 (v := ?_) rfl (.inl ⟨by rfl, ?_⟩) ?_
                rotate_left
                ·intro w hSw; (try dsimp only at hSw); go_simp <;> with_reducible rfl
                simp only [Act.put, zA, zB, zC, zD, zE, zF]
                refine tH 25 (v := ?_) rfl (.inl ⟨by rfl, ?_⟩) ?_
                rotate_left
                ·intro w hSw; (try dsimp only at hSw); go_simp <;> with_reducible rfl
                simp only [Act.put, zA, zB, zC, zD, zE, zF]
                refine wpAnyH_ready (rs := [26]) (by kernel_rfl) (by simp) ?_
                refine AllReadyH.cons (o := _) rfl (fun K hK => ?_) ?_
                ·go_simp
                 go_at_call 69
                 (with_reducible refine (HC2.out _ HST.out HXB.out).mono ?_)
                 rintro e w5 ⟨rfl, hst, hfr⟩
                 clear hbx a0 a1 a2 a3 a4 a5 a6 xf3 kc1
                 replace HST := am hst
                 replace HXB := am (HXB.out.fr hfr)
                 replace HK : qAd (w5.cell? ⟨(ad.add (kk * 4)).block, (ad.add (kk * 4)).off + 1, none⟩ = some (.int .i64 q1)) := ⟨hfr.cell HK.out HNM.out⟩
                 clear hst hfr
                 have hbx := HXB.out.h
                 rw [← HMS.out.1, ← HMS.out.2.1, ← HMS.out.2.2.1, ← HMS.out.2.2.2.1, ← HMS.out.2.2.2.2.1, ← HMS.out.2.2.2.2.2.1, ← HMS.out.2.2.2.2.2.2] at hbx
                 have a0 := (qAa hbx 0).trans rfl
                 have a1 := (qAa hbx 1).trans rfl
                 have a2 := (qAa hbx 2).trans rfl
                 have a3 := (qAa hbx 3).trans rfl
                 have a4 := (qAa hbx 4).trans rfl
                 have a5 := (qAa hbx 5).trans rfl
                 have a6 := (qAa hbx 6).trans rfl
                 have xf3 := (qAa HST.out.x.1 3).trans rfl
                 have kc1 := HK.out
                 go_wp2_with fail
                 refine hK.out _ _ ⟨a1, a2, a3, a4, a5, a6, xf3, kc1⟩ (fun hHeld => ?_)
                 clear hK K
                 try simp only [Act.put, zA, zB, zC, zD, zE, zF]
                 refine tH 27 (v := ?_) rfl (.inl ⟨by rfl, ?_⟩) ?_
                 rotate_left
                 ·intro w hSw; (try dsimp only at hSw); go_simp <;> with_reducible rfl
                 simp only [Act.put, zA, zB, zC, zD, zE, zF]
                 refine tH 28 (v := ?_) rfl (.inl ⟨by rfl, ?_⟩) ?_
                 rotate_left
                 ·intro w hSw; (try dsimp only at hSw); go_simp <;> with_reducible rfl
                 simp only [Act.put, zA, zB, zC, zD, zE, zF]
                 refine tH 29 (v := ?_) rfl (.inl ⟨by rfl, ?_⟩) ?_
                 rotate_left
                 ·intro w hSw; (try dsimp only at hSw); go_simp <;> with_reducible rfl
                 simp only [Act.put, zA, zB, zC, zD, zE, zF]
                 refine wpAnyH_done (by kernel_rfl) ?_ _
                 refine NoPanic.normal ?_
                 go_wp2_with fail
                 go_meet
                 case rel => exact ⟨false, met2, shs2, rfl, ⟨by rw [qCY, ← hr1]; simp only; rw [← hr2]; rfl⟩, HS2, HST⟩
                exact AllReadyH.nil
               exact AllReadyH.nil
          case rest =>
           obtain ⟨bb, met', shs', rfl, HNR, HSM', HST'⟩ := hcut
           cases bb with
           | true =>
            have HRE := leafs 22 (by rw [HGO.out, HNR.out, if_pos rfl]) (by decide)
            have HST := HST'
            clear leafs
            go_wp2_with fail
            try rw [Exit.noGoto_ret]
            refine bodyPost_ret (qCo rfl _ _ _) rfl ?_
            refine ⟨_, _, by rw [HRE.out]; rfl, fun m s h => ?_, HST.out.b⟩
            rw [HRE.out] at h
            cases h
           | false =>
            have HL2 : qAd (qDl ls vs fs res code g met' (dn.set kk true) shs' = RR) := ⟨by rw [HR2.out, HGO.out, HNR.out, if_neg (show ¬ (false = true) by decide), if_pos rfl]⟩
            clear leafs
            go_wp2_with fail
            go_roundg g
            case measure => omega
            case rel => exact ⟨met', dn.set kk true, shs', by have := qDj dn kk HDX.out; omega, HL2, HSM', ⟨HST'.out.m⟩, ⟨HST'.out.d⟩, ⟨HST'.out.s⟩, ⟨HST'.out.b⟩, ⟨HST'.out.t⟩, ⟨HST'.out.x⟩⟩
end RV
end Q
end
section
namespace Q
open Go.RowKit YA YC YB
attribute [local go_sem] max2_int min2_int max_two min_two max_three min_three max_four min_four
def qAL.f (a0 : Int) : Option (Bool) := if a0 = 1 then (some true) else (if a0 = 2 then (some true) else (some (a0 == 3)))
theorem qAL.calls (a0 : Int) (r : Bool) (w : World) (h : qAL.f a0 = some r) :
  Calls Tryz.prog 119 #[.int .i64 a0] w fun e w' => e = .returned (.bool r) ∧ qAX w w' := by
 have H : (if a0 = 1 then (some true) else (if a0 = 2 then (some true) else (some (a0 == 3)))) = some r := h
 clear h
 by_cases c2 : a0 = 1
 ·rw [if_pos c2] at H
  have aA : (a0 == 1) = true := beq_iff_eq.mpr c2
  have aB : (a0 != 1) = false := bn c2
  clear c2
  obtain rfl := Option.some.inj H
  go_enter Tryz.func119, Tryz.ntmps119
  go_wp2
  go_ret
  exact ⟨by first | rfl | (simp; done) | (simp [*]; done), by repeat (first | exact qAX.refl _ | apply qAX.step)⟩
 ·rw [if_neg c2] at H
  have aA : (a0 == 1) = false := bf c2
  have aB : (a0 != 1) = true := bne_iff_ne.mpr c2
  by_cases c3 : a0 = 2
  ·rw [if_pos c3] at H
   have aC : (a0 == 2) = true := beq_iff_eq.mpr c3
   have aD : (a0 != 2) = false := bn c3
   clear c3
   obtain rfl := Option.some.inj H
   go_enter Tryz.func119, Tryz.ntmps119
   go_wp2
   go_ret
   exact ⟨by first | rfl | (simp; done) | (simp [*]; done), by repeat (first | exact qAX.refl _ | apply qAX.step)⟩
  ·rw [if_neg c3] at H
   have aC : (a0 == 2) = false := bf c3
   have aD : (a0 != 2) = true := bne_iff_ne.mpr c3
   obtain rfl := Option.some.inj H
   go_enter Tryz.func119, Tryz.ntmps119
   go_wp2
   go_ret
   exact ⟨by first | rfl | (simp; done) | (simp [*]; done), by repeat (first | exact qAX.refl _ | apply qAX.step)⟩
def qAn.l0 : Nat → List Int → Int → Option (Bool)
 | 0, _, _ => none
 | k + 1, x0, x3 => if x3 < (x0.length : Int) then (if 0 ≤ x3 then ((qAL.f (rd x0 x3)).bind fun aE => (if aE = true then (qAn.l0 k x0 (wrap64 (x3 + 1))) else (some false))) else (none)) else (some true)
def qAn.f (k : Nat) (l0 : List Int) : Option (Bool) := qAn.l0 k l0 0
theorem qAn.calls (k : Nat) (A0 : Option Addr) (c0 : Nat) (l0 : List Int) (r : Bool) (w : World) (hr0 : Kd.C (Kd.int .i64) w A0 l0.length l0) (hc0 : l0.length ≤ c0) (h : qAn.f k l0 = some r) :
  Calls Tryz.prog 93 #[.slice A0 l0.length c0] w fun e w' => e = .returned (.bool r) ∧ qAX w w' := by
 have aK := am hr0
 have aM := am hc0
 clear hr0 hc0
 have H : (qAn.l0 k l0 0) = some r := h
 clear h
 have H' := am H
 clear H
 go_enter Tryz.func93, Tryz.ntmps93
 go_wp2
 go_loopg [3] k (fun kq v3 w' => ∃ (aA : Int), v3 = .int .i64 aA ∧ qAd (qAn.l0 kq l0 aA = some r) ∧ qAd (kq ≤ k) ∧ qAX w w')
 case atStart => exact ⟨(0), (by first | rfl | (simp; done) | (simp [*]; done)), H', ⟨Nat.le_refl _⟩, by repeat (first | exact qAX.refl _ | apply qAX.step)⟩
 case round =>
  clear H'
  obtain ⟨aA, rfl, HA, aJ, ⟨m1, rfl⟩⟩ := hrel
  cases gk with
  | zero => exact absurd HA.o (by simp [qAn.l0])
  | succ k1 =>
   have H := HA.o
   clear HA
   simp only [qAn.l0] at H
   by_cases c2 : aA < (l0.length : Int)
   rotate_left
   ·rw [if_neg c2] at H
    replace c2 := d0 c2
    obtain rfl := Option.some.inj H
    go_wp2
    go_ret
    exact ⟨by first | rfl | (simp; done) | (simp [*]; done), by repeat (first | exact qAX.refl _ | apply qAX.step)⟩
   rw [if_pos c2] at H
   replace c2 := d1 c2
   obtain ⟨c3, H⟩ := gd H
   replace c3 := d1 c3
   replace H := bm H
   obtain ⟨aE, aI, H⟩ := H
   replace H : (if aE = true then (qAn.l0 k1 l0 (wrap64 (aA + 1))) else (some false)) = some r := H
   have A4 := am aI
   clear aI
   by_cases c5 : aE = true
   rotate_left
   ·replace c5 := Bool.eq_false_iff.mpr c5
    subst c5
    replace H : (some false) = some r := by rw [if_neg (show ¬ (false = true) by decide)] at H; exact H
    obtain rfl := Option.some.inj H
    have aB : 0 ≤ (aA : Int) := of_decide_eq_true (by first | (with_reducible assumption) | assumption)
    have aC : aA < (l0.length : Int) := of_decide_eq_true (by first | (with_reducible assumption) | assumption)
    obtain ⟨aG, aF, aD⟩ := Kd.at_int aK.o aA aB aC
    cases aF
    replace aB := eq_true aB
    replace aC := eq_true aC
    go_wp2_with (first | ((with_reducible refine qA7 (f := 119) rfl ?_); refine qBG (some 14) rfl rfl Tryz.func119 (by kernel_rfl) rfl #[.int .i64 (rd l0 aA)] rfl (by (try simp only [List.map_toArray, List.map_cons, List.map_nil]); first | done | rfl | (simp only [List.length_drop, List.length_take]; rfl)) ?_; (with_reducible refine (qAL.calls (rd l0 aA) false _ A4.o).mono ?_); rintro e w' ⟨rfl, ⟨nd, rfl⟩⟩; refine ⟨_, rfl, ?_⟩))
    go_ret
    exact ⟨by first | rfl | (simp; done) | (simp [*]; done), by repeat (first | exact qAX.refl _ | apply qAX.step)⟩
   subst c5
   replace H : (qAn.l0 k1 l0 (wrap64 (aA + 1))) = some r := by rw [if_pos rfl] at H; exact H
   have H' := am H
   clear H
   have aB : 0 ≤ (aA : Int) := of_decide_eq_true (by first | (with_reducible assumption) | assumption)
   have aC : aA < (l0.length : Int) := of_decide_eq_true (by first | (with_reducible assumption) | assumption)
   obtain ⟨aG, aF, aD⟩ := Kd.at_int aK.o aA aB aC
   cases aF
   replace aB := eq_true aB
   replace aC := eq_true aC
   go_wp2_with (first | ((with_reducible refine qA7 (f := 119) rfl ?_); refine qBG (some 14) rfl rfl Tryz.func119 (by kernel_rfl) rfl #[.int .i64 (rd l0 aA)] rfl (by (try simp only [List.map_toArray, List.map_cons, List.map_nil]); first | done | rfl | (simp only [List.length_drop, List.length_take]; rfl)) ?_; (with_reducible refine (qAL.calls (rd l0 aA) true _ A4.o).mono ?_); rintro e w' ⟨rfl, ⟨nd, rfl⟩⟩; refine ⟨_, rfl, ?_⟩))
   go_roundg k1
   case measure => have := aJ.o; omega
   case rel => exact ⟨(wrap64 (aA + 1)), (by first | rfl | (simp; done) | (simp [*]; done)), H', ⟨by have := aJ.o; omega⟩, by repeat (first | exact qAX.refl _ | apply qAX.step)⟩
def qAH.f (k : Nat) (l0_0 : List Int) (a0_1 : Int) : Option (Bool) := (qAn.f k l0_0).bind fun aG => (if aG = true then (if a0_1 = 0 then (some true) else ((qAL.f a0_1).bind fun aC => (some aC))) else (some false))
theorem qAH.calls (k : Nat) (aD : Option Addr) (aF : Nat) (l0_0 : List Int) (a0_1 : Int) (r : Bool) (w : World) (hr0_0 : Kd.C (Kd.int .i64) w aD l0_0.length l0_0) (hc0_0 : l0_0.length ≤ aF) (h : qAH.f k l0_0 a0_1 = some r) :
  Calls Tryz.prog 92 #[.agg #[.slice aD l0_0.length aF, .int .i64 a0_1]] w fun e w' => e = .returned (.bool r) ∧ Below w.heap.size w w' := by
 have hu24 := Tryz.underlying24
 have aI := am hr0_0
 have aH := am hc0_0
 clear hr0_0 hc0_0
 have HB := am (Below.refl w.heap.size w)
 have H : ((qAn.f k l0_0).bind fun aG => (if aG = true then (if a0_1 = 0 then (some true) else ((qAL.f a0_1).bind fun aC => (some aC))) else (some false))) = some r := h
 clear h
 replace H := bm H
 obtain ⟨aG, aY, H⟩ := H
 replace H : (if aG = true then (if a0_1 = 0 then (some true) else ((qAL.f a0_1).bind fun aC => (some aC))) else (some false)) = some r := H
 have A2 := am aY
 clear aY
 by_cases c3 : aG = true
 ·subst c3
  replace H : (if a0_1 = 0 then (some true) else ((qAL.f a0_1).bind fun aC => (some aC))) = some r := by rw [if_pos rfl] at H; exact H
  by_cases c4 : a0_1 = 0
  ·rw [if_pos c4] at H
   have aO : (a0_1 == 0) = true := beq_iff_eq.mpr c4
   have aP : (a0_1 != 0) = false := bn c4
   clear c4
   obtain rfl := Option.some.inj H
   go_enter Tryz.func92, Tryz.ntmps92
   go_wp2_with (first | ((with_reducible refine qAV (N := 1) rfl ?_); refine qB5 ?hg (N := 1) ?hd (cs := #[.slice aD l0_0.length aF, .int .i64 a0_1]) (t := 24) ?hr ?_; (case hd => rfl); (case hg => rfl); (case hr => first | (go_simp; done) | (go_simp; rfl)); intro aB hg w5 hbox hb; have n0_ := am (qAq (by repeat (first | (with_reducible first | exact HB.o | apply qAg | apply qAe | apply qAj) | exact HB.o)) hb); have n1_ := am (hbox); have n2_ := am ((by rw [hg]; exact (qAm (by repeat (first | (with_reducible first | exact HB.o | apply qAg | apply qAe | apply qAj) | exact HB.o))) : w.heap.size ≤ aB)); have n3_ := am ((by rw [hg]; exact (qAm (by repeat (first | (with_reducible first | exact HB.o | apply qAg | apply qAe | apply qAj) | exact HB.o))) : w.heap.size ≤ aB)); clear HB; have HB := n0_; have aA := n1_; have aJ := n2_; have aE := n3_; clear n0_ n1_ n2_ n3_; clear hb hbox hg; obtain ⟨aQ, aR⟩ := c2_ w5 aA.o; obtain ⟨aU, aV⟩ := z2_ aA.o) | ((with_reducible refine qA7 (f := 93) rfl ?_); refine qBG (some 5) rfl rfl Tryz.func93 (by kernel_rfl) rfl #[.slice aD l0_0.length aF] rfl (by (try simp only [List.map_toArray, List.map_cons, List.map_nil]); first | done | rfl | (simp only [List.length_drop, List.length_take]; rfl)) ?_; (with_reducible refine (qAn.calls k _ _ l0_0 true _ ?side1 ?side2 A2.o).mono ?_); (case side1 => repeat (first | exact (Kd.C_below aI.o HB.o) | (with_reducible refine Kd.C_alloc ?_ _) | (with_reducible refine Kd.C_drewN ?_ _) | (with_reducible refine Kd.C_drew ?_))); (case side2 => exact aH.o); rintro e w' ⟨rfl, ⟨nd, rfl⟩⟩; refine ⟨_, rfl, ?_⟩))
   go_ret
   exact ⟨by first | rfl | (simp [errW_none, errW_some] <;> rfl) | (simp [*, errW_none, errW_some] <;> rfl), by repeat (first | (with_reducible first | exact HB.o | apply qAg | apply qAe | apply qAj | refine qAi ?_ aE.o) | exact HB.o)⟩
  ·rw [if_neg c4] at H
   have aO : (a0_1 == 0) = false := bf c4
   have aP : (a0_1 != 0) = true := bne_iff_ne.mpr c4
   replace H := bm H
   obtain ⟨aC, aZ, H⟩ := H
   replace H : (some aC) = some r := H
   have A7 := am aZ
   clear aZ
   obtain rfl := Option.some.inj H
   go_enter Tryz.func92, Tryz.ntmps92
   go_wp2_with (first | ((with_reducible refine qAV (N := 1) rfl ?_); refine qB5 ?hg (N := 1) ?hd (cs := #[.slice aD l0_0.length aF, .int .i64 a0_1]) (t := 24) ?hr ?_; (case hd => rfl); (case hg => rfl); (case hr => first | (go_simp; done) | (go_simp; rfl)); intro aB hg w8 hbox hb; have n0_ := am (qAq (by repeat (first | (with_reducible first | exact HB.o | apply qAg | apply qAe | apply qAj) | exact HB.o)) hb); have n1_ := am (hbox); have n2_ := am ((by rw [hg]; exact (qAm (by repeat (first | (with_reducible first | exact HB.o | apply qAg | apply qAe | apply qAj) | exact HB.o))) : w.heap.size ≤ aB)); have n3_ := am ((by rw [hg]; exact (qAm (by repeat (first | (with_reducible first | exact HB.o | apply qAg | apply qAe | apply qAj) | exact HB.o))) : w.heap.size ≤ aB)); clear HB; have HB := n0_; have aA := n1_; have aJ := n2_; have aE := n3_; clear n0_ n1_ n2_ n3_; clear hb hbox hg; obtain ⟨aS, aT⟩ := c2_ w8 aA.o; obtain ⟨aW, aX⟩ := z2_ aA.o) | ((with_reducible refine qA7 (f := 93) rfl ?_); refine qBG (some 5) rfl rfl Tryz.func93 (by kernel_rfl) rfl #[.slice aD l0_0.length aF] rfl (by (try simp only [List.map_toArray, List.map_cons, List.map_nil]); first | done | rfl | (simp only [List.length_drop, List.length_take]; rfl)) ?_; (with_reducible refine (qAn.calls k _ _ l0_0 true _ ?side1 ?side2 A2.o).mono ?_); (case side1 => repeat (first | exact (Kd.C_below aI.o HB.o) | (with_reducible refine Kd.C_alloc ?_ _) | (with_reducible refine Kd.C_drewN ?_ _) | (with_reducible refine Kd.C_drew ?_))); (case side2 => exact aH.o); rintro e w' ⟨rfl, ⟨nd, rfl⟩⟩; refine ⟨_, rfl, ?_⟩) | (go_at_call 119; (with_reducible refine (qAL.calls a0_1 aC _ A7.o).mono ?_); rintro e w' ⟨rfl, ⟨nd, rfl⟩⟩))
   go_ret
   exact ⟨by first | rfl | (simp [errW_none, errW_some] <;> rfl) | (simp [*, errW_none, errW_some] <;> rfl), by repeat (first | (with_reducible first | exact HB.o | apply qAg | apply qAe | apply qAj | refine qAi ?_ aE.o) | exact HB.o)⟩
 ·replace c3 := Bool.eq_false_iff.mpr c3
  subst c3
  replace H : (some false) = some r := by rw [if_neg (show ¬ (false = true) by decide)] at H; exact H
  obtain rfl := Option.some.inj H
  go_enter Tryz.func92, Tryz.ntmps92
  go_wp2_with (first | ((with_reducible refine qAV (N := 1) rfl ?_); refine qB5 ?hg (N := 1) ?hd (cs := #[.slice aD l0_0.length aF, .int .i64 a0_1]) (t := 24) ?hr ?_; (case hd => rfl); (case hg => rfl); (case hr => first | (go_simp; done) | (go_simp; rfl)); intro aB hg a3 hbox hb; have n0_ := am (qAq (by repeat (first | (with_reducible first | exact HB.o | apply qAg | apply qAe | apply qAj) | exact HB.o)) hb); have n1_ := am (hbox); have n2_ := am ((by rw [hg]; exact (qAm (by repeat (first | (with_reducible first | exact HB.o | apply qAg | apply qAe | apply qAj) | exact HB.o))) : w.heap.size ≤ aB)); have n3_ := am ((by rw [hg]; exact (qAm (by repeat (first | (with_reducible first | exact HB.o | apply qAg | apply qAe | apply qAj) | exact HB.o))) : w.heap.size ≤ aB)); clear HB; have HB := n0_; have aA := n1_; have aJ := n2_; have aE := n3_; clear n0_ n1_ n2_ n3_; clear hb hbox hg; obtain ⟨aK, aL⟩ := c2_ a3 aA.o; obtain ⟨aM, aN⟩ := z2_ aA.o) | ((with_reducible refine qA7 (f := 93) rfl ?_); refine qBG (some 5) rfl rfl Tryz.func93 (by kernel_rfl) rfl #[.slice aD l0_0.length aF] rfl (by (try simp only [List.map_toArray, List.map_cons, List.map_nil]); first | done | rfl | (simp only [List.length_drop, List.length_take]; rfl)) ?_; (with_reducible refine (qAn.calls k _ _ l0_0 false _ ?side1 ?side2 A2.o).mono ?_); (case side1 => repeat (first | exact (Kd.C_below aI.o HB.o) | (with_reducible refine Kd.C_alloc ?_ _) | (with_reducible refine Kd.C_drewN ?_ _) | (with_reducible refine Kd.C_drew ?_))); (case side2 => exact aH.o); rintro e w' ⟨rfl, ⟨nd, rfl⟩⟩; refine ⟨_, rfl, ?_⟩))
  go_ret
  exact ⟨by first | rfl | (simp [errW_none, errW_some] <;> rfl) | (simp [*, errW_none, errW_some] <;> rfl), by repeat (first | (with_reducible first | exact HB.o | apply qAg | apply qAe | apply qAj | refine qAi ?_ aE.o) | exact HB.o)⟩
end Q
end
section
namespace Q
open Go.RowKit YA YC YB
open Val Ins
namespace RV
def sgP (s : S24) : S34 := ⟨s.f0, s.f1⟩
def insP (x : S50) : S51 := ⟨x.f0, x.f1, x.f2⟩
theorem wrapR {i n : Nat} (h : i < n) (hn : n ≤ 2000000) : wrap64 ((i : Int) + 1) = ((i + 1 : Nat) : Int) := by unfold wrap64; omega
theorem valued_f (t : Int) : qAL.f t = some (okT t) := by
 unfold qAL.f okT
 by_cases h1 : t = 1
 ·rw [if_pos h1, decide_eq_true (by omega)]
 by_cases h2 : t = 2
 ·rw [if_neg h1, if_pos h2, decide_eq_true (by omega)]
 rw [if_neg h1, if_neg h2]
 by_cases h3 : t = 3
 ·rw [decide_eq_true (by omega), h3]; rfl
 rw [decide_eq_false (by omega), bn h3]
theorem valued_l (l : List Int) (hl : l.length ≤ 2000000) : ∀ (m j : Nat), j + m = l.length → Ev (fun k => qAn.l0 k l (j : Int)) ((l.drop j).all okT) := by
 intro m
 induction m with
 | zero =>
  intro j hj
  rw [List.drop_eq_nil_of_le (by omega)]
  refine Ev.step (f := fun _ => some true) (fun k => ?_) (Ev.now _)
  simp only [qAn.l0]
  rw [if_neg (by omega)]
 | succ m ih =>
  intro j hj
  have hd := qBF l 0 (j : Int) (by omega) (by omega)
  rw [Int.toNat_natCast, show ((j : Int) + 1).toNat = j + 1 from by omega] at hd
  rw [hd, List.all_cons]
  have hr : rd l (j : Int) = l.getD j 0 := by simp [rd, rdOf]
  cases hv : okT (l.getD j 0) with
  | false =>
   refine Ev.step (f := fun _ => some false) (fun k => ?_) (Ev.now _)
   simp only [qAn.l0]
   rw [if_pos (by omega), if_pos (by omega), hr, valued_f, hv]; rfl
  | true =>
   rw [Bool.true_and]
   refine Ev.step (fun k => ?_) (ih (j + 1) (by omega))
   simp only [qAn.l0]
   rw [if_pos (by omega), if_pos (by omega), hr, valued_f, hv, wrapR (n := l.length) (by omega) hl]; rfl
theorem qEE (l : List Int) (hl : l.length ≤ 2000000) : Ev (fun k => qAn.f k l) (l.all okT) := valued_l l hl l.length 0 (by omega)
theorem sig_ev (l : List Int) (r : Int) (hl : l.length ≤ 2000000) : Ev (fun k => qAH.f k l r) (l.all okT && resT r) := by
 unfold qAH.f
 refine Ev.bind (qEE l hl) ?_
 cases l.all okT with
 | false => exact Ev.now _
 | true =>
  simp only [if_true, Bool.true_and]
  by_cases h : r = 0
  ·rw [if_pos h, show resT r = true from by unfold resT; simp [h]]; exact Ev.now _
  rw [if_neg h, valued_f, show resT r = okT r from by unfold resT; simp [h]]; exact Ev.now _
theorem rvalued_any (A : Option Addr) (c : Nat) (l : List Int) (W : World) (h : Kd.C (Kd.int .i64) W A l.length l) (hc : l.length ≤ c) (hl : l.length ≤ 2000000) :
  Calls Tryz.prog 93 #[.slice A l.length c] W fun e w' => e = .returned (.bool (l.all okT)) ∧ Below W.heap.size W w' := by
 obtain ⟨k, hk⟩ := (qEE l hl).rounds
 refine (qAn.calls k A c l _ W h hc hk).mono ?_
 rintro e w' ⟨rfl, hd⟩
 exact ⟨rfl, hd.below⟩
theorem rsig_any (A : Option Addr) (c : Nat) (l : List Int) (r : Int) (W : World) (h : Kd.C (Kd.int .i64) W A l.length l) (hc : l.length ≤ c) (hl : l.length ≤ 2000000) :
  Calls Tryz.prog 92 #[.agg #[.slice A l.length c, .int .i64 r]] W fun e w' => e = .returned (.bool (l.all okT && resT r)) ∧ Below W.heap.size W w' := by
 obtain ⟨k, hk⟩ := (sig_ev l r hl).rounds
 exact qAH.calls k A c l r _ W h hc hk
def insB (code : List S50) : Int × Int := match badS 0 (code.map insP) with | some i => ((i : Int), 51) | none => (0, 0)
def sgB (s : S24) : Bool := s.f0.all okT && resT s.f1
def goodH (ps : List Int) (res : Int) (ls : List Int) (n : Nat) (vs : List Int) : Bool := decide (0 < n) && ((ps.all okT && resT res) && (ls.all okT && (decide (ps.length ≤ ls.length) && ((ls.take ps.length == ps) && vs.all okT))))
theorem badS_at : ∀ (kk j : Nat) (code : List S50), (∀ i x, i < kk → code[i]? = some x → okS (insP x) = true) → badS j (code.map insP) = badS (j + kk) ((code.drop kk).map insP)
 | 0, j, code, h => by simp
 | kk + 1, j, [], h => by simp [badS]
 | kk + 1, j, x :: l, h => by
  rw [List.map_cons, qDr, if_pos (h 0 x (by omega) rfl), badS_at kk (j + 1) l (fun i y hi hy => h (i + 1) y (by omega) hy), List.drop_succ_cons, show j + 1 + kk = j + (kk + 1) from by omega]
theorem insB_bad (code : List S50) (kk : Nat) (x : S50) (h : ∀ i x, i < kk → code[i]? = some x → okS (insP x) = true) (hx : code[kk]? = some x) (hb : okS (insP x) = false) : insB code = ((kk : Int), 51) := by
 have hd : code.drop kk = x :: code.drop (kk + 1) := by
  obtain ⟨hlt, e⟩ := List.getElem?_eq_some_iff.1 hx
  rw [List.drop_eq_getElem_cons hlt, e]
 unfold insB
 rw [badS_at kk 0 code h, hd, List.map_cons, qDr, if_neg (by rw [hb]; decide), Nat.zero_add]
theorem insB_all (code : List S50) (h : ∀ i x, i < code.length → code[i]? = some x → okS (insP x) = true) : insB code = (0, 0) := by
 unfold insB
 rw [badS_at code.length 0 code h, List.drop_length]; rfl
theorem rd_getR {α} (l : List α) (z : α) (kk : Nat) (h : kk < l.length) : l[kk]? = some (l.getD ((kk : Int).toNat) z) := by
 rw [Int.toNat_natCast, List.getD_eq_getElem?_getD, List.getElem?_eq_getElem h]; rfl
theorem head_any {W : World} (A1 A2 A3 A4 A5 : Option Addr) (c1 c2 c3 c4 c5 : Nat) (res : Int) {ps ls vs : List Int} {fs : List S24} {code : List S50} {okF : Nat → Prop} (hP : Kd.F (Kd.int .i64) W okF A1 ps.length ps) (hL : Kd.F (Kd.int .i64) W okF A2 ls.length ls) (hC : Kd.F k50 W okF A3 code.length code) (hF : Kd.F k24 W okF A4 fs.length fs) (hV : Kd.F (Kd.int .i64) W okF A5 vs.length vs) (hc1 : ps.length ≤ c1) (hc2 : ls.length ≤ c2) (hc5 : vs.length ≤ c5)
  (hp1 : ps.length ≤ 2000000) (hl1 : ls.length ≤ 2000000) (hv1 : vs.length ≤ 2000000) (hf1 : fs.length ≤ 2000000) (hn3 : code.length ≤ 2000000) (hfs : ∀ x ∈ fs, x.f0.length ≤ 2000000) (hu : ∀ x ∈ code, 0 ≤ x.f2.f1 ∧ x.f2.f1 < 18446744073709551616) (q : Int × Int)
  (hq : (if 8 < ps.length ∨ 64 < ls.length ∨ 4096 < code.length then ((0 : Int), (3 : Int)) else if (goodH ps res ls code.length vs && fs.all sgB) = true then insB code else (0, 51)) = q) :
  Calls Tryz.prog 66 #[.agg #[.slice A1 ps.length c1, .int .i64 res, .slice A2 ls.length c2, .slice A3 code.length c3], .agg #[.slice A4 fs.length c4, .slice A5 vs.length c5]] W fun e w' => e = .returned (.tuple #[.int .i64 q.1, .int .i64 q.2]) ∧ Below W.heap.size W w' := by
 obtain ⟨W0, hW0⟩ := eX ((W.alloc (.cells #[.slice A1 ps.length c1, .int .i64 res, .slice A2 ls.length c2, .slice A3 code.length c3] 27)).alloc (.cells #[.slice A4 fs.length c4, .slice A5 vs.length c5] 30))
 have hB0 : Below W.heap.size W W0 := hW0 ▸ ((Below.refl _ _).alloc (nl _) _).alloc (by simp) _
 have hSG : ∀ W', Below W.heap.size W W' → Calls Tryz.prog 92 #[.agg #[.slice A1 ps.length c1, .int .i64 res]] W' fun e w' => e = .returned (.bool (ps.all okT && resT res)) ∧ Below W'.heap.size W' w' := fun W' hB => rsig_any A1 c1 ps res W' (Kd.F_now (Kd.F_below hP hB)) hc1 hp1
 have hVL : ∀ W', Below W.heap.size W W' → Calls Tryz.prog 93 #[.slice A2 ls.length c2] W' fun e w' => e = .returned (.bool (ls.all okT)) ∧ Below W'.heap.size W' w' := fun W' hB => rvalued_any A2 c2 ls W' (Kd.F_now (Kd.F_below hL hB)) hc2 hl1
 have hVV : ∀ W', Below W.heap.size W W' → Calls Tryz.prog 93 #[.slice A5 vs.length c5] W' fun e w' => e = .returned (.bool (vs.all okT)) ∧ Below W'.heap.size W' w' := fun W' hB => rvalued_any A5 c5 vs W' (Kd.F_now (Kd.F_below hV hB)) hc5 hv1
 have hIN : ps.length ≤ ls.length → ∀ W', Below W.heap.size W W' → Calls Tryz.prog 29 #[.slice A2 ps.length c2, .slice A1 ps.length c1] W' fun e w' => e = .returned (.bool (ls.take ps.length == ps)) ∧ Below W'.heap.size W' w' := fun hle W' hB => by
  have h3 : (ls.take ps.length).length = ps.length := by rw [List.length_take]; omega
  have h2 := Kd.C_take (Kd.F_now (Kd.F_below hL hB)) hle
  have h4 := ints_any A2 A1 c2 c1 (ls.take ps.length) ps W' h2 (Kd.F_now (Kd.F_below hP hB)) (by omega) hc1 (by omega)
  rw [h3] at h4
  exact h4
 obtain ⟨bs, hbs⟩ := eX ((ps.all okT && resT res))
 obtain ⟨bw, hbl⟩ := eX (ls.all okT)
 obtain ⟨bi, hbi⟩ := eX ((ls.take ps.length == ps))
 obtain ⟨bv, hbv⟩ := eX (vs.all okT)
 unfold goodH at hq
 rw [← hbs] at hSG hq
 rw [← hbl] at hVL hq
 rw [← hbi] at hIN hq
 rw [← hbv] at hVV hq
 obtain ⟨p1, hpp⟩ := eL ps
 obtain ⟨l1, hll⟩ := eL ls
 obtain ⟨n3, hnn⟩ := eL code
 obtain ⟨f1, hff⟩ := eL fs
 obtain ⟨v1, hvv⟩ := eL vs
 rw [← hpp] at hSG hIN hq hW0 hp1 hc1 ⊢
 rw [← hll] at hVL hIN hq hW0 hl1 hc2 ⊢
 rw [← hnn] at hq hW0 hn3 ⊢
 rw [← hff] at hW0 hf1 ⊢
 rw [← hvv] at hVV hW0 hv1 ⊢
 have HSG := am hSG
 have HVL := am hVL
 have HVV := am hVV
 have HIN := am hIN
 have HC := am hC
 have HF := am hF
 have HFS := am hfs
 have HU := am hu
 have HB0 := am hB0
 have HW0 := am hW0
 have HNN := am hnn
 have HFF := am hff
 have HQ := am hq
 clear hSG hVL hVV hIN hC hF hfs hu hB0 hW0 hnn hff hq hP hL hV hbs hbl hbi hbv hpp hll hvv hc1 hc5 hv1
 by_cases hA : 8 < p1 ∨ 64 < l1 ∨ 4096 < n3
 ·have hrr : q = (0, 3) := by have h := HQ.out; rw [if_pos hA] at h; exact h.symm
  subst hrr
  have hBB : Below W.heap.size W W0 := HB0.out
  rw [HW0.out] at hBB
  have HBB := am hBB
  clear hBB
  by_cases hA1 : 8 < p1
  ·have hz1 : (8 : Int) < (p1 : Int) := by omega
   clear hA
   go_enter Tryz.func66, Tryz.ntmps66
   go_wp2
   go_ret2
   exact ⟨rfl, HBB.out⟩
  ·have hz1 : ¬ (8 : Int) < (p1 : Int) := by omega
   by_cases hA2 : 64 < l1
   ·have hz2 : (64 : Int) < (l1 : Int) := by omega
    clear hA
    go_enter Tryz.func66, Tryz.ntmps66
    go_wp2
    go_ret2
    exact ⟨rfl, HBB.out⟩
   ·have hz2 : ¬ (64 : Int) < (l1 : Int) := by omega
    have hz3 : (4096 : Int) < (n3 : Int) := by omega
    clear hA
    go_enter Tryz.func66, Tryz.ntmps66
    go_wp2
    go_ret2
    exact ⟨rfl, HBB.out⟩
 have hA1 : ¬ 8 < p1 := fun h => hA (.inl h)
 have hA2 : ¬ 64 < l1 := fun h => hA (.inr (.inl h))
 have hA3 : ¬ 4096 < n3 := fun h => hA (.inr (.inr h))
 have hz1 : ¬ (8 : Int) < (p1 : Int) := by omega
 have hz2 : ¬ (64 : Int) < (l1 : Int) := by omega
 have hz3 : ¬ (4096 : Int) < (n3 : Int) := by omega
 have hrA := HQ.out
 rw [if_neg hA] at hrA
 have HRA := am hrA
 clear hrA HQ hA hA1 hA2 hA3
 have b0 : W0.heap[W.heap.size]? = some (.cells #[.slice A1 p1 c1, .int .i64 res, .slice A2 l1 c2, .slice A3 n3 c3] 27 (0, 0)) := by rw [HW0.out]; exact qAk (qBb W _) (qAg (Below.refl _ _) _)
 have b1 : W0.heap[W.heap.size + 1]? = some (.cells #[.slice A4 f1 c4, .slice A5 v1 c5] 30 (0, 0)) := by rw [HW0.out]; simpa using qBb (W.alloc (.cells #[.slice A1 p1 c1, .int .i64 res, .slice A2 l1 c2, .slice A3 n3 c3] 27)) _
 have k0 := (qAa b0 0).trans rfl
 have k1 := (qAa b0 1).trans rfl
 have k2 := (qAa b0 2).trans rfl
 have k3 := (qAa b0 3).trans rfl
 have k4 := (qAa b1 0).trans rfl
 have k5 := (qAa b1 1).trans rfl
 go_enter Tryz.func66, Tryz.ntmps66
 go_wp2_with fail
 rw [← HW0.out]
 by_cases hB1 : n3 = 0
 ·have hrr : q = (0, 51) := by have h := HRA.out; rw [decide_eq_false (by omega), Bool.false_and, Bool.false_and, if_neg (by decide)] at h; exact h.symm
  subst hrr
  have hq1 : ((n3 : Int) == 0) = true := by simp [hB1]
  go_quiet (fail)
  go_wp2_with fail
  go_ret2
  exact ⟨rfl, qAe HB0.out _⟩
 have hq1 : ((n3 : Int) == 0) = false := bn (by omega)
 have hrB := HRA.out
 rw [decide_eq_true (show 0 < n3 by omega), Bool.true_and] at hrB
 replace HRA := am hrB
 replace HB0 : qAd (Below W.heap.size W W0) := HB0
 have HBW := HB0
 clear hrB b0 b1 HB0 HW0
 refine wp_region_noPanic ?_
 refine wp_region_held_drew (S := (fun W' => W'.cell? ⟨W.heap.size, 0, none⟩ = some (.slice A1 p1 c1) ∧ W'.cell? ⟨W.heap.size, 1, none⟩ = some (.int .i64 res) ∧ W'.cell? ⟨W.heap.size, 2, none⟩ = some (.slice A2 l1 c2) ∧ W'.cell? ⟨W.heap.size, 3, none⟩ = some (.slice A3 n3 c3) ∧ W'.cell? ⟨W.heap.size + 1, 0, none⟩ = some (.slice A4 f1 c4) ∧ W'.cell? ⟨W.heap.size + 1, 1, none⟩ = some (.slice A5 v1 c5))) (by kernel_rfl) ⟨k0, k1, k2, k3, k4, k5⟩ (fun hHeld => ?_)
 refine hT 0 ?_
 refine hT 1 ?_
 refine hT 2 ?_
 refine hT 3 ?_
 refine hT 4 ?_
 refine hT 5 ?_
 refine hT 6 ?_
 refine wpAnyH_ready (rs := [7]) (by kernel_rfl) (by simp) ?_
 refine AllReadyH.cons (o := _) rfl (fun K hK => ?_) ?_
 rotate_left
 ·exact AllReadyH.nil
 go_simp
 go_at_call 92
 refine (HSG.out _ (by first | exact HBW.out | exact qA4 HBW.out)).mono ?_
 rintro e w2 ⟨rfl, hb⟩
 replace HBW : qAd (Below W.heap.size W w2) := ⟨by first | exact HBW.out.trans (hb.mono HBW.out.size) | exact (qA4 HBW.out).trans (hb.mono (qA4 HBW.out).size)⟩
 replace k0 := (hb.cell (bl k0)).trans k0
 replace k1 := (hb.cell (bl k1)).trans k1
 replace k2 := (hb.cell (bl k2)).trans k2
 replace k3 := (hb.cell (bl k3)).trans k3
 replace k4 := (hb.cell (bl k4)).trans k4
 replace k5 := (hb.cell (bl k5)).trans k5
 clear hb hHeld
 go_wp2_with fail
 refine hK.out _ _ ⟨k0, k1, k2, k3, k4, k5⟩ (fun hHeld => ?_)
 clear hK K
 try simp only [Act.put, zA, zB, zC, zD, zE, zF]
 clear HSG
 cases bs with
 | false =>
  refine hT 8 ?_
  refine hT 9 ?_
  refine hT 10 ?_
  have hrr : q = (0, 51) := by have h := HRA.out; exact h.symm
  subst hrr
  refine hO 11 ?_
  refine hO 12 ?_
  refine hO 13 ?_
  refine hO 14 ?_
  refine hT 15 ?_
  refine hT 16 ?_
  refine hO 17 ?_
  refine hO 18 ?_
  refine hO 19 ?_
  refine hO 20 ?_
  refine hO 21 ?_
  refine hO 22 ?_
  refine hO 23 ?_
  refine hO 24 ?_
  refine hT 25 ?_
  refine hT 26 ?_
  refine hO 27 ?_
  refine hO 28 ?_
  refine hO 29 ?_
  refine hO 30 ?_
  refine hO 31 ?_
  refine hO 32 ?_
  refine hO 33 ?_
  refine hO 34 ?_
  refine hO 35 ?_
  refine hO 36 ?_
  refine hO 37 ?_
  refine hO 38 ?_
  refine hT 39 ?_
  refine hT 40 ?_
  refine hO 41 ?_
  refine hO 42 ?_
  refine hO 43 ?_
  refine hO 44 ?_
  refine hT 45 ?_
  refine wpAnyH_done (by kernel_rfl) ?_ _
  refine NoPanic.normal ?_
  go_wp2_with fail
  go_ret2
  exact ⟨rfl, HBW.out⟩
 | true =>
 refine hT 8 ?_
 refine hT 9 ?_
 refine hT 10 ?_
 refine hT 11 ?_
 refine hT 12 ?_
 refine wpAnyH_ready (rs := [13]) (by kernel_rfl) (by simp) ?_
 refine AllReadyH.cons (o := _) rfl (fun K hK => ?_) ?_
 rotate_left
 ·exact AllReadyH.nil
 go_simp
 go_at_call 93
 refine (HVL.out _ (by first | exact HBW.out | exact qA4 HBW.out)).mono ?_
 rintro e w2 ⟨rfl, hb⟩
 replace HBW : qAd (Below W.heap.size W w2) := ⟨by first | exact HBW.out.trans (hb.mono HBW.out.size) | exact (qA4 HBW.out).trans (hb.mono (qA4 HBW.out).size)⟩
 replace k0 := (hb.cell (bl k0)).trans k0
 replace k1 := (hb.cell (bl k1)).trans k1
 replace k2 := (hb.cell (bl k2)).trans k2
 replace k3 := (hb.cell (bl k3)).trans k3
 replace k4 := (hb.cell (bl k4)).trans k4
 replace k5 := (hb.cell (bl k5)).trans k5
 clear hb hHeld
 go_wp2_with fail
 refine hK.out _ _ ⟨k0, k1, k2, k3, k4, k5⟩ (fun hHeld => ?_)
 clear hK K
 try simp only [Act.put, zA, zB, zC, zD, zE, zF]
 clear HVL
 cases bw with
 | false =>
  refine hT 14 ?_
  refine hT 15 ?_
  refine hT 16 ?_
  have hrr : q = (0, 51) := by have h := HRA.out; exact h.symm
  subst hrr
  refine hO 17 ?_
  refine hO 18 ?_
  refine hO 19 ?_
  refine hO 20 ?_
  refine hO 21 ?_
  refine hO 22 ?_
  refine hO 23 ?_
  refine hO 24 ?_
  refine hT 25 ?_
  refine hT 26 ?_
  refine hO 27 ?_
  refine hO 28 ?_
  refine hO 29 ?_
  refine hO 30 ?_
  refine hO 31 ?_
  refine hO 32 ?_
  refine hO 33 ?_
  refine hO 34 ?_
  refine hO 35 ?_
  refine hO 36 ?_
  refine hO 37 ?_
  refine hO 38 ?_
  refine hT 39 ?_
  refine hT 40 ?_
  refine hO 41 ?_
  refine hO 42 ?_
  refine hO 43 ?_
  refine hO 44 ?_
  refine hT 45 ?_
  refine wpAnyH_done (by kernel_rfl) ?_ _
  refine NoPanic.normal ?_
  go_wp2_with fail
  go_ret2
  exact ⟨rfl, HBW.out⟩
 | true =>
 refine hT 14 ?_
 refine hT 15 ?_
 refine hT 16 ?_
 refine hT 17 ?_
 refine hT 18 ?_
 refine hT 19 ?_
 refine hT 20 ?_
 refine hT 21 ?_
 refine hT 22 ?_
 refine hT 23 ?_
 by_cases hlt : l1 < p1
 ·have hq2 : decide ((l1 : Int) < (p1 : Int)) = true := by simp; omega
  refine hT 24 ?_
  refine hT 25 ?_
  refine hT 26 ?_
  have hrr : q = (0, 51) := by have h := HRA.out; rw [decide_eq_false (show ¬ p1 ≤ l1 by omega)] at h; exact h.symm
  subst hrr
  refine hO 27 ?_
  refine hO 28 ?_
  refine hO 29 ?_
  refine hO 30 ?_
  refine hO 31 ?_
  refine hO 32 ?_
  refine hO 33 ?_
  refine hO 34 ?_
  refine hO 35 ?_
  refine hO 36 ?_
  refine hO 37 ?_
  refine hO 38 ?_
  refine hT 39 ?_
  refine hT 40 ?_
  refine hO 41 ?_
  refine hO 42 ?_
  refine hO 43 ?_
  refine hO 44 ?_
  refine hT 45 ?_
  refine wpAnyH_done (by kernel_rfl) ?_ _
  refine NoPanic.normal ?_
  go_wp2_with fail
  go_ret2
  exact ⟨rfl, HBW.out⟩
 have hq2 : decide ((l1 : Int) < (p1 : Int)) = false := by simp; omega
 have hle : p1 ≤ l1 := by omega
 have hp0 : (0 : Int) ≤ (p1 : Int) := by omega
 have hq3 : (p1 : Int) ≤ (c2 : Int) := by omega
 have hrB := HRA.out
 rw [decide_eq_true hle] at hrB
 replace HRA := am hrB
 clear hrB
 refine hT 24 ?_
 refine hT 25 ?_
 refine hT 26 ?_
 refine hT 27 ?_
 refine hT 28 ?_
 refine hT 29 ?_
 refine hT 30 ?_
 refine hT 31 ?_
 refine hT 32 ?_
 refine hT 33 ?_
 refine hT 34 ?_
 refine hT 35 ?_
 refine hT 36 ?_
 refine wpAnyH_ready (rs := [37]) (by kernel_rfl) (by simp) ?_
 refine AllReadyH.cons (o := _) rfl (fun K hK => ?_) ?_
 rotate_left
 ·exact AllReadyH.nil
 go_simp
 go_at_call 29
 refine (HIN.out hle _ (by first | exact HBW.out | exact qA4 HBW.out)).mono ?_
 rintro e w2 ⟨rfl, hb⟩
 replace HBW : qAd (Below W.heap.size W w2) := ⟨by first | exact HBW.out.trans (hb.mono HBW.out.size) | exact (qA4 HBW.out).trans (hb.mono (qA4 HBW.out).size)⟩
 replace k0 := (hb.cell (bl k0)).trans k0
 replace k1 := (hb.cell (bl k1)).trans k1
 replace k2 := (hb.cell (bl k2)).trans k2
 replace k3 := (hb.cell (bl k3)).trans k3
 replace k4 := (hb.cell (bl k4)).trans k4
 replace k5 := (hb.cell (bl k5)).trans k5
 clear hb hHeld
 go_wp2_with fail
 refine hK.out _ _ ⟨k0, k1, k2, k3, k4, k5⟩ (fun hHeld => ?_)
 clear hK K
 try simp only [Act.put, zA, zB, zC, zD, zE, zF]
 clear HIN
 cases bi with
 | false =>
  refine hT 38 ?_
  refine hT 39 ?_
  refine hT 40 ?_
  have hrr : q = (0, 51) := by have h := HRA.out; exact h.symm
  subst hrr
  refine hO 41 ?_
  refine hO 42 ?_
  refine hO 43 ?_
  refine hO 44 ?_
  refine hT 45 ?_
  refine wpAnyH_done (by kernel_rfl) ?_ _
  refine NoPanic.normal ?_
  go_wp2_with fail
  go_ret2
  exact ⟨rfl, HBW.out⟩
 | true =>
 refine hT 38 ?_
 refine hT 39 ?_
 refine hT 40 ?_
 refine hT 41 ?_
 refine hT 42 ?_
 refine wpAnyH_ready (rs := [43]) (by kernel_rfl) (by simp) ?_
 refine AllReadyH.cons (o := _) rfl (fun K hK => ?_) ?_
 rotate_left
 ·exact AllReadyH.nil
 go_simp
 go_at_call 93
 refine (HVV.out _ (by first | exact HBW.out | exact qA4 HBW.out)).mono ?_
 rintro e w2 ⟨rfl, hb⟩
 replace HBW : qAd (Below W.heap.size W w2) := ⟨by first | exact HBW.out.trans (hb.mono HBW.out.size) | exact (qA4 HBW.out).trans (hb.mono (qA4 HBW.out).size)⟩
 replace k0 := (hb.cell (bl k0)).trans k0
 replace k1 := (hb.cell (bl k1)).trans k1
 replace k2 := (hb.cell (bl k2)).trans k2
 replace k3 := (hb.cell (bl k3)).trans k3
 replace k4 := (hb.cell (bl k4)).trans k4
 replace k5 := (hb.cell (bl k5)).trans k5
 clear hb hHeld
 go_wp2_with fail
 refine hK.out _ _ ⟨k0, k1, k2, k3, k4, k5⟩ (fun hHeld => ?_)
 clear hK K
 try simp only [Act.put, zA, zB, zC, zD, zE, zF]
 clear HVV
 cases bv with
 | false =>
  refine hT 44 ?_
  refine hT 45 ?_
  have hrr : q = (0, 51) := by have h := HRA.out; exact h.symm
  subst hrr
  refine wpAnyH_done (by kernel_rfl) ?_ _
  refine NoPanic.normal ?_
  go_wp2_with fail
  go_ret2
  exact ⟨rfl, HBW.out⟩
 | true =>
 refine hT 44 ?_
 refine hT 45 ?_
 refine wpAnyH_done (by kernel_rfl) ?_ _
 refine NoPanic.normal ?_
 go_wp2_with fail
 have hrB := HRA.out
 simp only [Bool.true_and, Bool.and_self] at hrB
 replace HRA : qAd ((if fs.all sgB = true then insB code else (0, 51)) = q) := ⟨hrB⟩
 clear hrB hHeld hp0 hq1 hq2 hq3 hz1 hz2 hz3 k0 k1 k2 k5
 go_loopg [6] f1 (fun gg s6 wr => ∃ (kk : Nat), kk ≤ f1 ∧ f1 - kk ≤ gg ∧ s6 = .int .i64 kk ∧ wr.cell? ⟨W.heap.size, 3, none⟩ = some (.slice A3 n3 c3) ∧ wr.cell? ⟨W.heap.size + 1, 0, none⟩ = some (.slice A4 f1 c4) ∧ qAd (Below W.heap.size W wr) ∧ qAd (∀ (j : Nat) x, j < kk → fs[j]? = some x → sgB x = true))
 case atStart => exact ⟨0, Nat.zero_le _, by omega, rfl, k3, k4, HBW, ⟨fun j x hj => absurd hj (Nat.not_lt_zero _)⟩⟩
 case round =>
  obtain ⟨kk, hkk, hg, rfl, e3, e4, HB, HA⟩ := hrel
  clear k3 k4
  by_cases hlt2 : kk < f1
  ·have hltz : (kk : Int) < (f1 : Int) := by omega
   have h0 : (0 : Int) ≤ (kk : Int) := by omega
   obtain ⟨ad, D, d, ea, x0, x1, xl, xC⟩ := at_T24 (Kd.F_now (Kd.F_below HF.out HB.out)) (kk : Int) h0 (by rw [← HFF.out]; exact hltz)
   subst ea
   have hx : fs[kk]? = some (qAT fs (kk : Int)) := rd_getR fs z24 kk (by have := HFF.out; omega)
   obtain ⟨x, hxe⟩ : ∃ x, x = qAT fs (kk : Int) := ⟨_, rfl⟩
   rw [← hxe] at x0 x1 xl xC hx
   rw [Int.toNat_natCast] at x0 x1
   have hs := rsig_any D d x.f0 x.f1 wr xC xl (HFS.out x (List.mem_of_getElem? hx))
   obtain ⟨m0, hm0⟩ := eX x.f0.length
   obtain ⟨rt, hrt⟩ := eX x.f1
   obtain ⟨rb, hrb⟩ := eX (sgB x)
   rw [show (x.f0.all okT && resT x.f1) = rb from hrb.symm, ← hrt, ← hm0] at hs
   rw [← hrt] at x1
   rw [← hm0] at x0
   have HS := am hs
   have HX := am hx
   have HRB := am hrb
   clear hs hx hxe hrb hrt hm0 xl xC
   cases rb with
   | false =>
    have hrr : q = (0, 51) := by
     have h := HRA.out
     rw [if_neg (by intro h2; have h3 := List.all_eq_true.1 h2 x (List.mem_of_getElem? HX.out); rw [← HRB.out] at h3; cases h3)] at h
     exact h.symm
    subst hrr
    go_wp2_with (go_at_call 92; refine HS.out.mono ?_; rintro e w2 ⟨rfl, hb⟩; replace HB : qAd (Below W.heap.size W w2) := ⟨HB.out.trans (hb.mono HB.out.size)⟩; clear hb)
    go_ret2
    exact ⟨rfl, HB.out⟩
   | true =>
    go_wp2_with (go_at_call 92; refine HS.out.mono ?_; rintro e w2 ⟨rfl, hb⟩; replace HB : qAd (Below W.heap.size W w2) := ⟨HB.out.trans (hb.mono HB.out.size)⟩; replace e3 := (hb.cell (bl e3)).trans e3; replace e4 := (hb.cell (bl e4)).trans e4; clear hb x0 x1)
    go_roundg (f1 - (kk + 1))
    case measure => omega
    case rel =>
     refine ⟨kk + 1, by omega, by omega, by go_num, e3, e4, HB, ⟨fun j u hj hu => ?_⟩⟩
     by_cases e : j = kk
     rotate_left
     ·exact HA.out j u (by omega) hu
     subst e
     rw [HX.out] at hu
     injection hu with hu; subst hu
     exact HRB.out.symm
  have e0 : f1 = kk := by omega
  subst e0
  have hnot : ¬ (f1 : Int) < (f1 : Int) := by omega
  have hrC := HRA.out
  rw [if_pos (List.all_eq_true.2 fun x hx => by obtain ⟨j, hj, e⟩ := List.getElem_of_mem hx; exact HA.out j x (by rw [HFF.out]; exact hj) (by rw [List.getElem?_eq_getElem hj, e]))] at hrC
  have HRC := am hrC
  clear hrC HRA HA
  go_wp2_with fail
  clear e4
  go_loopg [7] n3 (fun gg s7 wr => ∃ (kk : Nat), kk ≤ n3 ∧ n3 - kk ≤ gg ∧ s7 = .int .i64 kk ∧ wr.cell? ⟨W.heap.size, 3, none⟩ = some (.slice A3 n3 c3) ∧ qAd (Below W.heap.size W wr) ∧ qAd (∀ (j : Nat) x, j < kk → code[j]? = some x → okS (insP x) = true))
  case atStart => exact ⟨0, Nat.zero_le _, by omega, rfl, e3, HB, ⟨fun j x hj => absurd hj (Nat.not_lt_zero _)⟩⟩
  case round =>
   clear e3 HB
   obtain ⟨kk, hkk, hg, rfl, e3, HB, HA⟩ := hrel
   by_cases hlt2 : kk < n3
   rotate_left
   ·have e0 : n3 = kk := by omega
    subst e0
    have hnot2 : ¬ (n3 : Int) < (n3 : Int) := by omega
    have hrr : q = (0, 0) := HRC.out.symm.trans (insB_all code (fun i x hi hx => HA.out i x (by rw [HNN.out]; exact hi) hx))
    subst hrr
    go_wp2_with fail
    go_ret2
    exact ⟨rfl, HB.out⟩
   have hltz : (kk : Int) < (n3 : Int) := by omega
   have h0 : (0 : Int) ≤ (kk : Int) := by omega
   obtain ⟨ad, ea, x0, x1, x2, x3⟩ := qCr (Kd.F_now (Kd.F_below HC.out HB.out)) (kk : Int) h0 (by rw [← HNN.out]; exact hltz)
   subst ea
   have hx : code[kk]? = some (qA3 code (kk : Int)) := rd_getR code z50 kk (by have := HNN.out; omega)
   obtain ⟨x, hxe⟩ : ∃ x, x = qA3 code (kk : Int) := ⟨_, rfl⟩
   rw [← hxe] at x0 x1 x2 x3 hx
   rw [Int.toNat_natCast] at x0 x1 x2 x3
   obtain ⟨y0, y1, y2, y3⟩ := x
   have hs := fun w => RIns.rright_ins y0 y1 y2 y3 (HU.out _ (List.mem_of_getElem? hx)) w
   simp only at x0 x1 x2 x3
   obtain ⟨rb, hrb⟩ := eX (okI y0 y1 y2 y3)
   rw [← hrb] at hs
   have HS := am hs
   have HX := am hx
   have HRB := am hrb
   clear hs hx hxe hrb
   cases rb with
   | false =>
    have hrr : q = ((kk : Int), 51) := HRC.out.symm.trans (insB_bad code kk _ HA.out HX.out HRB.out.symm)
    subst hrr
    go_wp2_with (go_at_call 23; refine (HS.out _).mono ?_; rintro e w2 ⟨rfl, hb⟩; replace HB : qAd (Below W.heap.size W w2) := ⟨HB.out.trans (hb.mono HB.out.size)⟩; clear hb)
    go_ret2
    exact ⟨rfl, HB.out⟩
   | true =>
    go_wp2_with (go_at_call 23; refine (HS.out _).mono ?_; rintro e w2 ⟨rfl, hb⟩; replace HB : qAd (Below W.heap.size W w2) := ⟨HB.out.trans (hb.mono HB.out.size)⟩; replace e3 := (hb.cell (bl e3)).trans e3; clear hb x0 x1 x2 x3)
    go_roundg (n3 - (kk + 1))
    case measure => omega
    case rel =>
     refine ⟨kk + 1, by omega, by omega, by go_num, e3, HB, ⟨fun j u hj hu => ?_⟩⟩
     by_cases e : j = kk
     rotate_left
     ·exact HA.out j u (by omega) hu
     subst e
     rw [HX.out] at hu
     injection hu with hu; subst hu
     exact HRB.out.symm
theorem good_iff (ps : List Int) (res : Int) (ls : List Int) (n : Nat) (fs : List S24) (vs : List Int) : (goodH ps res ls n vs && fs.all sgB) = true ↔ (¬ (n = 0 ∨ ls.length < ps.length ∨ ps ≠ ls.take ps.length ∨ resT res = false)) ∧ ¬ (((fs.map sgP).any fun s => !resT s.f1) = true) ∧ ¬ (((ls ++ vs ++ (fs.map sgP).flatMap S34.f0).any fun t => !okT t) = true) := by
 have hB : ¬ (((fs.map sgP).any fun s => !resT s.f1) = true) ↔ ∀ s ∈ fs, resT s.f1 = true := by
  simp [List.any_eq_true, sgP]
 have hC : ¬ (((ls ++ vs ++ (fs.map sgP).flatMap S34.f0).any fun t => !okT t) = true) ↔ (∀ t ∈ ls, okT t = true) ∧ (∀ t ∈ vs, okT t = true) ∧ ∀ s ∈ fs, ∀ t ∈ s.f0, okT t = true := by
  simp only [Bool.not_eq_true, List.any_eq_false, List.mem_append, List.mem_flatMap, List.mem_map]
  constructor
  ·intro h
   refine ⟨fun t ht => ?_, fun t ht => ?_, fun s hs t ht => ?_⟩
   ·simpa using h t (Or.inl (Or.inl ht))
   ·simpa using h t (Or.inl (Or.inr ht))
   simpa using h t (Or.inr ⟨sgP s, ⟨s, hs, rfl⟩, ht⟩)
  rintro ⟨h1, h2, h3⟩ t ((ht | ht) | ⟨_, ⟨s, hs, rfl⟩, ht⟩)
  ·simp [h1 t ht]
  ·simp [h2 t ht]
  simp [h3 s hs t ht]
 have hG : (goodH ps res ls n vs && fs.all sgB) = true ↔ (0 < n ∧ ((∀ t ∈ ps, okT t = true) ∧ resT res = true) ∧ (∀ t ∈ ls, okT t = true) ∧ ps.length ≤ ls.length ∧ ls.take ps.length = ps ∧ (∀ t ∈ vs, okT t = true)) ∧ ∀ s ∈ fs, (∀ t ∈ s.f0, okT t = true) ∧ resT s.f1 = true := by
  simp only [goodH, sgB, Bool.and_eq_true, decide_eq_true_eq, List.all_eq_true, beq_iff_eq]
 rw [hG, hB, hC]
 constructor
 ·rintro ⟨⟨h1, ⟨h2, h3⟩, h4, h5, h6, h7⟩, h8⟩
  refine ⟨?_, fun s hs => (h8 s hs).2, h4, h7, fun s hs => (h8 s hs).1⟩
  rintro (h | h | h | h)
  ·omega
  ·omega
  ·exact h h6.symm
  rw [h3] at h; exact absurd h (by decide)
 rintro ⟨h1, h2, h3, h4, h5⟩
 have h6 : ps = ls.take ps.length := Classical.byContradiction fun h => h1 (Or.inr (Or.inr (Or.inl h)))
 refine ⟨⟨?_, ⟨fun t ht => h3 t ?_, ?_⟩, h3, ?_, h6.symm, h4⟩, fun s hs => ⟨h5 s hs, h2 s hs⟩⟩
 ·exact Nat.pos_of_ne_zero fun h => h1 (Or.inl h)
 ·rw [h6] at ht; exact List.mem_of_mem_take ht
 ·cases h : resT res with
  | true => rfl
  | false => exact absurd (Or.inr (Or.inr (Or.inr h))) h1
 exact Nat.le_of_not_lt fun h => h1 (Or.inr (Or.inl h))
theorem head_sound (ps : List Int) (res : Int) (ls : List Int) (code : List S50) (fs : List S24) (vs : List Int) : (if 8 < ps.length ∨ 64 < ls.length ∨ 4096 < code.length then ((0 : Int), (3 : Int)) else if (goodH ps res ls code.length vs && fs.all sgB) = true then insB code else (0, 51)) = (if qB8 ps res ls code.length (fs.map sgP) vs = 0 then insB code else (0, qB8 ps res ls code.length (fs.map sgP) vs)) := by
 have hg := good_iff ps res ls code.length fs vs
 have e : (if 8 < ps.length ∨ 64 < ls.length ∨ 4096 < code.length then ((0 : Int), (3 : Int)) else if (goodH ps res ls code.length vs && fs.all sgB) = true then insB code else (0, 51)) = (if qB8 ps res ls code.length (fs.map sgP) vs = 0 then insB code else (0, qB8 ps res ls code.length (fs.map sgP) vs)) := by
  unfold qB8
  by_cases h1 : 8 < ps.length ∨ 64 < ls.length ∨ 4096 < code.length
  ·rw [if_pos h1, if_pos h1, if_neg (by decide)]
  rw [if_neg h1, if_neg h1]
  by_cases h2 : (goodH ps res ls code.length vs && fs.all sgB) = true
  ·obtain ⟨a, b, c⟩ := hg.1 h2
   rw [if_pos h2, if_neg a, if_neg b, if_neg c, if_pos rfl]
  rw [if_neg h2]
  by_cases a : (code.length = 0 ∨ ls.length < ps.length ∨ ps ≠ ls.take ps.length ∨ resT res = false)
  ·rw [if_pos a, if_neg (by decide)]
  rw [if_neg a]
  by_cases b : ((fs.map sgP).any fun s => !resT s.f1) = true
  ·rw [if_pos b, if_neg (by decide)]
  rw [if_neg b]
  by_cases c : ((ls ++ vs ++ (fs.map sgP).flatMap S34.f0).any fun t => !okT t) = true
  ·rw [if_pos c, if_neg (by decide)]
  exact absurd (hg.2 ⟨a, b, c⟩) h2
 exact e
end RV
namespace RV
def opP (y : S200) : S160 := ⟨y.f0, y.f1⟩
def oneP (m : Bool) (s : S117) : S113 := ⟨m, s.f0, s.f1.map opP⟩
def outP (met : List Bool) (shs : List S117) : List S113 := List.zipWith oneP met shs
theorem opP_inj {x y : S200} (h : opP x = opP y) : x = y := by
 cases x; cases y
 injection h with h1 h2
 subst h1; subst h2; rfl
theorem opP_map : ∀ {a b : List S200}, a.map opP = b.map opP → a = b
 | [], [], _ => rfl
 | [], _ :: _, h => by simp at h
 | _ :: _, [], h => by simp at h
 | x :: a, y :: b, h => by
  rw [List.map_cons, List.map_cons] at h
  injection h with h1 h2
  rw [opP_inj h1, opP_map h2]
theorem oneP_inj {m : Bool} {x y : S117} (h : oneP m x = oneP m y) : x = y := by
 cases x; cases y
 injection h with h1 h2 h3
 have h4 := opP_map h3
 subst h2; subst h4; rfl
theorem outP_len {met : List Bool} {shs : List S117} (h : met.length = shs.length) : (outP met shs).length = met.length := by
 unfold outP; rw [List.length_zipWith]; omega
theorem outP_set {met : List Bool} {shs : List S117} (h : met.length = shs.length) (i : Nat) (x : S117) : outP (met.set i true) (shs.set i x) = (outP met shs).set i (oneP true x) := by
 unfold outP
 refine List.ext_getElem (by simp) fun j h1 h2 => ?_
 simp only [List.getElem_zipWith, List.getElem_set]
 split <;> rfl
theorem qC1 (t : Int) (st : List Int) : qBi st [t] = qBt t st := by
 unfold qBi qBt
 rcases List.eq_nil_or_concat st with rfl | ⟨l, a, rfl⟩
 ·rfl
 simp
theorem qDV {t : Int} {st : List Int} (h : qBi st [t] = true) : qBk st [t] = st.dropLast := by
 unfold qBk
 rw [if_pos h, List.dropLast_eq_take]; rfl
theorem next_eq : ∀ (k : Nat) (met : List Bool) (shs : List S117) (dn : List Bool), met.length = shs.length → qCq k (outP met shs) dn = qCO k met dn
 | k, [], [], dn, _ => by cases dn <;> rfl
 | k, m :: ms, s :: ss, [], _ => rfl
 | k, m :: ms, s :: ss, d :: ds, h => by
  show qCq k (oneP m s :: outP ms ss) (d :: ds) = _
  rw [qDP, nextR_cons, next_eq (k + 1) ms ss ds (by simpa using h)]; rfl
theorem rd_out {met : List Bool} {shs : List S117} (h : met.length = shs.length) {i : Int} (h0 : 0 ≤ i) (h1 : i < met.length) : qA2 (outP met shs) i = oneP (rdOf false met i) (qAM shs i) := by
 unfold qA2 qAM rdOf outP
 rw [List.getD_eq_getElem?_getD, List.getD_eq_getElem?_getD, List.getD_eq_getElem?_getD, List.getElem?_eq_getElem (by rw [List.length_zipWith]; omega), List.getElem?_eq_getElem (by omega), List.getElem?_eq_getElem (by omega)]
 simp
theorem qEl {met : List Bool} {shs : List S117} (h : met.length = shs.length) {i : Int} (h0 : 0 ≤ i) (h1 : i < met.length) (x : S117) (ws : List S157) :
  qBC (outP met shs) (⟨i, oneP true x⟩ :: ws) = if (qAW met shs i x).1 = true then qBC (outP (qAW met shs i x).2.1 (qAW met shs i x).2.2) ws else (22, outP met shs) := by
 rw [qCM, rd_out h h0 h1]
 unfold qAW
 by_cases hm : rdOf false met i = true
 ·rw [if_pos (show (oneP (rdOf false met i) (qAM shs i)).f0 = true from hm), if_pos hm]
  have e : ((oneP (rdOf false met i) (qAM shs i)).f1 == (oneP true x).f1 && qCc (oneP (rdOf false met i) (qAM shs i)).f2 (oneP true x).f2) = eqB (qAM shs i) x := by
   refine (qEb ?_).symm
   rw [Bool.and_eq_true, beq_iff_eq, qCv]
   constructor
   ·rintro ⟨e1, e2⟩
    exact oneP_inj (m := true) (by unfold oneP at e1 e2 ⊢; simp only at e1 e2; rw [e1, e2])
   intro e; rw [e]; exact ⟨rfl, rfl⟩
  rw [e]
 ·rw [if_neg (show ¬ (oneP (rdOf false met i) (qAM shs i)).f0 = true from hm), if_neg hm, if_pos rfl, outP_set h]
  rfl
def qB2 (i N : Int) (x : S138) : List S157 := (if x.f1 = true then [⟨i, oneP true x.f3⟩] else []) ++ (if x.f2 = true then [⟨N, oneP true x.f4⟩] else [])
theorem qCy {met : List Bool} {shs : List S117} {i : Int} {x : S117} : (qAW met shs i x).2.1.length = met.length ∧ (qAW met shs i x).2.2.length = shs.length := by
 unfold qAW
 split
 ·exact ⟨rfl, rfl⟩
 exact ⟨by simp, by simp⟩
theorem go_eq {met : List Bool} {shs : List S117} (h : met.length = shs.length) {i : Nat} {N : Int} (hN : 0 ≤ N) {x : S138} (h1 : x.f1 = true → (i : Int) + 1 < met.length) (h2 : x.f2 = true → N < met.length) :
  (qBC (outP met shs) (qB2 ((i : Int) + 1) N x)).1 = (qC5 i N x.f1 x.f2 x.f3 x.f4 met shs).1 ∧ ((qC5 i N x.f1 x.f2 x.f3 x.f4 met shs).1 = 0 → (qBC (outP met shs) (qB2 ((i : Int) + 1) N x)).2 = outP (qC5 i N x.f1 x.f2 x.f3 x.f4 met shs).2.1 (qC5 i N x.f1 x.f2 x.f3 x.f4 met shs).2.2) := by
 unfold qB2
 cases e1 : x.f1 with
 | false =>
  cases e2 : x.f2 with
  | false => rw [qE4]; exact ⟨rfl, fun _ => rfl⟩
  | true =>
   rw [qD0]
   show (qBC (outP met shs) [⟨N, oneP true x.f4⟩]).1 = _ ∧ (_ → (qBC (outP met shs) [⟨N, oneP true x.f4⟩]).2 = _)
   rw [qEl h hN (h2 e2)]
   cases e : (qAW met shs N x.f4).1 with
   | false => exact ⟨rfl, fun hh => absurd (show (22 : Int) = 0 from hh) (by decide)⟩
   | true => exact ⟨rfl, fun _ => rfl⟩
 | true =>
  cases e2 : x.f2 with
  | false =>
   rw [qD1]
   show (qBC (outP met shs) [⟨(i : Int) + 1, oneP true x.f3⟩]).1 = _ ∧ (_ → (qBC (outP met shs) [⟨(i : Int) + 1, oneP true x.f3⟩]).2 = _)
   rw [qEl h (by omega) (h1 e1)]
   cases e : (qAW met shs ((i : Int) + 1) x.f3).1 with
   | false => exact ⟨rfl, fun hh => absurd (show (22 : Int) = 0 from hh) (by decide)⟩
   | true => exact ⟨rfl, fun _ => rfl⟩
  | true =>
   rw [qCY]
   show (qBC (outP met shs) [⟨(i : Int) + 1, oneP true x.f3⟩, ⟨N, oneP true x.f4⟩]).1 = _ ∧ (_ → (qBC (outP met shs) [⟨(i : Int) + 1, oneP true x.f3⟩, ⟨N, oneP true x.f4⟩]).2 = _)
   rw [qEl h (by omega) (h1 e1)]
   cases e : (qAW met shs ((i : Int) + 1) x.f3).1 with
   | false => exact ⟨rfl, fun hh => absurd (show (22 : Int) = 0 from hh) (by decide)⟩
   | true =>
    rw [if_pos rfl, if_neg (by decide)]
    have hl := qCy (met := met) (shs := shs) (i := (i : Int) + 1) (x := x.f3)
    rw [qEl (by rw [hl.1, hl.2, h]) hN (by rw [hl.1]; exact h2 e2)]
    cases e' : (qAW (qAW met shs ((i : Int) + 1) x.f3).2.1 (qAW met shs ((i : Int) + 1) x.f3).2.2 N x.f4).1 with
    | false => exact ⟨rfl, fun hh => absurd (show (22 : Int) = 0 from hh) (by decide)⟩
    | true => exact ⟨rfl, fun _ => rfl⟩
theorem notes_eq {met : List Bool} {shs : List S117} (h : met.length = shs.length) {n i : Nat} {N : Int} (hn : n = met.length) (hN : 0 ≤ N) {x : S138} (hx : x.f0 = true) :
  (qBU (outP met shs) (qB2 ((i : Int) + 1) N x)).1 = (qBS n i N x met shs).1 ∧ ((qBS n i N x met shs).1 = 0 → (qBU (outP met shs) (qB2 ((i : Int) + 1) N x)).2 = outP (qBS n i N x met shs).2.1 (qBS n i N x met shs).2.2) := by
 have ho : (outP met shs).length = n := by rw [outP_len h, hn]
 by_cases hA : (x.f1 = true ∧ (n : Int) ≤ i + 1) ∨ (x.f2 = true ∧ (n : Int) ≤ N)
 ·rw [qD7 (Or.inr hA)]
  unfold qBU qB2
  rw [if_pos]
  ·exact ⟨rfl, fun hh => absurd (show (51 : Int) = 0 from hh) (by decide)⟩
  rw [List.any_eq_true, ho]
  rcases hA with ⟨a, b⟩ | ⟨a, b⟩
  ·exact ⟨⟨(i : Int) + 1, oneP true x.f3⟩, by rw [if_pos a]; simp, by simpa using b⟩
  ·exact ⟨⟨N, oneP true x.f4⟩, by rw [if_pos a]; simp, by simpa using b⟩
 ·have hR : ¬ (x.f0 = false ∨ (x.f1 = true ∧ (n : Int) ≤ i + 1) ∨ (x.f2 = true ∧ (n : Int) ≤ N)) := by
   rintro (e | e)
   ·rw [hx] at e; exact absurd e (by decide)
   exact hA e
  have hfar : ¬ (((qB2 ((i : Int) + 1) N x).any fun w => decide (((outP met shs).length : Int) ≤ w.f0)) = true) := by
   rw [List.any_eq_true, ho]
   rintro ⟨w, hw, hb⟩
   have hb := dt hb
   unfold qB2 at hw
   rcases List.mem_append.1 hw with hw | hw
   ·split at hw
    ·rename_i e; rw [List.mem_singleton.1 hw] at hb; exact hA (Or.inl ⟨e, hb⟩)
    cases hw
   split at hw
   ·rename_i e; rw [List.mem_singleton.1 hw] at hb; exact hA (Or.inr ⟨e, hb⟩)
   cases hw
  have hov : ∀ a, (decide (512 < (oneP true a).f1.length) || decide (32 < (oneP true a).f2.length)) = qC4 a := fun a => by unfold qC4 oneP; simp
  unfold qBU
  rw [if_neg hfar]
  by_cases hB : (x.f1 = true ∧ qC4 x.f3 = true) ∨ (x.f2 = true ∧ qC4 x.f4 = true)
  ·rw [roundR_3 hR hB, if_pos]
   ·exact ⟨rfl, fun hh => absurd (show (3 : Int) = 0 from hh) (by decide)⟩
   rw [List.any_eq_true]
   rcases hB with ⟨a, b⟩ | ⟨a, b⟩
   ·exact ⟨⟨(i : Int) + 1, oneP true x.f3⟩, by unfold qB2; rw [if_pos a]; simp, by rw [hov]; exact b⟩
   ·exact ⟨⟨N, oneP true x.f4⟩, by unfold qB2; rw [if_pos a]; simp, by rw [hov]; exact b⟩
  ·have hbig : ¬ (((qB2 ((i : Int) + 1) N x).any fun w => decide (512 < w.f1.f1.length) || decide (32 < w.f1.f2.length)) = true) := by
    rw [List.any_eq_true]
    rintro ⟨w, hw, hb⟩
    unfold qB2 at hw
    rcases List.mem_append.1 hw with hw | hw
    ·split at hw
     ·rename_i e; rw [List.mem_singleton.1 hw, hov] at hb; exact hB (Or.inl ⟨e, hb⟩)
     cases hw
    split at hw
    ·rename_i e; rw [List.mem_singleton.1 hw, hov] at hb; exact hB (Or.inr ⟨e, hb⟩)
    cases hw
   rw [qE9 hR hB, if_neg hbig]
   exact go_eq h hN (fun e => by rw [← hn]; exact Int.lt_of_not_ge fun k => hA (Or.inl ⟨e, k⟩)) (fun e => by rw [← hn]; exact Int.lt_of_not_ge fun k => hA (Or.inr ⟨e, k⟩))
theorem taken_concat (l r : List Int) (a t : Int) : qBi (l ++ [a]) (r ++ [t]) = true ↔ a = t ∧ qBi l r = true := by
 unfold qBi
 rw [Bool.and_eq_true, Bool.and_eq_true, decide_eq_true_eq, decide_eq_true_eq, beq_iff_eq, beq_iff_eq, List.length_append, List.length_append]
 show r.length + 1 ≤ l.length + 1 ∧ List.drop (l.length + 1 - (r.length + 1)) (l ++ [a]) = r ++ [t] ↔ _
 rw [Nat.add_sub_add_right, List.drop_append_of_le_length (by omega)]
 constructor
 ·rintro ⟨h1, h2⟩
  have h3 := List.append_inj' h2 rfl
  exact ⟨by injection h3.2, by omega, h3.1⟩
 rintro ⟨rfl, h1, h2⟩
 exact ⟨by omega, by rw [h2]⟩
theorem takes_all : ∀ (ts st : List Int), ((qAA ts st).1 = true ↔ qBi st ts.reverse = true) ∧ ((qAA ts st).1 = true → (qAA ts st).2 = st.take (st.length - ts.length))
 | [], st => by
  refine ⟨by simp [qAA, qBi], fun _ => ?_⟩
  show st = st.take (st.length - 0)
  rw [Nat.sub_zero, List.take_length]
 | t :: ts, st => by
  rcases List.eq_nil_or_concat st with rfl | ⟨l, a, rfl⟩
  ·refine ⟨by simp [qAA, qBi, qBt], by simp [qAA, qBt]⟩
  have ih := takes_all ts l
  rw [List.concat_eq_append] at *
  rw [List.reverse_cons, taken_concat]
  have hb : qBt t (l ++ [a]) = (a == t) := by unfold qBt; simp
  simp only [qAA, hb, List.dropLast_concat]
  by_cases e : a = t
  rotate_left
  ·rw [if_neg (by simpa using e)]
   exact ⟨by simp [e], fun h => by cases h⟩
  rw [if_pos (by simpa using e)]
  refine ⟨by rw [ih.1]; simp [e], fun h => ?_⟩
  rw [ih.2 h, List.length_append]
  show _ = List.take (l.length + 1 - (ts.length + 1)) _
  rw [Nat.add_sub_add_right, List.take_append_of_le_length (by omega)]
theorem step_after_1 (ls vs : List Int) (fs : List S24) (res n : Int) (v : S48) (st : List Int) (tr : List S200) (i : Int) (hn : 0 ≤ n) :
  (qAF ls vs (fs.map sgP) res ⟨1, n, v⟩ i true st (tr.map opP)).1 = (qAP ls vs fs res 1 n v.f0 st tr).f0 ∧ ((qAP ls vs fs res 1 n v.f0 st tr).f0 = true → (qAF ls vs (fs.map sgP) res ⟨1, n, v⟩ i true st (tr.map opP)).2 = qB2 (i + 1) n (qAP ls vs fs res 1 n v.f0 st tr)) := by
 exact ⟨rfl, fun _ => rfl⟩
theorem step_after_2 (ls vs : List Int) (fs : List S24) (res n : Int) (v : S48) (st : List Int) (tr : List S200) (i : Int) (hn : 0 ≤ n) :
  (qAF ls vs (fs.map sgP) res ⟨2, n, v⟩ i true st (tr.map opP)).1 = (qAP ls vs fs res 2 n v.f0 st tr).f0 ∧ ((qAP ls vs fs res 2 n v.f0 st tr).f0 = true → (qAF ls vs (fs.map sgP) res ⟨2, n, v⟩ i true st (tr.map opP)).2 = qB2 (i + 1) n (qAP ls vs fs res 2 n v.f0 st tr)) := by
 by_cases h : n < (ls.length : Int)
 ·simp [qAF, qAP, qBc, qB2, oneP, h, show ¬ ((ls.length : Int) ≤ n) by omega]
 ·simp [qAF, qAP, qBc, qB2, qCf, h, show (ls.length : Int) ≤ n by omega]
theorem step_after_3 (ls vs : List Int) (fs : List S24) (res n : Int) (v : S48) (st : List Int) (tr : List S200) (i : Int) (hn : 0 ≤ n) :
  (qAF ls vs (fs.map sgP) res ⟨3, n, v⟩ i true st (tr.map opP)).1 = (qAP ls vs fs res 3 n v.f0 st tr).f0 ∧ ((qAP ls vs fs res 3 n v.f0 st tr).f0 = true → (qAF ls vs (fs.map sgP) res ⟨3, n, v⟩ i true st (tr.map opP)).2 = qB2 (i + 1) n (qAP ls vs fs res 3 n v.f0 st tr)) := by
 by_cases h : n < (ls.length : Int)
 ·have e := qDV (t := ls.getD n.toNat 0) (st := st)
  rw [qC1] at e
  simp only [qAF, qAP, qBc, qB2, oneP, h, show ¬ ((ls.length : Int) ≤ n) by omega, qC1]
  exact ⟨rfl, fun hh => by rw [e hh]; rfl⟩
 ·simp [qAF, qAP, qBc, qB2, qCf, h, show (ls.length : Int) ≤ n by omega]
theorem step_after_4 (ls vs : List Int) (fs : List S24) (res n : Int) (v : S48) (st : List Int) (tr : List S200) (i : Int) (hn : 0 ≤ n) :
  (qAF ls vs (fs.map sgP) res ⟨4, n, v⟩ i true st (tr.map opP)).1 = (qAP ls vs fs res 4 n v.f0 st tr).f0 ∧ ((qAP ls vs fs res 4 n v.f0 st tr).f0 = true → (qAF ls vs (fs.map sgP) res ⟨4, n, v⟩ i true st (tr.map opP)).2 = qB2 (i + 1) n (qAP ls vs fs res 4 n v.f0 st tr)) := by
 by_cases h : n < (vs.length : Int)
 ·simp [qAF, qAP, qBc, qB2, oneP, h, show ¬ ((vs.length : Int) ≤ n) by omega]
 ·simp [qAF, qAP, qBc, qB2, qCf, h, show (vs.length : Int) ≤ n by omega]
theorem step_after_5 (ls vs : List Int) (fs : List S24) (res n : Int) (v : S48) (st : List Int) (tr : List S200) (i : Int) (hn : 0 ≤ n) :
  (qAF ls vs (fs.map sgP) res ⟨5, n, v⟩ i true st (tr.map opP)).1 = (qAP ls vs fs res 5 n v.f0 st tr).f0 ∧ ((qAP ls vs fs res 5 n v.f0 st tr).f0 = true → (qAF ls vs (fs.map sgP) res ⟨5, n, v⟩ i true st (tr.map opP)).2 = qB2 (i + 1) n (qAP ls vs fs res 5 n v.f0 st tr)) := by
 by_cases h : n < (vs.length : Int)
 ·have e := qDV (t := vs.getD n.toNat 0) (st := st)
  rw [qC1] at e
  simp only [qAF, qAP, qBc, qB2, oneP, h, show ¬ ((vs.length : Int) ≤ n) by omega, qC1]
  exact ⟨rfl, fun hh => by rw [e hh]; rfl⟩
 ·simp [qAF, qAP, qBc, qB2, qCf, h, show (vs.length : Int) ≤ n by omega]
theorem step_after_8 (ls vs : List Int) (fs : List S24) (res n : Int) (v : S48) (st : List Int) (tr : List S200) (i : Int) (hn : 0 ≤ n) :
  (qAF ls vs (fs.map sgP) res ⟨8, n, v⟩ i true st (tr.map opP)).1 = (qAP ls vs fs res 8 n v.f0 st tr).f0 ∧ ((qAP ls vs fs res 8 n v.f0 st tr).f0 = true → (qAF ls vs (fs.map sgP) res ⟨8, n, v⟩ i true st (tr.map opP)).2 = qB2 (i + 1) n (qAP ls vs fs res 8 n v.f0 st tr)) := by
 exact ⟨rfl, fun _ => rfl⟩
theorem step_after_9 (ls vs : List Int) (fs : List S24) (res n : Int) (v : S48) (st : List Int) (tr : List S200) (i : Int) (hn : 0 ≤ n) :
  (qAF ls vs (fs.map sgP) res ⟨9, n, v⟩ i true st (tr.map opP)).1 = (qAP ls vs fs res 9 n v.f0 st tr).f0 ∧ ((qAP ls vs fs res 9 n v.f0 st tr).f0 = true → (qAF ls vs (fs.map sgP) res ⟨9, n, v⟩ i true st (tr.map opP)).2 = qB2 (i + 1) n (qAP ls vs fs res 9 n v.f0 st tr)) := by
 refine ⟨(qC1 3 st).symm, fun h => ?_⟩
 have e := qDV (t := 3) (st := st) h
 simp [qAF, qAP, qB2, oneP, e]
theorem step_after_11 (ls vs : List Int) (fs : List S24) (res n : Int) (v : S48) (st : List Int) (tr : List S200) (i : Int) (hn : 0 ≤ n) :
  (qAF ls vs (fs.map sgP) res ⟨11, n, v⟩ i true st (tr.map opP)).1 = (qAP ls vs fs res 11 n v.f0 st tr).f0 ∧ ((qAP ls vs fs res 11 n v.f0 st tr).f0 = true → (qAF ls vs (fs.map sgP) res ⟨11, n, v⟩ i true st (tr.map opP)).2 = qB2 (i + 1) n (qAP ls vs fs res 11 n v.f0 st tr)) := by
 by_cases hr : res = 0
 ·subst hr; exact ⟨rfl, fun _ => rfl⟩
 ·simp [qAF, qAP, qB2, hr, qC1]
theorem step_after_12 (ls vs : List Int) (fs : List S24) (res n : Int) (v : S48) (st : List Int) (tr : List S200) (i : Int) (hn : 0 ≤ n) :
  (qAF ls vs (fs.map sgP) res ⟨12, n, v⟩ i true st (tr.map opP)).1 = (qAP ls vs fs res 12 n v.f0 st tr).f0 ∧ ((qAP ls vs fs res 12 n v.f0 st tr).f0 = true → (qAF ls vs (fs.map sgP) res ⟨12, n, v⟩ i true st (tr.map opP)).2 = qB2 (i + 1) n (qAP ls vs fs res 12 n v.f0 st tr)) := by
 exact ⟨rfl, fun _ => rfl⟩
theorem step_after_13 (ls vs : List Int) (fs : List S24) (res n : Int) (v : S48) (st : List Int) (tr : List S200) (i : Int) (hn : 0 ≤ n) :
  (qAF ls vs (fs.map sgP) res ⟨13, n, v⟩ i true st (tr.map opP)).1 = (qAP ls vs fs res 13 n v.f0 st tr).f0 ∧ ((qAP ls vs fs res 13 n v.f0 st tr).f0 = true → (qAF ls vs (fs.map sgP) res ⟨13, n, v⟩ i true st (tr.map opP)).2 = qB2 (i + 1) n (qAP ls vs fs res 13 n v.f0 st tr)) := by
 refine ⟨(qC1 1 st).symm, fun _ => rfl⟩
theorem step_after_14 (ls vs : List Int) (fs : List S24) (res n : Int) (v : S48) (st : List Int) (tr : List S200) (i : Int) (hn : 0 ≤ n) :
  (qAF ls vs (fs.map sgP) res ⟨14, n, v⟩ i true st (tr.map opP)).1 = (qAP ls vs fs res 14 n v.f0 st tr).f0 ∧ ((qAP ls vs fs res 14 n v.f0 st tr).f0 = true → (qAF ls vs (fs.map sgP) res ⟨14, n, v⟩ i true st (tr.map opP)).2 = qB2 (i + 1) n (qAP ls vs fs res 14 n v.f0 st tr)) := by
 exact ⟨rfl, fun _ => rfl⟩
theorem step_after_15 (ls vs : List Int) (fs : List S24) (res n : Int) (v : S48) (st : List Int) (tr : List S200) (i : Int) (hn : 0 ≤ n) :
  (qAF ls vs (fs.map sgP) res ⟨15, n, v⟩ i true st (tr.map opP)).1 = (qAP ls vs fs res 15 n v.f0 st tr).f0 ∧ ((qAP ls vs fs res 15 n v.f0 st tr).f0 = true → (qAF ls vs (fs.map sgP) res ⟨15, n, v⟩ i true st (tr.map opP)).2 = qB2 (i + 1) n (qAP ls vs fs res 15 n v.f0 st tr)) := by
 refine ⟨rfl, fun _ => ?_⟩
 simp [qAF, qAP, qB2, oneP, opP]
theorem step_after_16 (ls vs : List Int) (fs : List S24) (res n : Int) (v : S48) (st : List Int) (tr : List S200) (i : Int) (hn : 0 ≤ n) :
  (qAF ls vs (fs.map sgP) res ⟨16, n, v⟩ i true st (tr.map opP)).1 = (qAP ls vs fs res 16 n v.f0 st tr).f0 ∧ ((qAP ls vs fs res 16 n v.f0 st tr).f0 = true → (qAF ls vs (fs.map sgP) res ⟨16, n, v⟩ i true st (tr.map opP)).2 = qB2 (i + 1) n (qAP ls vs fs res 16 n v.f0 st tr)) := by
 by_cases ht : tr = []
 ·subst ht; exact ⟨rfl, fun h => by cases h⟩
 ·simp [qAF, qAP, qB2, oneP, ht, List.map_dropLast]
theorem step_after_17 (ls vs : List Int) (fs : List S24) (res n : Int) (v : S48) (st : List Int) (tr : List S200) (i : Int) (hn : 0 ≤ n) :
  (qAF ls vs (fs.map sgP) res ⟨17, n, v⟩ i true st (tr.map opP)).1 = (qAP ls vs fs res 17 n v.f0 st tr).f0 ∧ ((qAP ls vs fs res 17 n v.f0 st tr).f0 = true → (qAF ls vs (fs.map sgP) res ⟨17, n, v⟩ i true st (tr.map opP)).2 = qB2 (i + 1) n (qAP ls vs fs res 17 n v.f0 st tr)) := by
 exact ⟨rfl, fun _ => rfl⟩
theorem step_after_6 (ls vs : List Int) (fs : List S24) (res n : Int) (v : S48) (st : List Int) (tr : List S200) (i : Int) (hn : 0 ≤ n) :
  (qAF ls vs (fs.map sgP) res ⟨6, n, v⟩ i true st (tr.map opP)).1 = (qAP ls vs fs res 6 n v.f0 st tr).f0 ∧ ((qAP ls vs fs res 6 n v.f0 st tr).f0 = true → (qAF ls vs (fs.map sgP) res ⟨6, n, v⟩ i true st (tr.map opP)).2 = qB2 (i + 1) n (qAP ls vs fs res 6 n v.f0 st tr)) := by
 simp only [qAF, qAP, qBc, qDQ]
 generalize st.getLast? = o
 cases o with
 | none => exact ⟨rfl, fun h => by cases h⟩
 | some a =>
  by_cases h2 : (Ty1.unary n a).2 = 0
  ·simp [h2, qB2, oneP]
  simp [h2, qCf]
theorem step_after_7 (ls vs : List Int) (fs : List S24) (res n : Int) (v : S48) (st : List Int) (tr : List S200) (i : Int) (hn : 0 ≤ n) :
  (qAF ls vs (fs.map sgP) res ⟨7, n, v⟩ i true st (tr.map opP)).1 = (qAP ls vs fs res 7 n v.f0 st tr).f0 ∧ ((qAP ls vs fs res 7 n v.f0 st tr).f0 = true → (qAF ls vs (fs.map sgP) res ⟨7, n, v⟩ i true st (tr.map opP)).2 = qB2 (i + 1) n (qAP ls vs fs res 7 n v.f0 st tr)) := by
 simp only [qAF, qAP, qBc, qDQ]
 generalize st.getLast? = o
 generalize st.dropLast.getLast? = o2
 cases o with
 | none => exact ⟨rfl, fun h => by cases h⟩
 | some a =>
  cases o2 with
  | none => exact ⟨rfl, fun h => by cases h⟩
  | some b =>
   by_cases h2 : (Ty2.binary n b a).2 = 0
   ·simp [h2, qB2, oneP]
   simp [h2, qCf]
theorem step_after_10 (ls vs : List Int) (fs : List S24) (res n : Int) (v : S48) (st : List Int) (tr : List S200) (i : Int) (hn : 0 ≤ n) :
  (qAF ls vs (fs.map sgP) res ⟨10, n, v⟩ i true st (tr.map opP)).1 = (qAP ls vs fs res 10 n v.f0 st tr).f0 ∧ ((qAP ls vs fs res 10 n v.f0 st tr).f0 = true → (qAF ls vs (fs.map sgP) res ⟨10, n, v⟩ i true st (tr.map opP)).2 = qB2 (i + 1) n (qAP ls vs fs res 10 n v.f0 st tr)) := by
 by_cases h : n < (fs.length : Int)
 ·have er : qBu (fs.map sgP) n = sgP (qAT fs n) := by
   unfold qBu qAT
   rw [List.getD_eq_getElem?_getD, List.getD_eq_getElem?_getD, List.getElem?_map, List.getElem?_eq_getElem (by omega)]; rfl
  have ht := takes_all (qAT fs n).f0.reverse st
  rw [List.reverse_reverse, List.length_reverse] at ht
  have e1 : qBc ls vs (fs.map sgP) 10 n v.f0 st = qDs (qAT fs n).f0 (qAT fs n).f1 st := by
   simp [qBc, h, er, sgP]
  simp only [qAF, qAP, e1, qDs]
  cases hb : (qAA (qAT fs n).f0.reverse st).1 with
  | false =>
   have hc : qBi st (qAT fs n).f0 = false := by
    cases hc : qBi st (qAT fs n).f0 with
    | false => rfl
    | true => rw [ht.1.2 hc] at hb; cases hb
   by_cases hr : (qAT fs n).f1 = 0 <;> simp [hr, hc, show ¬ ((fs.length : Int) ≤ n) by omega]
  | true =>
   have hc := ht.1.1 hb
   have hd := ht.2 hb
   by_cases hr : (qAT fs n).f1 = 0 <;> simp [hr, hc, hd, qBk, qB2, oneP, show ¬ ((fs.length : Int) ≤ n) by omega]
 ·simp [qAF, qAP, qBc, qB2, qCf, h, show (fs.length : Int) ≤ n by omega]
theorem step_after (op : Int) (hop : 1 ≤ op ∧ op ≤ 17) (ls vs : List Int) (fs : List S24) (res n : Int) (v : S48) (st : List Int) (tr : List S200) (i : Int) (hn : 0 ≤ n) :
  (qAF ls vs (fs.map sgP) res ⟨op, n, v⟩ i true st (tr.map opP)).1 = (qAP ls vs fs res op n v.f0 st tr).f0 ∧ ((qAP ls vs fs res op n v.f0 st tr).f0 = true → (qAF ls vs (fs.map sgP) res ⟨op, n, v⟩ i true st (tr.map opP)).2 = qB2 (i + 1) n (qAP ls vs fs res op n v.f0 st tr)) := by
 have hcs : op = 1 ∨ op = 2 ∨ op = 3 ∨ op = 4 ∨ op = 5 ∨ op = 6 ∨ op = 7 ∨ op = 8 ∨ op = 9 ∨ op = 10 ∨ op = 11 ∨ op = 12 ∨ op = 13 ∨ op = 14 ∨ op = 15 ∨ op = 16 ∨ op = 17 := by omega
 rcases hcs with rfl | rfl | rfl | rfl | rfl | rfl | rfl | rfl | rfl | rfl | rfl | rfl | rfl | rfl | rfl | rfl | rfl
 ·exact step_after_1 ls vs fs res n v st tr i hn
 ·exact step_after_2 ls vs fs res n v st tr i hn
 ·exact step_after_3 ls vs fs res n v st tr i hn
 ·exact step_after_4 ls vs fs res n v st tr i hn
 ·exact step_after_5 ls vs fs res n v st tr i hn
 ·exact step_after_6 ls vs fs res n v st tr i hn
 ·exact step_after_7 ls vs fs res n v st tr i hn
 ·exact step_after_8 ls vs fs res n v st tr i hn
 ·exact step_after_9 ls vs fs res n v st tr i hn
 ·exact step_after_10 ls vs fs res n v st tr i hn
 ·exact step_after_11 ls vs fs res n v st tr i hn
 ·exact step_after_12 ls vs fs res n v st tr i hn
 ·exact step_after_13 ls vs fs res n v st tr i hn
 ·exact step_after_14 ls vs fs res n v st tr i hn
 ·exact step_after_15 ls vs fs res n v st tr i hn
 ·exact step_after_16 ls vs fs res n v st tr i hn
 ·exact step_after_17 ls vs fs res n v st tr i hn
theorem qD8 {n i : Nat} {N : Int} {x : S138} {met : List Bool} {shs : List S117} : (qBS n i N x met shs).2.1.length = met.length ∧ (qBS n i N x met shs).2.2.length = shs.length := by
 by_cases hR : x.f0 = false ∨ (x.f1 = true ∧ (n : Int) ≤ i + 1) ∨ (x.f2 = true ∧ (n : Int) ≤ N)
 ·rw [qD7 hR]; exact ⟨rfl, rfl⟩
 by_cases hB : (x.f1 = true ∧ qC4 x.f3 = true) ∨ (x.f2 = true ∧ qC4 x.f4 = true)
 ·rw [roundR_3 hR hB]; exact ⟨rfl, rfl⟩
 rw [qE9 hR hB]
 cases x.f1 <;> cases x.f2
 ·rw [qE4]; exact ⟨rfl, rfl⟩
 ·rw [qD0]; split
  ·exact ⟨rfl, rfl⟩
  exact qCy
 ·rw [qD1]; split
  ·exact ⟨rfl, rfl⟩
  exact qCy
 rw [qCY]; split
 ·exact ⟨rfl, rfl⟩
 split
 ·exact ⟨rfl, rfl⟩
 exact ⟨qCy.1.trans qCy.1, qCy.2.trans qCy.2⟩
theorem nextR_lt {met dn : List Bool} {i : Nat} (h : qCO 0 met dn = some i) : i < met.length ∧ rdOf false met (i : Int) = true := by
 obtain ⟨_, h2, _⟩ := nextR_some 0 met dn i h
 rw [Nat.sub_zero] at h2
 have h3 : i < met.length := by
  by_cases e : i < met.length
  ·exact e
  rw [List.getElem?_eq_none (by omega)] at h2; cases h2
 exact ⟨h3, by unfold rdOf; rw [Int.toNat_natCast, List.getD_eq_getElem?_getD, h2]; rfl⟩
theorem loop_eq (ls vs : List Int) (fs : List S24) (res : Int) (code : List S50) (hc : ∀ x ∈ code, (1 ≤ x.f0 ∧ x.f0 ≤ 17) ∧ 0 ≤ x.f1) : ∀ (g : Nat) (met dn : List Bool) (shs : List S117), met.length = code.length → shs.length = code.length →
  qC3 ls vs (fs.map sgP) res (code.map insP) g (outP met shs) dn = ((qDl ls vs fs res code g met dn shs).1.map fun p => outP p.1 p.2, (qDl ls vs fs res code g met dn shs).2.1, (qDl ls vs fs res code g met dn shs).2.2)
 | 0, met, dn, shs, hm, hs => rfl
 | g + 1, met, dn, shs, hm, hs => by
  unfold qC3 qDl
  rw [next_eq 0 met shs dn (by omega)]
  cases hx : qCO 0 met dn with
  | none => rfl
  | some i =>
   obtain ⟨hi, hmi⟩ := nextR_lt hx
   have er : qA0 (code.map insP) (i : Int) = insP (qA3 code (i : Int)) := by
    unfold qA0 qA3
    rw [List.getD_eq_getElem?_getD, List.getD_eq_getElem?_getD, List.getElem?_map, List.getElem?_eq_getElem (by omega)]; rfl
   have hmem : qA3 code (i : Int) ∈ code := by
    unfold qA3
    rw [Int.toNat_natCast, List.getD_eq_getElem?_getD, List.getElem?_eq_getElem (by omega)]; exact List.getElem_mem _
   obtain ⟨hop, hn0⟩ := hc _ hmem
   have eo := rd_out (met := met) (shs := shs) (by omega) (i := (i : Int)) (by omega) (by omega)
   rw [hmi] at eo
   have hst := step_after (qA3 code (i : Int)).f0 hop ls vs fs res (qA3 code (i : Int)).f1 (qA3 code (i : Int)).f2 (qAM shs (i : Int)).f0 (qAM shs (i : Int)).f1 (i : Int) hn0
   obtain ⟨F, hF⟩ : ∃ F, F = qAP ls vs fs res (qA3 code (i : Int)).f0 (qA3 code (i : Int)).f1 (qA3 code (i : Int)).f2.f0 (qAM shs (i : Int)).f0 (qAM shs (i : Int)).f1 := ⟨_, rfl⟩
   have ea : (⟨(qA3 code (i : Int)).f0, (qA3 code (i : Int)).f1, (qA3 code (i : Int)).f2⟩ : S51) = insP (qA3 code (i : Int)) := rfl
   rw [ea, ← hF] at hst
   simp only
   rw [er, eo, ← hF]
   show (if (qAF ls vs (fs.map sgP) res (insP (qA3 code (i : Int))) (i : Int) true (qAM shs (i : Int)).f0 ((qAM shs (i : Int)).f1.map opP)).1 = true then (if (qBU (outP met shs) (qAF ls vs (fs.map sgP) res (insP (qA3 code (i : Int))) (i : Int) true (qAM shs (i : Int)).f0 ((qAM shs (i : Int)).f1.map opP)).2).1 = 0 then _ else _) else _) = _
   cases hf0 : F.f0 with
   | false =>
    rw [hf0] at hst
    rw [hst.1, if_neg (by decide), qD7 (Or.inl hf0), if_neg (show ¬ ((51 : Int) = 0) by decide)]
    rfl
   | true =>
    rw [hf0] at hst
    have hne := notes_eq (met := met) (shs := shs) (by omega) (n := code.length) (i := i) (N := (qA3 code (i : Int)).f1) hm.symm hn0 hf0
    rw [hst.1, if_pos rfl, hst.2 rfl, hne.1]
    by_cases hz : (qBS code.length i (qA3 code (i : Int)).f1 F met shs).1 = 0
    rotate_left
    ·rw [if_neg hz, if_neg hz, show (oneP true (qAM shs (i : Int))).f1 = (qAM shs (i : Int)).f0 from rfl, show (oneP true (qAM shs (i : Int))).f2 = (qAM shs (i : Int)).f1.map opP from rfl, hst.2 rfl, hne.1]
     rfl
    rw [if_pos hz, if_pos hz, show (oneP true (qAM shs (i : Int))).f1 = (qAM shs (i : Int)).f0 from rfl, show (oneP true (qAM shs (i : Int))).f2 = (qAM shs (i : Int)).f1.map opP from rfl, hst.2 rfl, hne.2 hz]
    exact loop_eq ls vs fs res code hc g _ _ _ (by rw [qD8.1, hm]) (by rw [qD8.2, hs])
theorem init_eq (n : Nat) : outP ((List.replicate n false).set 0 true) (List.replicate n z117) = qDk n := by
 have h := outP_set (met := List.replicate n false) (shs := List.replicate n z117) (by simp) 0 z117
 rw [List.set_replicate_self] at h
 rw [h]
 unfold qDk outP
 rw [List.zipWith_replicate]
 simp only [Nat.min_self]
 rfl
theorem found_eq (ps : List Int) (res : Int) (ls vs : List Int) (fs : List S24) (code : List S50) (hc : badS 0 (code.map insP) = none → ∀ x ∈ code, (1 ≤ x.f0 ∧ x.f0 ≤ 17) ∧ 0 ≤ x.f1) {p : Int × Int} (hp : p = if qB8 ps res ls code.length (fs.map sgP) vs = 0 then insB code else (0, qB8 ps res ls code.length (fs.map sgP) vs)) {R : FoundT}
  (hR : R = if p.2 = 0 then qDl ls vs fs res code (code.length + 1) ((List.replicate code.length false).set 0 true) (List.replicate code.length false) (List.replicate code.length z117) else (none, p.1, p.2)) :
  qAS ps res ls (code.map insP) (fs.map sgP) vs = (R.1.map fun q => outP q.1 q.2, R.2.1, R.2.2) := by
 unfold qAS
 rw [List.length_map]
 by_cases h0 : qB8 ps res ls code.length (fs.map sgP) vs = 0
 ·rw [if_pos h0] at hp ⊢
  unfold insB at hp
  cases hb : badS 0 (code.map insP) with
  | some i =>
   rw [hb] at hp
   rw [hR, hp, if_neg (show ¬ ((51 : Int) = 0) by decide)]
   rfl
  | none =>
   rw [hb] at hp
   rw [hR, hp, if_pos rfl, ← init_eq]
   exact loop_eq ls vs fs res code (hc hb) (code.length + 1) _ _ _ (by simp) (by simp)
 ·rw [if_neg h0] at hp ⊢
  rw [hR, hp, if_neg h0]
  rfl
end RV
namespace RV
theorem okI_bounds {op n t b : Int} (h : okI op n t b = true) : (1 ≤ op ∧ op ≤ 17) ∧ 0 ≤ n := by
 unfold okI at h
 split at h
 ·cases h
 split at h
 ·rw [Bool.and_eq_true, beq_iff_eq] at h; omega
 split at h
 ·cases h
 omega
theorem bounds_of {code : List S50} (h : badS 0 (code.map insP) = none) : ∀ x ∈ code, (1 ≤ x.f0 ∧ x.f0 ≤ 17) ∧ 0 ≤ x.f1 := fun x hx => by
 have h1 := (One.badS_all 0 _).1 h (insP x) (List.mem_map_of_mem hx)
 exact okI_bounds h1
theorem soundS_len {ps ls vs : List Int} {res : Int} {n : Nat} {fs : List S34} (h : qB8 ps res ls n fs vs = 0) : 0 < n ∧ n ≤ 4096 := by
 unfold qB8 at h
 split at h
 ·cases h
 split at h
 ·cases h
 omega
theorem loopR_len (ls vs : List Int) (fs : List S24) (res : Int) (code : List S50) : ∀ (g : Nat) (met dn : List Bool) (shs : List S117) (m : List Bool) (s : List S117), (qDl ls vs fs res code g met dn shs).1 = some (m, s) → m.length = met.length ∧ s.length = shs.length
 | 0, met, dn, shs, m, s, h => by cases h
 | g + 1, met, dn, shs, m, s, h => by
  unfold qDl at h
  cases hx : qCO 0 met dn with
  | none =>
   rw [hx] at h
   obtain ⟨rfl, rfl⟩ := Prod.mk.inj (Option.some.inj h)
   exact ⟨rfl, rfl⟩
  | some i =>
   rw [hx] at h
   simp only at h
   split at h
   ·obtain ⟨h1, h2⟩ := loopR_len ls vs fs res code g _ _ _ m s h
    exact ⟨h1.trans qD8.1, h2.trans qD8.2⟩
   cases h
theorem qDy {W : World} (A1 A2 A3 A4 A5 : Option Addr) (c1 c2 c3 c4 c5 : Nat) (res : Int) {ps ls vs : List Int} {fs : List S24} {code : List S50} {okF : Nat → Prop} (hP : Kd.F (Kd.int .i64) W okF A1 ps.length ps) (hL : Kd.F (Kd.int .i64) W okF A2 ls.length ls) (hC : Kd.F k50 W okF A3 code.length code) (hF : Kd.F k24 W okF A4 fs.length fs) (hV : Kd.F (Kd.int .i64) W okF A5 vs.length vs) (hc1 : ps.length ≤ c1) (hc2 : ls.length ≤ c2) (hc3 : code.length ≤ c3) (hc4 : fs.length ≤ c4) (hc5 : vs.length ≤ c5)
  (hp1 : ps.length ≤ 2000000) (hl1 : ls.length ≤ 2000000) (hv1 : vs.length ≤ 2000000) (hf1 : fs.length ≤ 2000000) (hn3 : code.length ≤ 2000000) (hfs : ∀ x ∈ fs, x.f0.length ≤ 2000000) (hu : ∀ x ∈ code, 0 ≤ x.f2.f1 ∧ x.f2.f1 < 18446744073709551616) :
  ∃ R : FoundT, qAS ps res ls (code.map insP) (fs.map sgP) vs = (R.1.map (fun q => outP q.1 q.2), R.2.1, R.2.2) ∧ (∀ m s, R.1 = some (m, s) → m.length = code.length ∧ s.length = code.length) ∧ Calls Tryz.prog 43 #[.agg #[.slice A1 ps.length c1, .int .i64 res, .slice A2 ls.length c2, .slice A3 code.length c3], .agg #[.slice A4 fs.length c4, .slice A5 vs.length c5]] W (FoPost R W) := by
 obtain ⟨p, hp⟩ := eX (if qB8 ps res ls code.length (fs.map sgP) vs = 0 then insB code else (0, qB8 ps res ls code.length (fs.map sgP) vs))
 refine ⟨_, found_eq ps res ls vs fs code bounds_of hp rfl, fun m s h => ?_, ?_⟩
 ·split at h
  ·obtain ⟨h1, h2⟩ := loopR_len ls vs fs res code _ _ _ _ m s h
   exact ⟨by rw [h1, List.length_set, List.length_replicate], by rw [h2, List.length_replicate]⟩
  ·cases h
 refine found_any A1 A2 A3 A4 A5 c1 c2 c3 c4 c5 res hP hL hC hF hV hc1 hc2 hc3 hc4 hc5 hp1 hl1 hv1 hf1 hn3 hfs p.1 p.2 ?_ ?_
 ·intro W1 hB
  exact head_any A1 A2 A3 A4 A5 c1 c2 c3 c4 c5 res (Kd.F_below hP hB) (Kd.F_below hL hB) (Kd.F_below hC hB) (Kd.F_below hF hB) (Kd.F_below hV hB) hc1 hc2 hc5 hp1 hl1 hv1 hf1 hn3 hfs hu p ((head_sound ps res ls code fs vs).trans hp.symm)
 ·intro he
  by_cases h0 : qB8 ps res ls code.length (fs.map sgP) vs = 0
  ·rw [if_pos h0] at hp
   unfold insB at hp
   cases hb : badS 0 (code.map insP) with
   | some i => rw [hb] at hp; rw [hp] at he; cases he
   | none =>
    refine ⟨(soundS_len h0).1, (soundS_len h0).2, fun x hx => ?_⟩
    have h1 := bounds_of hb x hx
    exact ⟨h1.1.1, h1.1.2, h1.2⟩
  ·rw [if_neg h0] at hp
   rw [hp] at he
   exact absurd he h0
theorem found_shapes {W : World} (A1 A2 A3 A4 A5 : Option Addr) (c1 c2 c3 c4 c5 : Nat) (res : Int) {ps ls vs : List Int} {fs : List S24} {code : List S50} {okF : Nat → Prop} (hP : Kd.F (Kd.int .i64) W okF A1 ps.length ps) (hL : Kd.F (Kd.int .i64) W okF A2 ls.length ls) (hC : Kd.F k50 W okF A3 code.length code) (hF : Kd.F k24 W okF A4 fs.length fs) (hV : Kd.F (Kd.int .i64) W okF A5 vs.length vs) (hc1 : ps.length ≤ c1) (hc2 : ls.length ≤ c2) (hc3 : code.length ≤ c3) (hc4 : fs.length ≤ c4) (hc5 : vs.length ≤ c5)
  (hp1 : ps.length ≤ 2000000) (hl1 : ls.length ≤ 2000000) (hv1 : vs.length ≤ 2000000) (hf1 : fs.length ≤ 2000000) (hn3 : code.length ≤ 2000000) (hfs : ∀ x ∈ fs, x.f0.length ≤ 2000000) (hu : ∀ x ∈ code, 0 ≤ x.f2.f1 ∧ x.f2.f1 < 18446744073709551616) :
  ∃ R : FoundT, qAS ps res ls (code.map insP) (fs.map sgP) vs = (R.1.map (fun q => outP q.1 q.2), R.2.1, R.2.2) ∧ Calls Tryz.prog 43 #[.agg #[.slice A1 ps.length c1, .int .i64 res, .slice A2 ls.length c2, .slice A3 code.length c3], .agg #[.slice A4 fs.length c4, .slice A5 vs.length c5]] W (FoPost R W) := by
 obtain ⟨R, h1, _, h2⟩ := qDy A1 A2 A3 A4 A5 c1 c2 c3 c4 c5 res hP hL hC hF hV hc1 hc2 hc3 hc4 hc5 hp1 hl1 hv1 hf1 hn3 hfs hu
 exact ⟨R, h1, h2⟩
end RV
namespace RV
theorem verifyR_any {W : World} (A1 A2 A3 A4 A5 : Option Addr) (c1 c2 c3 c4 c5 : Nat) (res : Int) {ps ls vs : List Int} {fs : List S24} {code : List S50} {okF : Nat → Prop} (hP : Kd.F (Kd.int .i64) W okF A1 ps.length ps) (hL : Kd.F (Kd.int .i64) W okF A2 ls.length ls) (hC : Kd.F k50 W okF A3 code.length code) (hF : Kd.F k24 W okF A4 fs.length fs) (hV : Kd.F (Kd.int .i64) W okF A5 vs.length vs) (hc1 : ps.length ≤ c1) (hc2 : ls.length ≤ c2) (hc3 : code.length ≤ c3) (hc4 : fs.length ≤ c4) (hc5 : vs.length ≤ c5)
  (hp1 : ps.length ≤ 2000000) (hl1 : ls.length ≤ 2000000) (hv1 : vs.length ≤ 2000000) (hf1 : fs.length ≤ 2000000) (hn3 : code.length ≤ 2000000) (hfs : ∀ x ∈ fs, x.f0.length ≤ 2000000) (hu : ∀ x ∈ code, 0 ≤ x.f2.f1 ∧ x.f2.f1 < 18446744073709551616) :
  Calls Tryz.prog 16 #[.agg #[.slice A1 ps.length c1, .int .i64 res, .slice A2 ls.length c2, .slice A3 code.length c3], .agg #[.slice A4 fs.length c4, .slice A5 vs.length c5]] W fun e w' => e = .returned (.tuple #[.int .i64 (qAS ps res ls (code.map insP) (fs.map sgP) vs).2.1, .int .i64 (qAS ps res ls (code.map insP) (fs.map sgP) vs).2.2]) ∧ Below W.heap.size W w' := by
 have hBB : Below W.heap.size W ((W.alloc (.cells #[.slice A1 ps.length c1, .int .i64 res, .slice A2 ls.length c2, .slice A3 code.length c3] 27)).alloc (.cells #[.slice A4 fs.length c4, .slice A5 vs.length c5] 30)) := ((Below.refl _ _).alloc (nl _) _).alloc (by simp) _
 obtain ⟨R, hRR, hs⟩ := found_shapes (W := (W.alloc (.cells #[.slice A1 ps.length c1, .int .i64 res, .slice A2 ls.length c2, .slice A3 code.length c3] 27)).alloc (.cells #[.slice A4 fs.length c4, .slice A5 vs.length c5] 30)) A1 A2 A3 A4 A5 c1 c2 c3 c4 c5 res (Kd.F_below hP hBB) (Kd.F_below hL hBB) (Kd.F_below hC hBB) (Kd.F_below hF hBB) (Kd.F_below hV hBB) hc1 hc2 hc3 hc4 hc5 hp1 hl1 hv1 hf1 hn3 hfs hu
 rw [hRR]
 clear hRR
 obtain ⟨q1, hq1⟩ := eL ps
 obtain ⟨q2, hq2⟩ := eL ls
 obtain ⟨q3, hq3⟩ := eL code
 obtain ⟨q4, hq4⟩ := eL fs
 obtain ⟨q5, hq5⟩ := eL vs
 rw [← hq1, ← hq2, ← hq3, ← hq4, ← hq5] at hs hBB ⊢
 have HS := am hs
 have HBB := am hBB
 clear hP hL hC hF hV hc1 hc2 hp1 hl1 hv1 hf1 hn3 hfs hu hs hBB hq1 hq2 hq3 hq4 hq5
 go_enter Tryz.func16, Tryz.ntmps16
 go_wp2_with (go_at_call 43; refine HS.out.mono ?_; rintro e w1 ⟨v1, v2, rfl, _, hb⟩; have HB1 : qAd (Below W.heap.size W w1) := ⟨HBB.out.trans (hb.mono HBB.out.size)⟩; clear hb)
 go_ret2
 exact ⟨rfl, HB1.out⟩
end RV
def u64R (x : S50) : Bool := decide (0 ≤ x.f2.f1 ∧ x.f2.f1 < 18446744073709551616)
def vfSz (ps ls : List Int) (code : List S50) (fs : List S24) (vs : List Int) : Bool := decide (ps.length ≤ 2000000) && (decide (ls.length ≤ 2000000) && (decide (code.length ≤ 2000000) && (decide (fs.length ≤ 2000000) && (decide (vs.length ≤ 2000000) && (code.all u64R && fs.all fun s => decide (s.f0.length ≤ 2000000))))))
def qAO.f (l0_0 : List Int) (a0_1 : Int) (l0_2 : List Int) (l0_3 : List (S50)) (l1_0 : List (S24)) (l1_1 : List Int) : Option (Int × Int) := if vfSz l0_0 l0_2 l0_3 l1_0 l1_1 = true then some (qAS l0_0 a0_1 l0_2 (l0_3.map RV.insP) (l1_0.map RV.sgP) l1_1).2 else none
theorem heapSigR : Kd.Heap k24 := Kd.heap_iso _ (Kd.heap_pair (Kd.heap_slice _ (Kd.heap_int _)) (Kd.heap_int _))
theorem heapInsR : Kd.Heap k50 := Kd.heap_iso _ (Kd.heap_pair (Kd.heap_int _) (Kd.heap_pair (Kd.heap_int _) (Kd.heap_iso _ (Kd.heap_pair (Kd.heap_int _) (Kd.heap_int _)))))
theorem qAO.calls (A0_0 : Option Addr) (c0_0 : Nat) (l0_0 : List Int) (a0_1 : Int) (A0_2 : Option Addr) (c0_2 : Nat) (l0_2 : List Int) (A0_3 : Option Addr) (c0_3 : Nat) (l0_3 : List (S50)) (A1_0 : Option Addr) (c1_0 : Nat) (l1_0 : List (S24)) (A1_1 : Option Addr) (c1_1 : Nat) (l1_1 : List Int) (r1 : Int) (r2 : Int) (w : World) (hr0_0 : Kd.C (Kd.int .i64) w A0_0 l0_0.length l0_0) (hc0_0 : l0_0.length ≤ c0_0) (hr0_2 : Kd.C (Kd.int .i64) w A0_2 l0_2.length l0_2) (hc0_2 : l0_2.length ≤ c0_2) (hr0_3 : Kd.C k50 w A0_3 l0_3.length l0_3) (hc0_3 : l0_3.length ≤ c0_3) (hr1_0 : Kd.C k24 w A1_0 l1_0.length l1_0) (hc1_0 : l1_0.length ≤ c1_0) (hr1_1 : Kd.C (Kd.int .i64) w A1_1 l1_1.length l1_1) (hc1_1 : l1_1.length ≤ c1_1) (h : qAO.f l0_0 a0_1 l0_2 l0_3 l1_0 l1_1 = some (r1, r2)) :
  Calls Tryz.prog 16 #[.agg #[.slice A0_0 l0_0.length c0_0, .int .i64 a0_1, .slice A0_2 l0_2.length c0_2, .slice A0_3 l0_3.length c0_3], .agg #[.slice A1_0 l1_0.length c1_0, .slice A1_1 l1_1.length c1_1]] w fun e w' => e = .returned (.tuple #[.int .i64 r1, .int .i64 r2]) ∧ Below w.heap.size w w' := by
 unfold qAO.f at h
 split at h
 ·rename_i hs
  injection h with h
  simp only [vfSz, u64R, Bool.and_eq_true, decide_eq_true_eq, List.all_eq_true] at hs
  obtain ⟨h1, h2, h3, h4, h5, h6, h7⟩ := hs
  have hv := RV.verifyR_any A0_0 A0_2 A0_3 A1_0 A1_1 c0_0 c0_2 c0_3 c1_0 c1_1 a0_1 (okF := fun _ => True) (Kd.F_mono (Kd.C_F (Kd.heap_int _) hr0_0) (fun _ _ => trivial)) (Kd.F_mono (Kd.C_F (Kd.heap_int _) hr0_2) (fun _ _ => trivial)) (Kd.F_mono (Kd.C_F heapInsR hr0_3) (fun _ _ => trivial)) (Kd.F_mono (Kd.C_F heapSigR hr1_0) (fun _ _ => trivial)) (Kd.F_mono (Kd.C_F (Kd.heap_int _) hr1_1) (fun _ _ => trivial)) hc0_0 hc0_2 hc0_3 hc1_0 hc1_1 h1 h2 h5 h4 h3 h7 h6
  rw [h] at hv
  exact hv
 ·cases h
end Q
end
end Go.Proofs.YtfddibbignedkaaGreatDoor
