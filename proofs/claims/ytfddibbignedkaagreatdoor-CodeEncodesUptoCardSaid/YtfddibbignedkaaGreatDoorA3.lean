/- Chapter 14: the words, the contracts of code.Encode, Text and of the document's. -/
import Derived.Test.YtfddibbignedkaaGreatDoorA2
import Derived.Deep.LoopGhost
import Derived.Test.YtfddibbignedkaaGreatDoorRows
import Derived.ChangeArms
import Derived.ChangeSame
import Derived.Deep.Slices
import Derived.Deep.AppendLies
import Derived.Laws.BitsAllLaws
import Derived.Lib.ConvBytes
import Derived.Lib.SmallJoins
import Derived.RangeFuncNested
import Derived.RangeFuncBound
import Derived.RangeFuncCalls
import Derived.RangeFuncLeaves
import Derived.Shelf.Abstract
import Derived.WalkKit
import Derived.OwnWalkIn
import Derived.TacticsInMore
import Derived.LoopNIn
import Derived.LoopIn
import Derived.RangeFuncBox
import Derived.Deep.RegionHeld3
set_option maxHeartbeats 8000000
set_option maxRecDepth 100000
set_option linter.unusedVariables false
set_option linter.unusedSimpArgs false
namespace Go.Proofs.YtfddibbignedkaaGreatDoor
section
namespace Q
open Go.RowKit YA YC YB
open Val Ins
def badS : Nat → List S51 → Option Nat
 | _, [] => none
 | k, x :: l => if okS x = true then badS (k + 1) l else some k
theorem badS_cons (k : Nat) (x : S51) (l : List S51) : badS k (x :: l) = if okS x = true then badS (k + 1) l else some k := rfl
def qCC : Nat → List S113 → List Bool → Option Nat
 | k, x :: xs, d :: ds => if (x.f0 && !d) = true then some k else qCC (k + 1) xs ds
 | _, _, _ => none
theorem nextS_cons (k : Nat) (x : S113) (xs : List S113) (d : Bool) (ds : List Bool) : qCC k (x :: xs) (d :: ds) = if (x.f0 && !d) = true then some k else qCC (k + 1) xs ds := rfl
def loopS (ls vs : List Int) (fs : List S34) (res : Int) (code : List S51) : Nat → List S113 → List Bool → Option (List S113) × Int × Int
 | 0, _, _ => (none, 0, 0)
 | g + 1, out, dn =>
  match qCC 0 out dn with
  | none => (some out, 0, 0)
  | some i =>
   if (qAZ ls vs fs res (qAl code i) i true (qAB out i).f1 (qAB out i).f2).1 = true then
    (if (qBV out (qAZ ls vs fs res (qAl code i) i true (qAB out i).f1 (qAB out i).f2).2).1 = 0 then loopS ls vs fs res code g (qBV out (qAZ ls vs fs res (qAl code i) i true (qAB out i).f1 (qAB out i).f2).2).2 (dn.set i true)
     else (none, i, (qBV out (qAZ ls vs fs res (qAl code i) i true (qAB out i).f1 (qAB out i).f2).2).1))
   else (none, i, 51)
def initS (n : Nat) : List S113 := (List.replicate n z113).set 0 ⟨true, [], []⟩
def qCo (ps : List Int) (res : Int) (ls : List Int) (code : List S51) (fs : List S34) (vs : List Int) : Option (List S113) × Int × Int :=
 if qC3 ps res ls code.length fs vs = 0 then
  (match badS 0 code with
   | some i => (none, i, 51)
   | none => loopS ls vs fs res code (code.length + 1) (initS code.length) (List.replicate code.length false))
 else (none, 0, qC3 ps res ls code.length fs vs)
def ShOk (x : S113) : Prop := x.f1.length ≤ 512 ∧ x.f2.length ≤ 32 ∧ ∀ y ∈ x.f2, y.f1.length ≤ 512
theorem afterS_to {ls vs : List Int} {fs : List S34} {res : Int} {x : S51} {at_ : Int} {m : Bool} {st : List Int} {tr : List S160} (h0 : 0 ≤ at_) (h1 : 0 ≤ x.f1) : ∀ w ∈ (qAZ ls vs fs res x at_ m st tr).2, 0 ≤ w.f0 := by
 intro w hw
 unfold qAZ at hw
 split at hw
 ·simp at hw; subst hw; exact h1
 split at hw
 ·simp at hw; rcases hw with rfl | rfl
  ·show 0 ≤ at_ + 1; omega
  exact h1
 split at hw
 ·simp at hw
 split at hw
 ·simp at hw
 split at hw
 ·simp at hw; rcases hw with rfl | rfl
  ·show 0 ≤ at_ + 1; omega
  exact h1
 split at hw
 ·simp at hw; subst hw; show 0 ≤ at_ + 1; omega
 simp at hw; subst hw; show 0 ≤ at_ + 1; omega
theorem afterS_len {ls vs : List Int} {fs : List S34} {res : Int} {x : S51} {at_ : Int} {m : Bool} {st : List Int} {tr : List S160} : (qAZ ls vs fs res x at_ m st tr).2.length ≤ 2 := by
 unfold qAZ
 repeat' split
 all_goals simp
theorem afterS_inner {ls vs : List Int} {fs : List S34} {res : Int} {x : S51} {at_ : Int} {m : Bool} {st : List Int} {tr : List S160} (h0 : st.length ≤ 512) (h1 : ∀ y ∈ tr, y.f1.length ≤ 512) : ∀ w ∈ (qAZ ls vs fs res x at_ m st tr).2, ∀ y ∈ w.f1.f2, y.f1.length ≤ 512 := by
 intro w hw
 unfold qAZ at hw
 split at hw
 ·simp at hw; subst hw; exact h1
 split at hw
 ·simp at hw; rcases hw with rfl | rfl <;> exact h1
 split at hw
 ·simp at hw
 split at hw
 ·simp at hw
 split at hw
 ·simp at hw; rcases hw with rfl | rfl
  ·intro y hy
   rcases List.mem_append.1 hy with h | h
   ·exact h1 y h
   simp at h; subst h; exact h0
  exact h1
 split at hw
 ·simp at hw; subst hw; exact fun y hy => h1 y ((List.dropLast_sublist _).subset hy)
 simp at hw; subst hw; exact h1
theorem qDe : ∀ (ws : List S157) (out : List S113), (∀ x ∈ out, ShOk x) → (∀ w ∈ ws, ShOk w.f1) → ∀ x ∈ (qCl out ws).2, ShOk x
 | [], out, h, _ => h
 | w :: ws, out, h, hw => by
  rw [qDd]
  have hws : ∀ v ∈ ws, ShOk v.f1 := fun v hv => hw v (List.mem_cons_of_mem _ hv)
  split
  ·split
   ·exact qDe ws out h hws
   exact h
  refine qDe ws _ (fun x hx => ?_) hws
  rcases List.mem_or_eq_of_mem_set hx with hx | hx
  ·exact h x hx
  subst hx; exact hw w (List.mem_cons_self ..)
theorem noteS_ok {ws : List S157} {out : List S113} (h : ∀ x ∈ out, ShOk x) (hw : ∀ w ∈ ws, ∀ y ∈ w.f1.f2, y.f1.length ≤ 512) : ∀ x ∈ (qBV out ws).2, ShOk x := by
 unfold qBV
 split
 ·exact h
 split
 ·exact h
 rename_i h1 h2
 refine qDe ws out h (fun w hm => ?_)
 have h3 : ¬ (decide (512 < w.f1.f1.length) || decide (32 < w.f1.f2.length)) = true := fun e => h2 (List.any_eq_true.2 ⟨w, hm, e⟩)
 simp only [Bool.or_eq_true, decide_eq_true_eq] at h3
 exact ⟨by omega, by omega, hw w hm⟩
def qDw (dn : List Bool) : Nat := (dn.filter (fun b => !b)).length
theorem undone_set : ∀ (dn : List Bool) (i : Nat), dn[i]? = some false → qDw (dn.set i true) + 1 = qDw dn
 | [], i, h => by simp at h
 | d :: ds, 0, h => by
  simp at h; subst h
  simp [qDw]
 | d :: ds, i + 1, h => by
  have h' := undone_set ds i (by simpa using h)
  cases d <;> simp [qDw] at h' ⊢ <;> omega
theorem undone_rep (n : Nat) : qDw (List.replicate n false) = n := by simp [qDw]
theorem vinfo_shape : (Tryz.prog.info? 113).map (fun i => (i.zero, i.size, i.bytes)) = some (some (.agg #[.bool false, .slice none 0 0, .slice none 0 0]), 3, 56) := by kernel_rfl
theorem vinfo_bool : (Tryz.prog.info? 4).map (fun i => (i.zero, i.size, i.bytes)) = some (some (.bool false), 1, 1) := by kernel_rfl
theorem FK_zero (W : World) : Kd.FK k113 W (fun _ => False) z113 [.bool false, .slice none 0 0, .slice none 0 0] := fun W' _ =>
 k113_mk W' z113 (Nat.zero_le 0) (Kd.C_nil _ W') (Nat.zero_le 0) (Kd.C_nil _ W')
theorem N_met {W : World} {ok : Nat → Prop} {O n cap : Nat} {out : List S113} (h : Kd.N k113 113 W 0 ok (.slice (some ⟨O, 0, none⟩) n cap) out) (i : Int) (h0 : 0 ≤ i) (h1 : i < n) :
  Kd.N k113 113 (W.setCell ⟨O, i.toNat * 3, none⟩ (.bool true)) 0 ok (.slice (some ⟨O, 0, none⟩) n cap) (out.set i.toNat ⟨true, (qAB out i).f1, (qAB out i).f2⟩) := by
 obtain ⟨c, hcl, hK, hcc, _⟩ := Kd.N_elem h z113 i h0 h1
 obtain ⟨D1, d1, D2, d2, hcs, hd1, _, hd2, _⟩ := qBI (Kd.FK_now hK)
 subst hcs
 refine (Kd.N_seg h i h0 h1 (seg := [.bool true]) (j := 0) (okp := fun k => ok k ∧ k ≠ O) (x' := ⟨true, (qAB out i).f1, (qAB out i).f2⟩) hcl hcc (show (1 : Nat) ≤ 3 by decide) (fun W' hW => ?_) (fun k hk => hk)).1
 obtain ⟨D1', d1', D2', d2', hcs', e1, hC1, e2, hC2⟩ := qBI (hK W' hW)
 simp only [List.cons.injEq, Value.slice.injEq] at hcs'
 obtain ⟨_, ⟨g1, _, g2⟩, ⟨g3, _, g4⟩, _⟩ := hcs'
 subst g1 g2 g3 g4
 exact k113_mk W' ⟨true, (qAB out i).f1, (qAB out i).f2⟩ e1 hC1 e2 hC2
def BoxS (b : Nat) (fv pv : Array Value) (w : World) : Prop := w.heap[b]? = some (.cells fv 37 (0, 0)) ∧ w.heap[b + 1]? = some (.cells pv 41 (0, 0))
theorem BoxS.below {b : Nat} {fv pv : Array Value} {w w' : World} (h : BoxS b fv pv w) (hb : Below w.heap.size w w') : BoxS b fv pv w' := ⟨qAs h.1 hb, qAs h.2 hb⟩
theorem BoxS.fr {b : Nat} {fv pv : Array Value} {w w' : World} {S : Nat → Prop} (h : BoxS b fv pv w) (hf : Fr w w' S) (h0 : ¬ S b) (h1 : ¬ S (b + 1)) : BoxS b fv pv w' := ⟨hf.blk h.1 h0, hf.blk h.2 h1⟩
theorem BoxS.lt {b : Nat} {fv pv : Array Value} {w : World} (h : BoxS b fv pv w) : b + 1 < w.heap.size := qBf h.2
theorem okS_op {x : S51} (h : okS x = true) : 1 ≤ x.f0 ∧ x.f0 ≤ 17 ∧ 0 ≤ x.f1 := by
 unfold okS okI at h
 split at h
 ·cases h
 rename_i h1
 split at h
 ·simp only [Bool.and_eq_true, beq_iff_eq] at h
  omega
 split at h
 ·cases h
 rename_i h2
 have h3 := Decidable.not_not.1 h2
 omega
theorem loopS_at {ls vs : List Int} {fs : List S34} {res : Int} {code : List S51} {g : Nat} {out : List S113} {dn : List Bool} {i : Nat} {aok : Bool} {aw : List S157} (h : qCC 0 out dn = some i) (ha : qAZ ls vs fs res (qAl code i) i true (qAB out i).f1 (qAB out i).f2 = (aok, aw)) :
  loopS ls vs fs res code (g + 1) out dn = if aok = true then (if (qBV out aw).1 = 0 then loopS ls vs fs res code g (qBV out aw).2 (dn.set i true) else (none, i, (qBV out aw).1)) else (none, i, 51) := by
 conv => lhs; unfold loopS
 rw [h]
 simp only [ha]
theorem soundS_zero {ps : List Int} {res : Int} {ls : List Int} {n3 : Nat} {fs : List S34} {vs : List Int} (h : 0 = qC3 ps res ls n3 fs vs) : 0 < n3 ∧ n3 ≤ 4096 := by
 unfold qC3 at h
 split at h
 ·cases h
 split at h
 ·cases h
 rename_i h1 h2
 constructor
 ·have : n3 ≠ 0 := fun e => h2 (.inl e)
  omega
 have : ¬ 4096 < n3 := fun e => h1 (.inr (.inr e))
 omega
def ShPost (R : Option (List S113) × Int × Int) (W : World) (e : Ending) (w' : World) : Prop :=
 ∃ v, e = .returned (.tuple #[v, .int .i64 R.2.1, .int .i64 R.2.2]) ∧ (∀ out, R.1 = some out → Kd.N k113 113 w' 0 (fun q => W.heap.size ≤ q) v out) ∧ (R.1 = none → v = .slice none 0 0) ∧ Below W.heap.size W w'
theorem shapes_any {W : World} (A1 A2 A3 A4 A5 : Option Addr) (c1 c2 c3 c4 c5 : Nat) (res : Int) {ps ls vs : List Int} {fs : List S34} {code : List S51} {okF : Nat → Prop} (hP : Kd.F (Kd.int .i64) W okF A1 ps.length ps) (hL : Kd.F (Kd.int .i64) W okF A2 ls.length ls) (hC : Kd.F k51 W okF A3 code.length code) (hF : Kd.F k34 W okF A4 fs.length fs) (hV : Kd.F (Kd.int .i64) W okF A5 vs.length vs) (hc1 : ps.length ≤ c1) (hc2 : ls.length ≤ c2)
  (hp1 : ps.length ≤ 2000000) (hl1 : ls.length ≤ 2000000) (hv1 : vs.length ≤ 2000000) (hf1 : fs.length ≤ 2000000) (hn3 : code.length ≤ 2000000) (hfs : ∀ x ∈ fs, x.f0.length ≤ 2000000) (hu : ∀ x ∈ code, u64S x = true) :
  Calls Tryz.prog 41 #[.agg #[.slice A1 ps.length c1, .int .i64 res, .slice A2 ls.length c2, .slice A3 code.length c3], .agg #[.slice A4 fs.length c4, .slice A5 vs.length c5]] W (ShPost (qCo ps res ls code fs vs) W) := by
 obtain ⟨RR, hRR⟩ : ∃ RR, RR = qCo ps res ls code fs vs := ⟨_, rfl⟩
 rw [← hRR]
 unfold qCo at hRR
 have hsd := fun W' (hW' : Below W.heap.size W W') => sound_any (W := W') A1 A2 A3 A4 A5 c1 c2 code.length c3 c4 c5 res (Kd.F_below hP hW') (Kd.F_below hL hW') (Kd.F_below hF hW') (Kd.F_below hV hW') hc1 hc2 hp1 hl1 hv1 hf1 hn3 hfs
 obtain ⟨se, hse⟩ : ∃ se, se = qC3 ps res ls code.length fs vs := ⟨_, rfl⟩
 rw [← hse] at hsd hRR
 obtain ⟨n, hn⟩ : ∃ q, q = code.length := ⟨_, rfl⟩
 obtain ⟨p1, hpp⟩ : ∃ q, q = ps.length := ⟨_, rfl⟩
 rw [← hn] at hsd hC hn3 hse
 rw [← hpp] at hsd
 have HL := am (Kd.F_bound hL)
 have HC := am (Kd.F_bound hC)
 have HF := am (Kd.F_bound hF)
 have HV := am (Kd.F_bound hV)
 have HFS := am hfs
 have HU := am hu
 have HN := am hn
 have HSE := am hse
 have HSD := am hsd
 have HR := am hRR
 rw [← hn, ← hpp]
 have HBB := am (((Below.refl W.heap.size W).alloc (Nat.le_refl _) (.cells #[.slice A1 p1 c1, .int .i64 res, .slice A2 ls.length c2, .slice A3 n c3] 37)).alloc (by simp) (.cells #[.slice A4 fs.length c4, .slice A5 vs.length c5] 41))
 clear hP hL hC hF hV hfs hu hse hsd hRR hc1 hc2 hpp hn
 obtain ⟨W0, hW0⟩ : ∃ W0, W0 = (W.alloc (.cells #[.slice A1 p1 c1, .int .i64 res, .slice A2 ls.length c2, .slice A3 n c3] 37)).alloc (.cells #[.slice A4 fs.length c4, .slice A5 vs.length c5] 41) := ⟨_, rfl⟩
 have b0 : W0.heap[W.heap.size]? = some (.cells #[.slice A1 p1 c1, .int .i64 res, .slice A2 ls.length c2, .slice A3 n c3] 37 (0, 0)) := by rw [hW0]; exact qAs (qAF W _) (qAb (Below.refl _ _) _)
 have b1 : W0.heap[W.heap.size + 1]? = some (.cells #[.slice A4 fs.length c4, .slice A5 vs.length c5] 41 (0, 0)) := by rw [hW0]; simpa using qAF (W.alloc (.cells #[.slice A1 p1 c1, .int .i64 res, .slice A2 ls.length c2, .slice A3 n c3] 37)) _
 have HW0 := am hW0
 have HB0 : qAi (Below W.heap.size W W0) := ⟨hW0 ▸ HBB.out⟩
 clear hW0
 obtain ⟨l1, hll⟩ : ∃ q, q = ls.length := ⟨_, rfl⟩
 obtain ⟨f1, hff⟩ : ∃ q, q = fs.length := ⟨_, rfl⟩
 obtain ⟨v1, hvv⟩ : ∃ q, q = vs.length := ⟨_, rfl⟩
 rw [← hll] at HW0 b0 hl1 HSD HBB ⊢
 rw [← hff] at HW0 b1 hf1 HSD HBB ⊢
 rw [← hvv] at HW0 b1 hv1 HSD HBB ⊢
 have HLL := am hll
 have HFF := am hff
 have HVV := am hvv
 clear hll hff hvv
 by_cases hse0 : se = 0
 case neg =>
  have hq : (se != 0) = true := bne_iff_ne.mpr hse0
  have HRE : qAi (RR = (none, 0, se)) := ⟨by rw [HR.out, if_neg hse0]⟩
  rw [HRE.out]
  go_enter Tryz.func41, Tryz.ntmps41
  go_wp2
  go_step3
  go_wp2_with (go_at_call 62; refine (HSD.out _ HBB.out).mono ?_; rintro e w1 ⟨rfl, hb1⟩; have HB1 : qAi (Below W.heap.size W w1) := ⟨HBB.out.trans (hb1.mono HBB.out.size)⟩; clear hb1)
  try rw [Exit.noGoto_ret]
  refine bodyPost_ret (results_tmp3 rfl _ _ _) rfl ?_
  refine ⟨_, rfl, ?_, ?_, HB1.out⟩
  ·intro out h; cases h
  intro _; rfl
 subst hse0
 go_enter Tryz.func41, Tryz.ntmps41
 go_wp2
 go_step3
 go_wp2_with (go_at_call 62; rw [← HW0.out]; refine (HSD.out _ HB0.out).mono ?_; rintro e w1 ⟨rfl, hb1⟩; have d0 := qAs b0 hb1; have d1 := qAs b1 hb1; have k3 := (qAc d0 3).trans rfl; have HB1 : qAi (Below W.heap.size W w1) := ⟨HB0.out.trans (hb1.mono HB0.out.size)⟩; clear hb1)
 have hrA := HR.out
 rw [if_pos (by trivial)] at hrA
 have HRA := am hrA
 clear hrA HR
 have HX1 : qAi (BoxS W.heap.size #[.slice A1 p1 c1, .int .i64 res, .slice A2 l1 c2, .slice A3 n c3] #[.slice A4 f1 c4, .slice A5 v1 c5] w1) := ⟨⟨d0, d1⟩⟩
 clear k3 d0 d1 b0 b1
 go_loopg [8, 9, 25] n (fun gg _ _ s25 wr => ∃ kk : Nat, kk ≤ n ∧ n - kk ≤ gg ∧ s25 = .int .i64 kk ∧ qAi (badS kk (code.drop kk) = badS 0 code) ∧ qAi (∀ (j : Nat) x, j < kk → code[j]? = some x → okS x = true) ∧ qAi (Below W.heap.size W wr) ∧ qAi (BoxS W.heap.size #[.slice A1 p1 c1, .int .i64 res, .slice A2 l1 c2, .slice A3 n c3] #[.slice A4 f1 c4, .slice A5 v1 c5] wr))
 case atStart => exact ⟨0, Nat.zero_le _, by omega, rfl, ⟨rfl⟩, ⟨fun j x hj => absurd hj (Nat.not_lt_zero _)⟩, HB1, HX1⟩
 case round =>
  obtain ⟨kk, hkk, hg, rfl, HBD, HA, HB, HX⟩ := hrel
  by_cases hlt : kk < n
  ·have hltz : (kk : Int) < (n : Int) := by omega
   have h0 : (0 : Int) ≤ (kk : Int) := by omega
   obtain ⟨ad, ea, k0, k1, k2, k3⟩ := qBn (Kd.F_now HC.out) (kk : Int) h0 hltz
   subst ea
   rw [Int.toNat_natCast] at k0 k1 k2 k3
   have hx : code[kk]? = some (qAl code (kk : Int)) := qBW code z51 kk (by have := HN.out; omega)
   obtain ⟨x, hxe⟩ : ∃ x, x = qAl code (kk : Int) := ⟨_, rfl⟩
   rw [← hxe] at k0 k1 k2 k3 hx
   have hdr : code.drop kk = x :: code.drop (kk + 1) := by
    rw [List.drop_eq_getElem_cons (by have := HN.out; omega)]
    rw [List.getElem?_eq_getElem (by have := HN.out; omega)] at hx
    injection hx with hx
    rw [hx]
   have hbd := HBD.out
   rw [hdr] at hbd
   have hri := qBY x.f0 x.f1 x.f2.f0 x.f2.f1 (u64S_U (HU.out x (List.mem_of_getElem? hx)))
   unfold insV at hri
   replace k0 := (HB.out.cell (World.block_lt_of_cell? W _ k0)).trans k0
   replace k1 := (HB.out.cell (World.block_lt_of_cell? W _ k1)).trans k1
   replace k2 := (HB.out.cell (World.block_lt_of_cell? W _ k2)).trans k2
   replace k3 := (HB.out.cell (World.block_lt_of_cell? W _ k3)).trans k3
   obtain ⟨rb, hrb⟩ : ∃ q, q = okI x.f0 x.f1 x.f2.f0 x.f2.f1 := ⟨_, rfl⟩
   have hrb2 : okS x = rb := hrb.symm
   rw [← hrb] at hri
   obtain ⟨q0, hq0⟩ : ∃ q, q = x.f0 := ⟨_, rfl⟩
   obtain ⟨q1, hq1⟩ : ∃ q, q = x.f1 := ⟨_, rfl⟩
   obtain ⟨q2, hq2⟩ : ∃ q, q = x.f2.f0 := ⟨_, rfl⟩
   obtain ⟨q3, hq3⟩ : ∃ q, q = x.f2.f1 := ⟨_, rfl⟩
   rw [← hq0] at k0 hri
   rw [← hq1] at k1 hri
   rw [← hq2] at k2 hri
   rw [← hq3] at k3 hri
   have HRI := am hri
   have HXX := am hx
   have HRB := am hrb2
   have HBD2 := am hbd
   clear hx hxe hdr hbd hri hrb hrb2 hq0 hq1 hq2 hq3
   cases rb with
   | false =>
    have HRE : qAi (RR = (none, (kk : Int), 51)) := ⟨by
      have h2 : badS 0 code = some kk := by
        have := HBD2.out
        rw [badS_cons, if_neg (by rw [HRB.out]; simp)] at this
        exact this.symm
      rw [HRA.out, h2]⟩
    rw [HRE.out]
    go_wp2_with (go_at_call 18; refine (HRI.out _).mono ?_; rintro e w2 ⟨rfl, hb2⟩; have HB2 : qAi (Below W.heap.size W w2) := ⟨(HB.out.alloc HB.out.size _).trans (hb2.mono (Nat.le_trans HB.out.size (by simp)))⟩; clear hb2)
    try rw [Exit.noGoto_ret]
    refine bodyPost_ret (results_tmp3 rfl _ _ _) rfl ?_
    refine ⟨_, rfl, ?_, ?_, HB2.out⟩
    ·intro out h; cases h
    intro _; rfl
   | true =>
    go_wp2_with (go_at_call 18; refine (HRI.out _).mono ?_; rintro e w2 ⟨rfl, hb2⟩; have HB2 : qAi (Below wr.heap.size wr w2) := ⟨(qAb (Below.refl _ _) _).trans (hb2.mono (by simp))⟩; clear hb2)
    go_roundg (n - (kk + 1))
    case measure => omega
    case rel =>
     refine ⟨kk + 1, by omega, by omega, by go_num, ⟨?_⟩, ⟨fun j u hj hu => ?_⟩, ⟨HB.out.trans (HB2.out.mono HB.out.size)⟩, ⟨HX.out.below HB2.out⟩⟩
     ·have := HBD2.out
      rw [badS_cons, if_pos HRB.out] at this
      exact this
     by_cases e : j = kk
     rotate_left
     ·exact HA.out j u (by omega) hu
     subst e
     rw [HXX.out] at hu
     injection hu with hu; subst hu
     exact HRB.out
  have e0 : n = kk := by omega
  subst e0
  have hnot : ¬ (n : Int) < (n : Int) := by omega
  have HALL : qAi (∀ (j : Nat) x, code[j]? = some x → okS x = true) := ⟨fun j x hx => HA.out j x (by have := (List.getElem?_eq_some_iff.1 hx).1; have := HN.out; omega) hx⟩
  have HRL : qAi (RR = loopS ls vs fs res code (n + 1) (initS n) (List.replicate n false)) := ⟨by
    have h1 := HBD.out
    rw [List.drop_of_length_le (by have := HN.out; omega)] at h1
    rw [HRA.out, ← h1, ← HN.out]
    rfl⟩
  obtain ⟨wA, hwA⟩ : ∃ wA, wA = wr := ⟨_, rfl⟩
  rw [← hwA] at HB HX ⊢
  have hnp := soundS_zero HSE.out
  clear hwA HBD HA HRA hg hkk HB1 HX1
  have k3 := (qAc HX.out.1 3).trans rfl
  go_wp2_with (first
    | (at_make; refine Kd.N_make k113 (w0 := wA) 0 113 rfl (N' := 38) rfl 87 _ _ rfl (n : Int) rfl rfl Tryz.underlying87 _ 56 vinfo_shape rfl (by decide) (by decide) z113 (ok := fun q => W.heap.size ≤ q) (FK_zero _) (fun _ h => h.elim) HB.out.size (by omega) (by omega) (Below.refl _ _) (Nat.zero_le _) ?_; intro vO w2 hNO _ hg2 hvO; rw [Int.toNat_natCast] at hNO; obtain ⟨O, capO, rfl, _, hO2, _⟩ := Kd.N_form hNO (by simpa using hnp.1); rw [List.length_replicate] at hNO; have hb2 : Below wA.heap.size wA w2 := (Below.refl _ _).grown hg2 (Nat.le_refl _) (by simp); have HX2 := am (HX.out.below hb2); have k3' := (qAc HX2.out.1 3).trans rfl; have HB2 : qAi (Below W.heap.size W w2) := ⟨HB.out.trans (hb2.mono HB.out.size)⟩; have HO1 : qAi (wA.heap.size ≤ O) := ⟨by (obtain ⟨b, hb, hl⟩ := hvO; simp [Value.ownBlock] at hb; omega)⟩; have HNO := am hNO; clear hNO hg2 hvO hb2)
    | (at_make; refine Kd.R_make Kd.bool (w0 := w2) w2.heap.size 4 rfl (N := 42) rfl 91 _ _ rfl (n : Int) rfl rfl Tryz.underlying91 _ 1 vinfo_bool rfl (by decide) (by decide) false (ok := fun q => w2.heap.size ≤ q) (okp := fun _ => False) rfl (fun _ h => h.elim) (Nat.le_refl _) (by omega) (by omega) (Below.refl _ _) (Nat.le_refl _) ?_; intro vD w3 hRD _ hg3 _; rw [Int.toNat_natCast] at hRD; obtain ⟨D, capD, rfl, hD1, hD2, _⟩ := Kd.R_form hRD (by simpa using hnp.1); rw [List.length_replicate] at hRD; have hb3 : Below w2.heap.size w2 w3 := (Below.refl _ _).grown hg3 (Nat.le_refl _) (by simp); have HX3 := am (HX2.out.below hb3); have HB3 : qAi (Below W.heap.size W w3) := ⟨HB2.out.trans (hb3.mono HB2.out.size)⟩; have hN3 := Kd.N_mono (Kd.N_below (Kd.N_bound HNO.out) hb3) (fun q hq => show W.heap.size ≤ q ∧ q ≠ D from ⟨hq.1, fun e => by (have := hq.2; omega)⟩); obtain ⟨_, _, _, _, s0, _, _, _, _, _, sf⟩ := shape_N hN3 0 (Int.le_refl 0) (by omega); have s0' : w3.cell? ⟨O, 0, none⟩ = some (.bool (qAB (List.replicate n z113) 0).f0) := s0; have s0f : w3.frozen? ⟨O, 0, none⟩ = false := sf 0; have HN4 := am (N_met hN3 0 (Int.le_refl 0) (by omega)); clear s0; have HRD := am hRD; have HN3 := am hN3; have hOD : O ≠ D := (by omega); clear hRD hg3 hb3 hN3 sf))
  have hrz : qAB (List.replicate n z113) 0 = z113 := by
   unfold qAB
   rw [List.getD_eq_getElem?_getD]
   have : (List.replicate n z113)[(0 : Int).toNat]? = some z113 := by
    show (List.replicate n z113)[0]? = _
    rw [List.getElem?_replicate, if_pos hnp.1]
   rw [this]; rfl
  have hn4 := HN4.out
  rw [hrz] at hn4
  have HN5 : qAi (Kd.N k113 113 (w3.setCell ⟨O, 0, none⟩ (.bool true)) 0 (fun q => W.heap.size ≤ q ∧ q ≠ D) (.slice (some ⟨O, 0, none⟩) n capO) (initS n)) := ⟨hn4⟩
  have hOl : O < w3.heap.size := World.block_lt_of_cell? _ _ s0'
  have HB5 : qAi (Below W.heap.size W (w3.setCell ⟨O, 0, none⟩ (.bool true))) := ⟨HB3.out.setCell (show W.heap.size ≤ O from Nat.le_trans HB.out.size HO1.out) _⟩
  have hXO : W.heap.size + 1 < O := Nat.lt_of_lt_of_le HX.out.lt HO1.out
  have HX5 : qAi (BoxS W.heap.size #[.slice A1 p1 c1, .int .i64 res, .slice A2 l1 c2, .slice A3 n c3] #[.slice A4 f1 c4, .slice A5 v1 c5] (w3.setCell ⟨O, 0, none⟩ (.bool true))) := ⟨⟨(Below.heap_setCell _ _ _ _ (show W.heap.size ≠ O by omega)).trans HX3.out.1, (Below.heap_setCell _ _ _ _ (show W.heap.size + 1 ≠ O by omega)).trans HX3.out.2⟩⟩
  have HRD5 : qAi (Kd.R Kd.bool 4 (w3.setCell ⟨O, 0, none⟩ (.bool true)) 0 (fun q => q = D) (.slice (some ⟨D, 0, none⟩) n capD) (List.replicate n false)) := ⟨Kd.R_far (p := ⟨O, 0, none⟩) (Kd.R_mono (Kd.R_tight rfl (Kd.R_lower HRD.out (Nat.zero_le _))) (fun k hk => by simpa [Value.ownBlock] using hk)) (fun k hk => by rw [hk]; exact hOD.symm) _⟩
  have hOW : W.heap.size ≤ O := Nat.le_trans HB.out.size HO1.out
  have hDW : O < D := by omega
  obtain ⟨w5, hw5⟩ : ∃ w5, w5 = w3.setCell ⟨O, 0, none⟩ (.bool true) := ⟨_, rfl⟩
  rw [← hw5] at HN5 HB5 HX5 HRD5 ⊢
  clear hw5 hrz hn4 HN4 HN3 HRD HX3 HB3 HX2 HB2 HNO k3 k3' s0' s0f hOl hD1 hD2 HX HB hO2
  go_step3
  go_wp2_with fail
  have HST : qAi (loopS ls vs fs res code (n + 1) (initS n) (List.replicate n false) = RR) := ⟨HRL.out.symm⟩
  have HOK0 : qAi (∀ x ∈ initS n, ShOk x) := ⟨fun x hx => by
    unfold initS at hx
    rcases List.mem_or_eq_of_mem_set hx with h | h
    · rw [List.mem_replicate] at h
      rw [h.2]
      exact ⟨Nat.zero_le _, Nat.zero_le _, fun y hy => by cases hy⟩
    · rw [h]
      exact ⟨Nat.zero_le _, Nat.zero_le _, fun y hy => by cases hy⟩⟩
  go_loopg [12, 13, 14, 15] (n + 1) (fun gg _ _ _ _ wr => ∃ (okk : List S113) (dnk : List Bool), qDw dnk < gg ∧ qAi (loopS ls vs fs res code gg okk dnk = RR) ∧ qAi (∀ x ∈ okk, ShOk x) ∧ qAi (Kd.N k113 113 wr 0 (fun q => W.heap.size ≤ q ∧ q ≠ D) (.slice (some ⟨O, 0, none⟩) n capO) okk) ∧ qAi (Kd.R Kd.bool 4 wr 0 (fun q => q = D) (.slice (some ⟨D, 0, none⟩) n capD) dnk) ∧ qAi (Below W.heap.size W wr) ∧ qAi (BoxS W.heap.size #[.slice A1 p1 c1, .int .i64 res, .slice A2 l1 c2, .slice A3 n c3] #[.slice A4 f1 c4, .slice A5 v1 c5] wr))
  case atStart => exact ⟨initS n, List.replicate n false, by rw [undone_rep]; omega, HST, HOK0, HN5, HRD5, HB5, HX5⟩
  case round =>
   obtain ⟨okk, dnk, hgu, HL1, HOK, HNO, HRD, HB, HX⟩ := hrel
   obtain ⟨g, rfl⟩ : ∃ g, gk = g + 1 := ⟨gk - 1, by omega⟩
   obtain ⟨wo, hwo⟩ : ∃ wo, wo = wr := ⟨_, rfl⟩
   rw [← hwo] at HNO HRD HB HX ⊢
   clear hwo HN5 HRD5 HB5 HX5 HST HOK0
   have hol : okk.length = n := (Kd.N_reads' HNO.out).1.symm
   have hdl : dnk.length = n := (Kd.R_reads' HRD.out).1.symm
   have HOL := am hol
   have HDL := am hdl
   clear hol hdl
   go_wp2_with fail
   go_loopg [12, 48] n (fun gg _ s48 wy => ∃ kk : Nat, kk ≤ n ∧ n - kk ≤ gg ∧ s48 = .int .i64 kk ∧ qAi (qCC kk (okk.drop kk) (dnk.drop kk) = qCC 0 okk dnk) ∧ wo = wy)
   case atStart => exact ⟨0, Nat.zero_le _, by omega, rfl, ⟨rfl⟩, rfl⟩
   case round =>
    obtain ⟨kk, hkk, hg, rfl, HNX, rfl⟩ := hrel
    by_cases hlt : kk < n
    rotate_left
    ·have e0 : n = kk := by omega
     subst e0
     have hnot : ¬ (n : Int) < (n : Int) := by omega
     have HRE : qAi (RR = (some okk, 0, 0)) := ⟨by
       have h1 := HNX.out
       rw [List.drop_of_length_le (by have := HOL.out; omega)] at h1
       have h2 : qCC 0 okk dnk = none := by rw [← h1]; rfl
       rw [← HL1.out]
       unfold loopS
       rw [h2]⟩
     go_wp2_with fail
     try rw [Exit.noGoto_ret]
     refine bodyPost_ret (results_tmp3 rfl _ _ _) rfl ?_
     rw [HRE.out]
     refine ⟨_, rfl, ?_, ?_, HB.out⟩
     ·intro out h
      injection h with h
      subst h
      exact Kd.N_mono HNO.out (fun q hq => hq.1)
     intro h; cases h
    have hltz : (kk : Int) < (n : Int) := by omega
    have h0 : (0 : Int) ≤ (kk : Int) := by omega
    obtain ⟨E1, e1, E2, e2, y0, y1, y2, ycl, Y1, Y2, yfr⟩ := shape_N HNO.out (kk : Int) h0 hltz
    obtain ⟨x0, x0f⟩ := Kd.R_celln (α := Bool) false HRD.out (kk : Int) h0 hltz
    rw [Int.toNat_natCast] at y0 y1 y2 x0 x0f yfr
    have hox : okk[kk]? = some (qAB okk (kk : Int)) := qBW okk z113 kk (by have := HOL.out; omega)
    have hdx : dnk[kk]? = some (rdOf false dnk (kk : Int)) := qBW dnk false kk (by have := HDL.out; omega)
    obtain ⟨x, hxe⟩ : ∃ x, x = qAB okk (kk : Int) := ⟨_, rfl⟩
    obtain ⟨d, hde⟩ : ∃ d, d = rdOf false dnk (kk : Int) := ⟨_, rfl⟩
    have hxr := hxe
    rw [← hxe] at y0 y1 y2 ycl Y1 Y2 hox
    rw [← hde] at x0 hdx
    have hnx := HNX.out
    rw [List.drop_eq_getElem_cons (show kk < okk.length by have := HOL.out; omega), List.drop_eq_getElem_cons (show kk < dnk.length by have := HDL.out; omega), nextS_cons] at hnx
    rw [List.getElem?_eq_getElem (by have := HOL.out; omega)] at hox
    rw [List.getElem?_eq_getElem (by have := HDL.out; omega)] at hdx
    injection hox with hox
    injection hdx with hdx
    rw [hox, hdx] at hnx
    have HXR := am hxr
    have HDX : qAi (dnk[kk]? = some d) := ⟨by rw [List.getElem?_eq_getElem (by have := HDL.out; omega), hdx]⟩
    have HXM : qAi (x ∈ okk) := ⟨by rw [← hox]; exact List.getElem_mem _⟩
    have x0' : wo.cell? ⟨D, kk, none⟩ = some (.bool d) := x0
    clear x0 hox hdx hxe hde hxr
    obtain ⟨xm, hxm⟩ : ∃ q, q = x.f0 := ⟨_, rfl⟩
    rw [← hxm] at y0 hnx
    have HXMM := am hxm
    clear hxm
    cases xm with
    | false =>
     have HN2 : qAi (qCC (kk + 1) (okk.drop (kk + 1)) (dnk.drop (kk + 1)) = qCC 0 okk dnk) := ⟨by simpa using hnx⟩
     clear hnx
     go_wp2_with fail
     go_roundg (n - (kk + 1))
     case measure => omega
     case rel => exact ⟨kk + 1, by omega, by omega, by go_num, HN2, rfl⟩
    | true =>
     cases d with
     | true =>
      have HN2 : qAi (qCC (kk + 1) (okk.drop (kk + 1)) (dnk.drop (kk + 1)) = qCC 0 okk dnk) := ⟨by simpa using hnx⟩
      clear hnx
      go_wp2_with fail
      go_roundg (n - (kk + 1))
      case measure => omega
      case rel => exact ⟨kk + 1, by omega, by omega, by go_num, HN2, rfl⟩
     | false =>
      have HN2 : qAi (qCC 0 okk dnk = some kk) := ⟨by simpa using hnx.symm⟩
      clear hnx
      go_wp2_with fail
      have hwD : (wo.setCell ⟨D, kk, none⟩ (.bool true)) = (wo.setCell ⟨D, kk, none⟩ (.bool true)) := rfl
      have hDn : O ≠ D := Nat.ne_of_lt hDW
      have hszD : ((wo.setCell ⟨D, kk, none⟩ (.bool true))).heap.size = wo.heap.size := by simp [World.setCell]
      have HND := am (Kd.N_bound (Kd.N_far (p := ⟨D, kk, none⟩) HNO.out (fun k hk => hk.2) (.bool true)))
      have hRD2 := (Kd.R_putg (α := Bool) HRD.out (kk : Int) true).1
      rw [Int.toNat_natCast] at hRD2
      have HRDD := am (show Kd.R Kd.bool 4 (wo.setCell ⟨D, kk, none⟩ (.bool true)) 0 (fun q => q = D) (.slice (some ⟨D, 0, none⟩) n capD) (dnk.set kk true) from hRD2)
      have hWD : W.heap.size ≤ D := Nat.le_trans hOW (Nat.le_of_lt hDW)
      have HBD : qAi (Below W.heap.size W (wo.setCell ⟨D, kk, none⟩ (.bool true))) := ⟨HB.out.setCell (show W.heap.size ≤ D from hWD) _⟩
      have hXD : W.heap.size + 1 < D := Nat.lt_trans hXO hDW
      have HXD : qAi (BoxS W.heap.size #[.slice A1 p1 c1, .int .i64 res, .slice A2 l1 c2, .slice A3 n c3] #[.slice A4 f1 c4, .slice A5 v1 c5] (wo.setCell ⟨D, kk, none⟩ (.bool true))) := ⟨⟨(Below.heap_setCell _ _ _ _ (show W.heap.size ≠ D by omega)).trans HX.out.1, (Below.heap_setCell _ _ _ _ (show W.heap.size + 1 ≠ D by omega)).trans HX.out.2⟩⟩
      have t0 := (qAc HXD.out.1 0).trans rfl
      have t1 := (qAc HXD.out.1 1).trans rfl
      have t2 := (qAc HXD.out.1 2).trans rfl
      have t3 := (qAc HXD.out.1 3).trans rfl
      have t4 := (qAc HXD.out.2 0).trans rfl
      have t5 := (qAc HXD.out.2 1).trans rfl
      have t6 := qA4 y0 ⟨D, kk, none⟩ (.bool true) hDn
      have t7 := qA4 y1 ⟨D, kk, none⟩ (.bool true) hDn
      have t8 := qA4 y2 ⟨D, kk, none⟩ (.bool true) hDn
      have Z1 := Kd.F_bound (Kd.F_far (p := ⟨D, kk, none⟩) Y1 (fun k hk => hk.1.2) (.bool true))
      have Z2 := Kd.F_bound (Kd.F_far (p := ⟨D, kk, none⟩) Y2 (fun k hk => hk.1.2) (.bool true))
      have hsh := HOK.out x HXM.out
      have HCP : qAi (∀ W', Below ((wo.setCell ⟨D, kk, none⟩ (.bool true))).heap.size (wo.setCell ⟨D, kk, none⟩ (.bool true)) W' → Calls Tryz.prog 64 #[.agg #[.bool true, .slice E1 x.f1.length e1, .slice E2 x.f2.length e2]] W' (qCV true x.f1 x.f2 (fun q => ((W.heap.size ≤ q ∧ q ≠ D) ∧ q ≠ O) ∧ q < ((wo.setCell ⟨D, kk, none⟩ (.bool true))).heap.size) W')) :=
       ⟨fun W' hW' => qC8 true E1 e1 x.f1 E2 x.f2.length e2 x.f2 _ _ W' (Kd.F_below Z1 hW') (Kd.F_below Z2 hW') (by have := hsh.1; omega) (by have := hsh.2.1; omega) ycl⟩
      have hxi := okS_op (HALL.out kk (qAl code (kk : Int)) (qBW code z51 kk (by have := HN.out; omega)))
      obtain ⟨aok, aw, hAF⟩ : ∃ aok aw, qAZ ls vs fs res (qAl code (kk : Int)) (kk : Int) true x.f1 x.f2 = (aok, aw) := ⟨_, _, rfl⟩
      have hAFT := fun (w6 : World) (hB6 : Below W.heap.size W w6) (S okT : Nat → Prop) (u1 u2 : Value) (g1 : Kd.N (Kd.int .i64) 3 w6 0 S u1 x.f1) (g2 : ∀ k, u2.ownBlock = some k → S k) (g3 : Kd.N k160 160 w6 0 (fun q => (S q ∨ okT q) ∧ some q ≠ u1.ownBlock) u2 x.f2) (hoff : ∀ q, okF q ∧ q < W.heap.size → ¬ S q) =>
       after_any (W := w6) (kk : Int) A1 A2 A3 A4 A5 p1 c1 c2 n c3 c4 c5 res code (Kd.F_now (Kd.F_below HC.out hB6)) h0 hltz hxi.1 hxi.2.1 (m := true) g1 g2 g3 (by have := hsh.1; omega) (by have := hsh.2.1; omega) (Kd.F_below HL.out hB6) (Kd.F_below HV.out hB6) (Kd.F_below HF.out hB6) hoff HFS.out hxi.2.2 (by omega)
      rw [hAF] at hAFT
      have hins := afterS_inner (ls := ls) (vs := vs) (fs := fs) (res := res) (x := qAl code (kk : Int)) (at_ := (kk : Int)) (m := true) hsh.1 hsh.2.2
      have hlen := afterS_len (ls := ls) (vs := vs) (fs := fs) (res := res) (x := qAl code (kk : Int)) (at_ := (kk : Int)) (m := true) (st := x.f1) (tr := x.f2)
      have hato := afterS_to (ls := ls) (vs := vs) (fs := fs) (res := res) (m := true) (st := x.f1) (tr := x.f2) h0 hxi.2.2
      rw [hAF] at hins hlen hato
      have hlp := loopS_at (ls := ls) (vs := vs) (fs := fs) (res := res) (code := code) (g := g) (aok := aok) (aw := aw) HN2.out (by rw [← HXR.out]; exact hAF)
      rw [HL1.out] at hlp
      have HLP := am hlp
      have HINS := am hins
      have HLEN := am hlen
      have HATO := am hato
      have HAFT := am hAFT
      have HSH := am hsh
      clear hlp hins hlen hato hAFT hsh hAF hxi Z1 Z2 Y1 Y2 y0 y1 y2 yfr ycl hwD hRD2 x0' x0f
      rw [← HLL.out, ← HFF.out, ← HVV.out] at HAFT
      obtain ⟨m1, hm1⟩ : ∃ q, q = x.f1.length := ⟨_, rfl⟩
      obtain ⟨m2, hm2⟩ : ∃ q, q = x.f2.length := ⟨_, rfl⟩
      rw [← hm1] at t7 HCP
      rw [← hm2] at t8 HCP
      clear hm1 hm2
      obtain ⟨wD, hwD⟩ : ∃ wD, wD = (wo.setCell ⟨D, kk, none⟩ (.bool true)) := ⟨_, rfl⟩
      rw [← hwD] at hszD HND HRDD HBD HXD t0 t1 t2 t3 t4 t5 t6 t7 t8 HCP ⊢
      clear hwD HNO HRD HX HB HNX
      go_region_held3 (fun W' => W'.cell? ⟨W.heap.size, 0, none⟩ = some (.slice A1 p1 c1) ∧ W'.cell? ⟨W.heap.size, 1, none⟩ = some (.int .i64 res) ∧ W'.cell? ⟨W.heap.size, 2, none⟩ = some (.slice A2 l1 c2) ∧ W'.cell? ⟨W.heap.size, 3, none⟩ = some (.slice A3 n c3) ∧ W'.cell? ⟨W.heap.size + 1, 0, none⟩ = some (.slice A4 f1 c4) ∧ W'.cell? ⟨W.heap.size + 1, 1, none⟩ = some (.slice A5 v1 c5) ∧ W'.cell? ⟨O, kk * 3, none⟩ = some (.bool true) ∧ W'.cell? ⟨O, kk * 3 + 1, none⟩ = some (.slice E1 m1 e1) ∧ W'.cell? ⟨O, kk * 3 + 2, none⟩ = some (.slice E2 m2 e2))
       (first | exact ⟨t0, t1, t2, t3, t4, t5, t6, t7, t8⟩ | exact ⟨x0, x1, x2, x3, x4, x5, x6, x7, x8⟩ | exact ⟨y0, y1, y2, y3, y4, y5, y6, y7, y8⟩)
       (first
         | (go_at_call 64;
            refine (HCP.out _ (qAr (Below.refl _ _))).mono ?_;
            rintro e w6 ⟨u1, u2, rfl, hR6, hN6, hb6⟩;
            have x0 := (hb6.cell (World.block_lt_of_cell? _ _ t0)).trans t0;
            have x1 := (hb6.cell (World.block_lt_of_cell? _ _ t1)).trans t1;
            have x2 := (hb6.cell (World.block_lt_of_cell? _ _ t2)).trans t2;
            have x3 := (hb6.cell (World.block_lt_of_cell? _ _ t3)).trans t3;
            have x4 := (hb6.cell (World.block_lt_of_cell? _ _ t4)).trans t4;
            have x5 := (hb6.cell (World.block_lt_of_cell? _ _ t5)).trans t5;
            have x6 := (hb6.cell (World.block_lt_of_cell? _ _ t6)).trans t6;
            have x7 := (hb6.cell (World.block_lt_of_cell? _ _ t7)).trans t7;
            have x8 := (hb6.cell (World.block_lt_of_cell? _ _ t8)).trans t8;
            obtain ⟨V1, q1, rfl⟩ := Kd.R_slice hR6;
            obtain ⟨V2, q2, rfl⟩ := Kd.N_slice hN6;
            have HR6 := am hR6;
            have HN6 := am hN6;
            have HB6 : qAi (Below wD.heap.size wD w6) := ⟨(qAr (Below.refl _ _)).trans hb6⟩;
            clear hR6 hN6 hb6)
         | (go_at_call 63;
            refine (HAFT.out w6 (HBD.out.trans (HB6.out.mono HBD.out.size)) (fun q => wD.heap.size ≤ q) (fun q => ((W.heap.size ≤ q ∧ q ≠ D) ∧ q ≠ O) ∧ q < wD.heap.size) _ _ (Kd.N_mono (Kd.N_lower (Kd.R_N (Kd.R_bound HR6.out)) (Nat.zero_le _)) (fun q hq => hq.2.1)) (Kd.N_base HN6.out) (Kd.N_mono (Kd.N_lower HN6.out (Nat.zero_le _)) (fun q hq => ⟨hq.1.symm, hq.2⟩)) (fun q hq h => by { have := HBD.out.size; omega })).mono ?_;
            rintro e w7 ⟨A9, n9, c9, rfl, hF9, hFr7⟩;
            have y0 := hFr7.cell x0 (fun h => Nat.not_lt.2 h (World.block_lt_of_cell? _ _ t0));
            have y1 := hFr7.cell x1 (fun h => Nat.not_lt.2 h (World.block_lt_of_cell? _ _ t1));
            have y2 := hFr7.cell x2 (fun h => Nat.not_lt.2 h (World.block_lt_of_cell? _ _ t2));
            have y3 := hFr7.cell x3 (fun h => Nat.not_lt.2 h (World.block_lt_of_cell? _ _ t3));
            have y4 := hFr7.cell x4 (fun h => Nat.not_lt.2 h (World.block_lt_of_cell? _ _ t4));
            have y5 := hFr7.cell x5 (fun h => Nat.not_lt.2 h (World.block_lt_of_cell? _ _ t5));
            have y6 := hFr7.cell x6 (fun h => Nat.not_lt.2 h (World.block_lt_of_cell? _ _ t6));
            have y7 := hFr7.cell x7 (fun h => Nat.not_lt.2 h (World.block_lt_of_cell? _ _ t7));
            have y8 := hFr7.cell x8 (fun h => Nat.not_lt.2 h (World.block_lt_of_cell? _ _ t8));
            have HF9 := am hF9;
            have HFr7 := am hFr7;
            clear hF9 hFr7))
      have HNO7 := am (Kd.N_kept (Kd.N_below HND.out HB6.out) HFr7.out.2 (fun k hk h => by have := hk.2; omega))
      have HRD7 := am (Kd.R_step (Kd.R_below HRDD.out HB6.out) (fun k hk hlt => HFr7.out.2.2 k hlt (fun h => by have h2 := Kd.R_lt HRDD.out D (by simp [Value.ownBlock]); omega)))
      have HB7 : qAi (Below W.heap.size W w7) := ⟨(HBD.out.trans (HB6.out.mono HBD.out.size)).trans (Fr.below HFr7.out (fun q hq => Nat.le_trans HBD.out.size hq) (Nat.le_trans HBD.out.size HB6.out.size))⟩
      have HX7 : qAi (BoxS W.heap.size #[.slice A1 p1 c1, .int .i64 res, .slice A2 l1 c2, .slice A3 n c3] #[.slice A4 f1 c4, .slice A5 v1 c5] w7) := ⟨(HXD.out.below HB6.out).fr HFr7.out (fun h => by have := HXD.out.lt; omega) (fun h => by have := HXD.out.lt; omega)⟩
      clear t0 t1 t2 t3 t4 t5 t6 t7 t8 x0 x1 x2 x3 x4 x5 x6 x7 x8 y0 y1 y2 y3 y4 y5 y6 y7 y8
      have hw7 : wD.heap.size ≤ w7.heap.size := Nat.le_trans HB6.out.size HFr7.out.size
      cases aok with
      | false =>
       have HRE : qAi (RR = (none, (kk : Int), 51)) := ⟨by rw [HLP.out]; simp⟩
       go_wp2_with fail
       try rw [Exit.noGoto_ret]
       refine bodyPost_ret (results_tmp3 rfl _ _ _) rfl ?_
       rw [HRE.out]
       refine ⟨_, rfl, ?_, ?_, HB7.out⟩
       ·intro out h; cases h
       intro _; rfl
      | true =>
       have hF9 := HF9.out rfl
       have h9 : n9 = aw.length := (Kd.F_len hF9).symm
       have HNT := am (note_any (W := w7) O n capO okk HNO7.out A9 n9 c9 aw (Kd.F_bound hF9) (by
         rintro ⟨(h | h) | h, h2⟩
         · have := Kd.N_lt HND.out O (by simp [Value.ownBlock]); omega
         · exact h.1.2 rfl
         · have := Kd.N_lt HND.out O (by simp [Value.ownBlock]); have := HB6.out.size; omega) HATO.out (by have h10 : aw.length ≤ 2 := HLEN.out; omega) (by omega) (fun z hz => ⟨by have := (HOK.out z hz).1; omega, by have := (HOK.out z hz).2.1; omega, fun u hu => by have := (HOK.out z hz).2.2 u hu; omega⟩) (fun w hw u hu => by have := HINS.out w hw u hu; omega))
       have hok2 := noteS_ok (out := okk) HOK.out HINS.out
       obtain ⟨en, on, hen⟩ : ∃ en on, qBV okk aw = (en, on) := ⟨_, _, rfl⟩
       rw [hen] at HNT hok2
       have hlp := HLP.out
       rw [if_pos rfl, hen] at hlp
       have HLP2 := am hlp
       have HOK2 := am hok2
       clear hlp hok2 hF9 h9 hen
       by_cases he0 : en = 0
       rotate_left
       ·have hq : (en != 0) = true := bne_iff_ne.mpr he0
        have HRE : qAi (RR = (none, (kk : Int), en)) := ⟨by rw [HLP2.out, if_neg he0]⟩
        go_wp2_with (go_at_call 65; refine HNT.out.mono ?_; rintro e w8 ⟨rfl, hN8, hF8⟩; have HF8 := am hF8; clear hN8 hF8)
        try rw [Exit.noGoto_ret]
        refine bodyPost_ret (results_tmp3 rfl _ _ _) rfl ?_
        rw [HRE.out]
        refine ⟨_, rfl, ?_, ?_, ?_⟩
        ·intro out h; cases h
        ·intro _; rfl
        exact HB7.out.trans (Fr.below HF8.out (fun q hq => by rw [hq]; exact hOW) HB7.out.size)
       subst he0
       have HLP3 : qAi (loopS ls vs fs res code g on (dnk.set kk true) = RR) := ⟨by have h := HLP2.out; rw [if_pos (by trivial)] at h; exact h.symm⟩
       have hDl : D < wD.heap.size := Kd.R_lt HRDD.out D (by simp [Value.ownBlock])
       have hun := undone_set dnk kk HDX.out
       go_wp2_with (go_at_call 65; refine HNT.out.mono ?_; rintro e w8 ⟨rfl, hN8, hF8⟩; have HN8 := am hN8; have HF8 := am hF8; clear hN8 hF8)
       go_roundg g
       case measure => omega
       case rel =>
        have hW6 := HB6.out.size
        refine ⟨on, dnk.set kk true, by omega, HLP3, HOK2, ⟨Kd.N_mono HN8.out (fun q hq => ?_)⟩, ⟨Kd.R_step HRD7.out (fun k hk hlt => HF8.out.2.2 k hlt (fun h => hDn (by rw [← h, hk])))⟩, ⟨HB7.out.trans (Fr.below HF8.out (fun q hq => by rw [hq]; exact hOW) HB7.out.size)⟩, ⟨HX7.out.fr HF8.out (by omega) (by omega)⟩⟩
        rcases hq with (h | ⟨(h | h) | h, _⟩) | h
        ·exact h.1
        ·exact ⟨by omega, by omega⟩
        ·exact h.1.1
        ·exact ⟨by omega, by omega⟩
        exact ⟨by omega, by omega⟩
theorem verify_any {W : World} (A1 A2 A3 A4 A5 : Option Addr) (c1 c2 c3 c4 c5 : Nat) (res : Int) {ps ls vs : List Int} {fs : List S34} {code : List S51} {okF : Nat → Prop} (hP : Kd.F (Kd.int .i64) W okF A1 ps.length ps) (hL : Kd.F (Kd.int .i64) W okF A2 ls.length ls) (hC : Kd.F k51 W okF A3 code.length code) (hF : Kd.F k34 W okF A4 fs.length fs) (hV : Kd.F (Kd.int .i64) W okF A5 vs.length vs) (hc1 : ps.length ≤ c1) (hc2 : ls.length ≤ c2)
  (hp1 : ps.length ≤ 2000000) (hl1 : ls.length ≤ 2000000) (hv1 : vs.length ≤ 2000000) (hf1 : fs.length ≤ 2000000) (hn3 : code.length ≤ 2000000) (hfs : ∀ x ∈ fs, x.f0.length ≤ 2000000) (hu : ∀ x ∈ code, u64S x = true) :
  Calls Tryz.prog 13 #[.agg #[.slice A1 ps.length c1, .int .i64 res, .slice A2 ls.length c2, .slice A3 code.length c3], .agg #[.slice A4 fs.length c4, .slice A5 vs.length c5]] W fun e w' => e = .returned (.tuple #[.int .i64 (qCo ps res ls code fs vs).2.1, .int .i64 (qCo ps res ls code fs vs).2.2]) ∧ Below W.heap.size W w' := by
 have hBB : Below W.heap.size W ((W.alloc (.cells #[.slice A1 ps.length c1, .int .i64 res, .slice A2 ls.length c2, .slice A3 code.length c3] 37)).alloc (.cells #[.slice A4 fs.length c4, .slice A5 vs.length c5] 41)) := ((Below.refl _ _).alloc (Nat.le_refl _) _).alloc (by simp) _
 have hs := fun W' (hW' : Below W.heap.size W W') => shapes_any (W := W') A1 A2 A3 A4 A5 c1 c2 c3 c4 c5 res (Kd.F_below hP hW') (Kd.F_below hL hW') (Kd.F_below hC hW') (Kd.F_below hF hW') (Kd.F_below hV hW') hc1 hc2 hp1 hl1 hv1 hf1 hn3 hfs hu
 obtain ⟨RR, hRR⟩ : ∃ RR, RR = qCo ps res ls code fs vs := ⟨_, rfl⟩
 rw [← hRR] at hs ⊢
 obtain ⟨q1, hq1⟩ : ∃ q, q = ps.length := ⟨_, rfl⟩
 obtain ⟨q2, hq2⟩ : ∃ q, q = ls.length := ⟨_, rfl⟩
 obtain ⟨q3, hq3⟩ : ∃ q, q = code.length := ⟨_, rfl⟩
 obtain ⟨q4, hq4⟩ : ∃ q, q = fs.length := ⟨_, rfl⟩
 obtain ⟨q5, hq5⟩ : ∃ q, q = vs.length := ⟨_, rfl⟩
 rw [← hq1, ← hq2, ← hq3, ← hq4, ← hq5] at hs hBB ⊢
 have HS := am hs
 have HBB := am hBB
 clear hP hL hC hF hV hc1 hc2 hp1 hl1 hv1 hf1 hn3 hfs hu hRR hs hBB hq1 hq2 hq3 hq4 hq5
 go_enter Tryz.func13, Tryz.ntmps13
 go_wp2_with (go_at_call 41; refine (HS.out _ HBB.out).mono ?_; rintro e w1 ⟨v, rfl, _, _, hb⟩; have HB1 : qAi (Below W.heap.size W w1) := ⟨HBB.out.trans (hb.mono HBB.out.size)⟩; clear hb)
 go_ret2
 exact ⟨rfl, HB1.out⟩
def vSz (ps ls : List Int) (code : List S51) (fs : List S34) (vs : List Int) : Bool := decide (ps.length ≤ 2000000) && (decide (ls.length ≤ 2000000) && (decide (code.length ≤ 2000000) && (decide (fs.length ≤ 2000000) && (decide (vs.length ≤ 2000000) && (code.all u64S && fs.all fun s => decide (s.f0.length ≤ 2000000))))))
theorem heapSig : Kd.Heap k34 := Kd.heap_iso _ (Kd.heap_pair (Kd.heap_slice _ (Kd.heap_int _)) (Kd.heap_int _))
theorem heapIns : Kd.Heap k51 := Kd.heap_iso _ (Kd.heap_pair (Kd.heap_int _) (Kd.heap_pair (Kd.heap_int _) (Kd.heap_iso _ (Kd.heap_pair (Kd.heap_int _) (Kd.heap_int _)))))
def qAC.f (l0_0 : List Int) (a0_1 : Int) (l0_2 : List Int) (l0_3 : List (S51)) (l1_0 : List (S34)) (l1_1 : List Int) : Option (Int × Int) := if vSz l0_0 l0_2 l0_3 l1_0 l1_1 = true then some (qCo l0_0 a0_1 l0_2 l0_3 l1_0 l1_1).2 else none
theorem qAC.calls (A0_0 : Option Addr) (c0_0 : Nat) (l0_0 : List Int) (a0_1 : Int) (A0_2 : Option Addr) (c0_2 : Nat) (l0_2 : List Int) (A0_3 : Option Addr) (c0_3 : Nat) (l0_3 : List (S51)) (A1_0 : Option Addr) (c1_0 : Nat) (l1_0 : List (S34)) (A1_1 : Option Addr) (c1_1 : Nat) (l1_1 : List Int) (r1 : Int) (r2 : Int) (w : World) (hr0_0 : Kd.C (Kd.int .i64) w A0_0 l0_0.length l0_0) (hc0_0 : l0_0.length ≤ c0_0) (hr0_2 : Kd.C (Kd.int .i64) w A0_2 l0_2.length l0_2) (hc0_2 : l0_2.length ≤ c0_2) (hr0_3 : Kd.C k51 w A0_3 l0_3.length l0_3) (hc0_3 : l0_3.length ≤ c0_3) (hr1_0 : Kd.C k34 w A1_0 l1_0.length l1_0) (hc1_0 : l1_0.length ≤ c1_0) (hr1_1 : Kd.C (Kd.int .i64) w A1_1 l1_1.length l1_1) (hc1_1 : l1_1.length ≤ c1_1) (h : qAC.f l0_0 a0_1 l0_2 l0_3 l1_0 l1_1 = some (r1, r2)) :
  Calls Tryz.prog 13 #[.agg #[.slice A0_0 l0_0.length c0_0, .int .i64 a0_1, .slice A0_2 l0_2.length c0_2, .slice A0_3 l0_3.length c0_3], .agg #[.slice A1_0 l1_0.length c1_0, .slice A1_1 l1_1.length c1_1]] w fun e w' => e = .returned (.tuple #[.int .i64 r1, .int .i64 r2]) ∧ Below w.heap.size w w' := by
 unfold qAC.f at h
 split at h
 ·rename_i hs
  injection h with h
  simp only [vSz, Bool.and_eq_true, decide_eq_true_eq, List.all_eq_true] at hs
  obtain ⟨h1, h2, h3, h4, h5, h6, h7⟩ := hs
  have hv := verify_any A0_0 A0_2 A0_3 A1_0 A1_1 c0_0 c0_2 c0_3 c1_0 c1_1 a0_1 (okF := fun _ => True) (Kd.F_mono (Kd.C_F (Kd.heap_int _) hr0_0) (fun _ _ => trivial)) (Kd.F_mono (Kd.C_F (Kd.heap_int _) hr0_2) (fun _ _ => trivial)) (Kd.F_mono (Kd.C_F heapIns hr0_3) (fun _ _ => trivial)) (Kd.F_mono (Kd.C_F heapSig hr1_0) (fun _ _ => trivial)) (Kd.F_mono (Kd.C_F (Kd.heap_int _) hr1_1) (fun _ _ => trivial)) hc0_0 hc0_2 h1 h2 h5 h4 h3 h7 h6
  rw [h] at hv
  exact hv
 ·cases h
end Q
end
section
namespace Q
open Go.ChangeShapes Go.WideShapes Go.RowKit Go.Deep YA YC YB
theorem one_bulk {H : Type} (d : DataW H) : 1 ≤ Rows.uptoBulk d := by
 cases d with
 | lit l => cases l <;> simp [Rows.uptoBulk]
 | nil => simp [Rows.uptoBulk]
 | ptr d => simp [Rows.uptoBulk]
 | slice elems spare => simp [Rows.uptoBulk]
 | agg parts => simp [Rows.uptoBulk]
 | iface t d => simp [Rows.uptoBulk]
 | map entries => simp [Rows.uptoBulk]
 | held h => simp [Rows.uptoBulk]
theorem part_bulk {H : Type} {d : DataW H} {l : List (DataW H)} (h : d ∈ l) : Rows.uptoBulk d ≤ Rows.uptoBulkAll l := by
 induction l with
 | nil => cases h
 | cons x r ih =>
  simp only [Rows.uptoBulkAll]
  cases List.mem_cons.1 h with
  | inl e => subst e; omega
  | inr e => have := ih e; omega
theorem length_bulk {H : Type} (l : List (DataW H)) : l.length ≤ Rows.uptoBulkAll l := by
 induction l with
 | nil => simp
 | cons x r ih => have := one_bulk x; simp only [Rows.uptoBulkAll, List.length_cons]; omega
def Opens {α : Type} (P : Program) (w : World) (N : Nat) (t : TypeId) (d : Kd α) (G : α → Prop) : Prop :=
 ∀ (H : Type) (enc : TypeId × Value → H) (base : Nat) (spare : Nat → Bool) (held : Bool) (fuel : Nat) (cs : List Value) (x : DataW H × List MemPlace),
  DataW.trod enc P w base spare held fuel t cs = some x → Rows.uptoBulk x.1 ≤ N → ∃ a, d.K w a cs ∧ G a
theorem qCx {P : Program} {w : World} {N : Nat} {t : TypeId} {k : IntKind} (ht : P.underlying t = some (.int k)) : Opens P w N t (Kd.int k) (fun n => (Lit.int k n).wf = true) := by
 intro H enc base spare held fuel cs x h hb
 obtain ⟨n, rfl, _, hw⟩ := DataW.trod_int ht h
 exact ⟨n, rfl, hw⟩
theorem list_of {α : Type} {p : Nat → α → Prop} : ∀ (n : Nat), (∀ i, i < n → ∃ a, p i a) → ∃ l : List α, l.length = n ∧ ∀ i a, l[i]? = some a → p i a
 | 0, _ => ⟨[], rfl, fun i a h => by simp at h⟩
 | n + 1, h => by
  obtain ⟨l, hl, hp⟩ := list_of n fun i hi => h i (by omega)
  obtain ⟨a, ha⟩ := h n (by omega)
  refine ⟨l ++ [a], by simp [hl], fun i b hb => ?_⟩
  by_cases hi : i < l.length
  ·rw [List.getElem?_append_left hi] at hb; exact hp i b hb
  rw [List.getElem?_append_right (by omega)] at hb
  have : i - l.length = 0 := by
   cases hk : i - l.length with
   | zero => rfl
   | succ k => rw [hk] at hb; simp at hb
  rw [this] at hb
  obtain rfl : a = b := by simpa using hb
  have : i = n := by omega
  subst this; exact ha
theorem opens_slice {α : Type} {P : Program} {w : World} {N : Nat} {t e : TypeId} {d : Kd α} {G : α → Prop} (ht : P.underlying t = some (.slice e)) (hsz : d.sz = P.cellsOf e) (he : Opens P w N e d G) : Opens P w N t (Kd.slice e d) (fun l => l.length ≤ N ∧ ∀ x ∈ l, G x) := by
 intro H enc base spare held fuel cs x h hb
 rcases open_slice ht h with ⟨rfl, rfl⟩ | ⟨a, len, cap, m, n, D, Pl, rfl, _, hl, hm, hmm, rfl, hx⟩
 ·exact ⟨[], ⟨none, 0, rfl, Nat.le_refl _, Kd.C_nil d w⟩, by simp, fun _ h => by cases h⟩
 have hlm : len ≤ m := by rw [hmm]; split <;> omega
 simp only [Rows.uptoBulk] at hb
 have hlen := length_bulk ((List.range len).map D)
 rw [List.length_map, List.length_range] at hlen
 obtain ⟨l, hll, hp⟩ := list_of (p := fun i a' => (∃ c, c.length = d.sz ∧ d.K w a' c ∧ ∀ j u, c[j]? = some u → w.cell? (a.add (i * d.sz + j)) = some u) ∧ G a') len (fun i hi => by
   obtain ⟨cs', h1, h2⟩ := hx i (by omega)
   have hbi : Rows.uptoBulk (D i) ≤ N := by
     have := part_bulk (d := D i) (l := (List.range len).map D) (List.mem_map.2 ⟨i, List.mem_range.2 hi, rfl⟩)
     omega
   obtain ⟨a', hk, hg⟩ := he _ _ _ _ _ _ _ _ h2 hbi
   obtain ⟨_, hcl, hcell⟩ := World.cells?_some h1
   refine ⟨a', ⟨cs', d.K_len hk, hk, fun j u hu => ?_⟩, hg⟩
   have hj : j < cs'.length := (List.getElem?_eq_some_iff.1 hu).1
   have := hcell j (by omega)
   rw [Go.Deep.add_add] at this
   rw [hsz, this, hu])
 have hmax : maxLen ≤ 9223372036854775807 := by decide
 refine ⟨l, ⟨some a, cap, by rw [hll], by omega, ⟨rfl, by omega, fun _ => ⟨a, rfl, fun j p hj => (hp j p hj).1⟩⟩⟩, by omega, fun x hx => ?_⟩
 obtain ⟨i, hi⟩ := List.getElem?_of_mem hx
 exact (hp i x hi).2
theorem list_2 {α : Type} : ∀ {l : List α}, l.length = 2 → ∃ a0 a1, l = [a0, a1]
 | [a0, a1], _ => ⟨a0, a1, rfl⟩
theorem list_3 {α : Type} : ∀ {l : List α}, l.length = 3 → ∃ a0 a1 a2, l = [a0, a1, a2]
 | [a0, a1, a2], _ => ⟨a0, a1, a2, rfl⟩
theorem list_4 {α : Type} : ∀ {l : List α}, l.length = 4 → ∃ a0 a1 a2 a3, l = [a0, a1, a2, a3]
 | [a0, a1, a2, a3], _ => ⟨a0, a1, a2, a3, rfl⟩
def qCW (N : Nat) (x : S48) : Prop := (Lit.int .i64 x.f0).wf = true ∧ (Lit.int .u64 x.f1).wf = true
theorem qDl (w : World) (N : Nat) : Opens Tryz.prog w N 48 k48 (qCW N) := by
 intro H enc base spare held fuel cs x h hb
 obtain ⟨xs, n, _, rfl, hl, hlen, hf⟩ := DataW.trod_struct Tryz.underlying48 h
 have hl' : cs.length = 2 := hl.trans (by kernel_rfl)
 obtain ⟨c0, c1, rfl⟩ : ∃ c0 c1, cs = [c0, c1] := list_2 hl'
 obtain ⟨y0, y1, rfl⟩ : ∃ y0 y1, xs = [y0, y1] := list_2 hlen
 simp only [Rows.uptoBulk, Rows.uptoBulkAll, List.map_cons, List.map_nil] at hb
 have h0 := hf 0 _ rfl
 obtain ⟨a0, k0, g0⟩ := (qCx (by kernel_rfl) : Opens Tryz.prog w N _ (Kd.int .i64) _) _ _ _ _ _ _ _ y0 h0 (by omega)
 have h1 := hf 1 _ rfl
 obtain ⟨a1, k1, g1⟩ := (qCx (by kernel_rfl) : Opens Tryz.prog w N _ (Kd.int .u64) _) _ _ _ _ _ _ _ y1 h1 (by omega)
 exact ⟨⟨a0, a1⟩, ⟨_, _, by kernel_rfl, k0, k1⟩, ⟨g0, g1⟩⟩
def qB9 (N : Nat) (x : S50) : Prop := (Lit.int .i64 x.f0).wf = true ∧ (Lit.int .i64 x.f1).wf = true ∧ qCW N x.f2
theorem opens_foundryref14_Ins (w : World) (N : Nat) : Opens Tryz.prog w N 50 k50 (qB9 N) := by
 intro H enc base spare held fuel cs x h hb
 obtain ⟨xs, n, _, rfl, hl, hlen, hf⟩ := DataW.trod_struct Tryz.underlying50 h
 have hl' : cs.length = 4 := hl.trans (by kernel_rfl)
 obtain ⟨c0, c1, c2, c3, rfl⟩ : ∃ c0 c1 c2 c3, cs = [c0, c1, c2, c3] := list_4 hl'
 obtain ⟨y0, y1, y2, rfl⟩ : ∃ y0 y1 y2, xs = [y0, y1, y2] := list_3 hlen
 simp only [Rows.uptoBulk, Rows.uptoBulkAll, List.map_cons, List.map_nil] at hb
 have h0 := hf 0 _ rfl
 obtain ⟨a0, k0, g0⟩ := (qCx (by kernel_rfl) : Opens Tryz.prog w N _ (Kd.int .i64) _) _ _ _ _ _ _ _ y0 h0 (by omega)
 have h1 := hf 1 _ rfl
 obtain ⟨a1, k1, g1⟩ := (qCx (by kernel_rfl) : Opens Tryz.prog w N _ (Kd.int .i64) _) _ _ _ _ _ _ _ y1 h1 (by omega)
 have h2 := hf 2 _ rfl
 obtain ⟨a2, k2, g2⟩ := (qDl w N : Opens Tryz.prog w N _ (k48) _) _ _ _ _ _ _ _ y2 h2 (by omega)
 exact ⟨⟨a0, a1, a2⟩, ⟨_, _, by kernel_rfl, k0, ⟨_, _, rfl, k1, k2⟩⟩, ⟨g0, g1, g2⟩⟩
end Q
end
section
namespace Wr
open Go.RowKit Base
theorem infoU8 : (Tryz.prog.info? 5).map (fun i => (i.zero, i.size, i.bytes)) = some (some (.int .u8 0), 1, 1) := by kernel_rfl
def bv (bs : List Int) : List Value := bs.map (Value.int .u8)
theorem qCu (bs : List Int) : (bv bs).length = bs.length := List.length_map _
theorem qB5 (a b : List Int) : bv (a ++ b) = bv a ++ bv b := List.map_append
def be (n : Int) (m j : Nat) : List Int := (List.range j).map fun t => n / 2 ^ (8 * (m - 1 - t)) % 256
theorem be_succ (n : Int) (m j : Nat) : be n m (j + 1) = be n m j ++ [n / 2 ^ (8 * (m - 1 - j)) % 256] := by
 unfold be; rw [List.range_succ, List.map_append]; rfl
theorem qBj (n : Int) (m j : Nat) : (be n m j).length = j := by simp [be]
end Wr
end
section
namespace Num
open Go.RowKit Go.Shelf Base Wr
attribute [local go_sem] Oper.semAt_some
abbrev Ix (m : Nat) := { x : Nat × Int // x.1 < m }
def fsts {m : Nat} (pre : List (Ix m)) : List Nat := pre.map (·.1.1)
def qBe (m k : Nat) : List Nat := (List.range k).map (fun j => m - 1 - j)
theorem qBF (m k : Nat) : qBe m (k + 1) = qBe m k ++ [m - 1 - k] := by simp [qBe, List.range_succ]
theorem backs_length (m k : Nat) : (qBe m k).length = k := by simp [qBe]
def KpB (Bs g m : Nat) (W W' : World) : Prop :=
 (∀ v, W.cell? ⟨Bs, 0, none⟩ = some v → W'.cell? ⟨Bs, 0, none⟩ = some v) ∧ ∀ j, j < m → ∀ x, W.cell? ⟨g, j, none⟩ = some (.int .u8 x) → ∃ y, W'.cell? ⟨g, j, none⟩ = some (.int .u8 y)
theorem KpB.refl (Bs g m : Nat) (W : World) : KpB Bs g m W W := ⟨fun _ h => h, fun _ _ x h => ⟨x, h⟩⟩
theorem KpB.t {Bs g m : Nat} {A B C : World} (h : KpB Bs g m A B) (k : KpB Bs g m B C) : KpB Bs g m A C :=
 ⟨fun v e => k.1 v (h.1 v e), fun j hj x e => by obtain ⟨y, hy⟩ := h.2 j hj x e; exact k.2 j hj y hy⟩
theorem KpB.b {Bs g m : Nat} {w : World} (W : World) (l : Nat) (o o' : Obj) (_ : w.heap.size ≤ l) (h : W.heap[l]? = some o) (hc : o.isCells = false) (_ : o.isWalk = false) : KpB Bs g m W (W.putObj l o') :=
 ⟨fun _ e => cell_kept e (grownBy_putObj' W l o') (fun r er => by cases er; exact ⟨_, h, hc⟩), fun _ _ x e => ⟨x, cell_kept e (grownBy_putObj' W l o') (fun r er => by cases er; exact ⟨_, h, hc⟩)⟩⟩
theorem back1_in (F : Fence) (n : Nat) (hf : F.fn 101) (hro : F.round = none) (hn : 1 ≤ n) (l Bs g m : Nat) (hm : m ≤ 1000) (J Jx : List (Ix m) → World → Prop)
  (hY : ∀ pre x W, J pre W → pre.length < m → YieldAt F (n - 1) Tryz.prog l #[.int .i64 (x.1.1 : Int), .int .u8 x.1.2] W fun e W' =>
    (e = .returned (.bool true) ∧ J (pre ++ [x]) W' ∧ KpB Bs g m W W') ∨ (e = .returned (.bool false) ∧ Jx (pre ++ [x]) W'))
  (W : World) (hBs : W.cell? ⟨Bs, 0, none⟩ = some (.slice (some ⟨g, 0, none⟩) m m)) (hc : ∀ j, j < m → ∃ x, W.cell? ⟨g, j, none⟩ = some (.int .u8 x)) (h0 : J [] W) :
  CallsIn F n Tryz.prog 101 #[.func (.yield l) #[] #[], .pointer (some ⟨Bs, 0, none⟩)] W fun e W' => (∃ v, e = .returned v) ∧
   ((∃ ys, fsts ys = qBe m m ∧ J ys W') ∨ (∃ pre, True ∧ Jx pre W')) := by
 refine callsIn_of_wp Tryz.func101 rfl hf ?_ hro
 simp only [Tryz.ntmps101, List.size_toArray, List.length_cons, List.length_nil, Nat.reduceAdd, Nat.reduceSub, Array.replicate_succ, Array.replicate_zero, List.push_toArray, List.append_toArray, List.nil_append, List.cons_append]
 gi_wp2
 gi_loopw [3] (fun i wr => ∃ (k : Nat) (pre : List (Ix m)), fsts pre = qBe m k ∧ ((∃ q : Nat, q + 1 + k = m ∧ i = .int .i64 (q : Int)) ∨ (k = m ∧ i = .int .i64 (-1))) ∧ J pre wr ∧ KpB Bs g m W wr)
  (fun i _ => (intOf i + 1).toNat)
 case atStart =>
  refine ⟨0, [], rfl, ?_, h0, KpB.refl _ _ _ _⟩
  by_cases h : m = 0
  ·right; subst h; exact ⟨rfl, by simp⟩
  left; refine ⟨m - 1, by omega, ?_⟩
  go_num
 case round =>
  obtain ⟨k, pre, hp, hi, hJs, hkp⟩ := hrel
  have hbx := hkp.1 _ hBs
  rcases hi with ⟨q, hq, rfl⟩ | ⟨rfl, rfl⟩
  ·have hqm : q < m := by omega
   obtain ⟨x0, hx0⟩ := hc q hqm
   obtain ⟨y, hy0⟩ := hkp.2 q hqm x0 hx0
   have hpl : pre.length = k := by have := congrArg List.length hp; simpa [fsts, qBe] using this
   obtain ⟨fn, tmps, assign, body, hy, hR⟩ := hY pre ⟨(q, y), hqm⟩ wr hJs (by omega)
   dsimp only at hy
   gi_wp2
   refine hR.mono ?_
   rintro e W3 (⟨rfl, hJ3, hk3⟩ | ⟨rfl, hJx3⟩)
   ·gi_wp2
    go_roundw
    case rel =>
     refine ⟨k + 1, pre ++ [⟨(q, y), hqm⟩], ?_, ?_, hJ3, hkp.t hk3⟩
     ·rw [qBF, ← hp]; simp [fsts]; omega
     by_cases h : q = 0
     ·right; subst h; exact ⟨by omega, by simp⟩
     left; exact ⟨q - 1, by omega, by go_num⟩
    case measure => simp [intOf]
   gi_wp2
   refine bodyPost_ret (results_none rfl _ _ _) rfl ?_
   exact ⟨⟨_, rfl⟩, .inr ⟨_, trivial, hJx3⟩⟩
  gi_wp2
  go_end0
  exact ⟨⟨_, rfl⟩, .inl ⟨_, hp, hJs⟩⟩
theorem backward_in (F : Fence) (n : Nat) (hf : F.fn 71) (hro : F.round = none) (a : Option Addr) (len cap : Nat) (w : World) :
  CallsIn F n Tryz.prog 71 #[.slice a len cap] w fun e w' => e = .returned (.func (.func 101) #[] #[.pointer (some ⟨w.heap.size, 0, none⟩)]) ∧ w' = w.alloc (.cells #[.slice a len cap] 53) := by
 refine callsIn_of_wp Tryz.func71 rfl hf ?_ hro
 simp only [Tryz.ntmps71, List.size_toArray, List.length_cons, List.length_nil, Nat.reduceAdd, Nat.reduceSub, Array.replicate_succ, Array.replicate_zero, List.push_toArray, List.append_toArray, List.nil_append, List.cons_append]
 gi_wp2
 go_ret
 exact ⟨rfl, rfl⟩
def stp (s : Int × (Nat → Int)) (j : Nat) : Int × (Nat → Int) := (s.1 / 256, fun t => if t = j then s.1 % 256 else s.2 t)
def stF (x : Int) (l : List Nat) : Int × (Nat → Int) := l.foldl stp (x, fun _ => 0)
theorem stF_snoc {m : Nat} (x : Int) (pre : List (Ix m)) (y : Ix m) : stF x (fsts (pre ++ [y])) = stp (stF x (fsts pre)) y.1.1 := by simp [stF, fsts]
theorem back_stops (F : Fence) (n : Nat) (hf : F.fn 101) (hro : F.round = none) (hn : 1 ≤ n) (Bs g m : Nat) (hm : m ≤ 1000) (w : World) (hBs : Bs < w.heap.size) (hg : g < w.heap.size)
  (hb : w.cell? ⟨Bs, 0, none⟩ = some (.slice (some ⟨g, 0, none⟩) m m)) (hc : ∀ j, j < m → ∃ x, w.cell? ⟨g, j, none⟩ = some (.int .u8 x)) :
  SeqStopsK F n Tryz.prog 101 #[.pointer (some ⟨Bs, 0, none⟩)] (fun x : Ix m => #[.int .i64 (x.1.1 : Int), .int .u8 x.1.2]) (KpB Bs g m) (fun ys => fsts ys = qBe m m) (fun _ => True) m w := fun l J Jx W hW _ _ hY h0 =>
 back1_in F n hf hro hn l Bs g m hm J Jx hY W ((hW.cell (p := ⟨Bs, 0, none⟩) hBs).trans hb) (fun j hj => by obtain ⟨x, hx⟩ := hc j hj; exact ⟨x, (hW.cell (p := ⟨g, j, none⟩) hg).trans hx⟩) h0
theorem number_in (F : Fence) (n : Nat) (hf : F.fn 46) (hf1 : F.fn 71) (hf2 : F.fn 101) (hro : F.round = none) (hn : 3 ≤ n) (x : Int) (m : Nat) (zs : Array Value) (hm : m ≤ 1000)
  (hmk : ∀ w, (Instr.makeSlice 53 (.int .i64 (m : Int)) (.int .i64 (m : Int))).run Tryz.prog w = .ok (.slice (some ⟨w.heap.size, 0, none⟩) m m) (w.alloc (.cells zs 5))) (hzs : ∀ j, j < m → zs[j]? = some (.int .u8 0)) (w : World) :
  CallsIn F n Tryz.prog 46 #[.int .u64 x, .int .i64 (m : Int)] w fun e w' => e = .returned (.slice (some ⟨w.heap.size + 1, 0, none⟩) m m) ∧ Below w.heap.size w w' ∧ ∃ ys : List (Ix m), fsts ys = qBe m m ∧ ∀ j, j < m → w'.cell? ⟨w.heap.size + 1, j, none⟩ = some (.int .u8 ((stF x (fsts ys)).2 j)) := by
 have h1 : 1 ≤ n := by omega
 refine callsIn_of_wp_marks Tryz.func46 rfl hf ?_ hro
 simp only [Tryz.ntmps46, List.size_toArray, List.length_cons, List.length_nil, Nat.reduceAdd, Nat.reduceSub, Array.replicate_succ, Array.replicate_zero, List.push_toArray, List.append_toArray, List.nil_append, List.cons_append]
 gi_wp2_with (gi_at_call 71; refine (backward_in F (n - 1) hf1 hro _ _ _ _).mono ?_; rintro e w' ⟨rfl, rfl⟩)
 obtain ⟨W0, hW0⟩ : ∃ W0, ((((w.alloc (.cells #[.int .u64 x] 46)).alloc (.cells zs 5)).alloc (.cells #[.slice (some ⟨w.heap.size + 1, 0, none⟩) m m] 53)).alloc (.cells #[.slice (some ⟨w.heap.size + 1, 0, none⟩) m m] 53)) = W0 := ⟨_, rfl⟩
 have hsz : W0.heap.size = w.heap.size + 4 := by rw [← hW0]; simp
 have hB0 : Below w.heap.size w W0 := by rw [← hW0]; exact ((((Below.refl _ _).alloc (Nat.le_refl _) _).alloc (by simp) _).alloc (by simp; omega) _).alloc (by simp; omega) _
 have b0 : Boxed W0 w.heap.size 46 (.int .u64 x) := by rw [← hW0]; exact (((Boxed.new w _ _).alloc _).alloc _).alloc _
 have b2 : Boxed W0 (w.heap.size + 1 + 1) 53 (.slice (some ⟨w.heap.size + 1, 0, none⟩) m m) := by
  rw [← hW0]; have := Boxed.new ((w.alloc (.cells #[.int .u64 x] 46)).alloc (.cells zs 5)) 53 (.slice (some ⟨w.heap.size + 1, 0, none⟩) m m)
  simp only [World.size_alloc] at this; exact this.alloc _
 have b3 : Boxed W0 (w.heap.size + 1 + 1 + 1) 53 (.slice (some ⟨w.heap.size + 1, 0, none⟩) m m) := by
  rw [← hW0]; have := Boxed.new (((w.alloc (.cells #[.int .u64 x] 46)).alloc (.cells zs 5)).alloc (.cells #[.slice (some ⟨w.heap.size + 1, 0, none⟩) m m] 53)) 53 (.slice (some ⟨w.heap.size + 1, 0, none⟩) m m)
  simp only [World.size_alloc] at this; exact this
 have hrow : W0.heap[w.heap.size + 1]? = some (.cells zs 5 (0, 0)) := by
  rw [← hW0]
  refine (Below.heap_alloc _ _ _ (by simp)).trans ((Below.heap_alloc _ _ _ (by simp)).trans ?_)
  have := World.alloc_heap_new (w.alloc (.cells #[.int .u64 x] 46)) (.cells zs 5); rwa [World.size_alloc] at this
 have hrc : ∀ j, j < m → W0.cell? ⟨w.heap.size + 1, j, none⟩ = some (.int .u8 0) := fun j hj => by
  have := hzs j hj
  simp [World.cell?, hrow, this]
 have hrf : ∀ j, W0.frozen? ⟨w.heap.size + 1, j, none⟩ = false := fun j => by simp [World.frozen?, hrow]
 rw [hW0]
 clear hW0 hmk
 refine wpIn_rangeFunc_ownG (α := Ix m) hro h1 (gf := 101) (lb := #[.pointer (some ⟨w.heap.size + 1 + 1 + 1, 0, none⟩)]) rfl hf2 (enters_of Tryz.func101 (by kernel_rfl) rfl)
  (back_stops F (n - 1) hf2 hro (by omega) (w.heap.size + 1 + 1 + 1) (w.heap.size + 1) m hm W0 (by omega) (by omega) b3.cell (fun j hj => ⟨_, hrc j hj⟩)) KpB.t (fun W l o o' => KpB.b (w := W0) W l o o') (Below.refl _ _) (fun _ => rfl)
  (fun pre W => ((W.cell? ⟨w.heap.size, 0, none⟩ = some (.int .u64 (stF x (fsts pre)).1) ∧ W.frozen? ⟨w.heap.size, 0, none⟩ = false) ∧ (∀ j, j < m → W.cell? ⟨w.heap.size + 1, j, none⟩ = some (.int .u8 ((stF x (fsts pre)).2 j)) ∧ W.frozen? ⟨w.heap.size + 1, j, none⟩ = false) ∧ W.cell? ⟨w.heap.size + 1 + 1, 0, none⟩ = some (.slice (some ⟨w.heap.size + 1, 0, none⟩) m m)) ∧ Below w.heap.size w W)
  (fun _ _ _ => False)
  (OwnFrom.and (Own.from (fun s A B row hs hg hr => ⟨⟨cell_kept hs.1.1 hg hr, (frozen_kept hs.1.1 hg hr).trans hs.1.2⟩, fun j hj => ⟨cell_kept (hs.2.1 j hj).1 hg hr, (frozen_kept (hs.2.1 j hj).1 hg hr).trans (hs.2.1 j hj).2⟩, cell_kept hs.2.2 hg hr⟩) _) (ownFrom_below (Nat.le_refl _) (by omega)))
  (fun _ _ _ _ _ hs _ _ => hs)
  ⟨⟨⟨b0.cell, b0.frozen⟩, fun j hj => ⟨hrc j hj, hrf j⟩, b2.cell⟩, hB0⟩
  (fun y => { tmps := #[.int .u64 x, .int .i64 (m : Int), .pointer (some ⟨w.heap.size, 0, none⟩), undef, .slice none 0 0, .pointer (some ⟨w.heap.size + 1 + 1, 0, none⟩), .int .i64 (y.1.1 : Int), .int .i64 (m : Int), .slice (some ⟨w.heap.size + 1, 0, none⟩) m m, .slice (some ⟨w.heap.size + 1, 0, none⟩) m m, .func (.func 101) #[] #[.pointer (some ⟨w.heap.size + 1 + 1 + 1, 0, none⟩)], .int .i64 (y.1.1 : Int), .int .u8 y.1.2, undef, undef, undef, undef, undef, undef, undef, undef], defers := [] }) ?assign ?body ?done ?stop
 case assign =>
  intro l y W K hK
  gi_wp2
  exact hK
 case body =>
  rintro l pre ⟨⟨q, y⟩, hq⟩ W ⟨⟨⟨hc0, hf0⟩, hrw, hc2⟩, hB⟩ _
  have hrq := (hrw q hq).1
  have hfq := (hrw q hq).2
  have hlt : q < m := hq
  have hrwH := hid hrw
  clear hrw
  dsimp only at hq ⊢
  gi_wp2
  have far : ∀ (v1 v2 : Value) (a : Addr), a ≠ ⟨w.heap.size + 1, q, none⟩ → a ≠ ⟨w.heap.size, 0, none⟩ → ((W.setCell ⟨w.heap.size + 1, q, none⟩ v1).setCell ⟨w.heap.size, 0, none⟩ v2).cell? a = W.cell? a := fun v1 v2 a h1 h2 => by
   rw [World.cell?_setCell_other _ _ _ _ (Ne.symm h2), World.cell?_setCell_other _ _ _ _ (Ne.symm h1)]
  have near : ∀ (v1 v2 : Value), ((W.setCell ⟨w.heap.size + 1, q, none⟩ v1).setCell ⟨w.heap.size, 0, none⟩ v2).cell? ⟨w.heap.size + 1, q, none⟩ = some v1 := fun v1 v2 => by
   rw [World.cell?_setCell_other _ _ _ _ (by intro e; injection e with e _; omega)]
   exact World.cell?_setCell_same _ _ _ hrq
  have home : ∀ (v1 v2 : Value), ((W.setCell ⟨w.heap.size + 1, q, none⟩ v1).setCell ⟨w.heap.size, 0, none⟩ v2).cell? ⟨w.heap.size, 0, none⟩ = some v2 := fun v1 v2 => by
   refine World.cell?_setCell_same _ _ _ (u := .int .u64 (stF x (fsts pre)).1) ?_
   rw [World.cell?_setCell_other _ _ _ _ (by intro e; injection e with e _; omega)]
   exact hc0
  have ha : ∀ j, j ≠ q → (⟨w.heap.size + 1, j, none⟩ : Addr) ≠ ⟨w.heap.size + 1, q, none⟩ := fun j hj e => by injection e with _ e; exact hj e
  have hb : ∀ j, (⟨w.heap.size + 1, j, none⟩ : Addr) ≠ ⟨w.heap.size, 0, none⟩ := fun j e => by injection e with e; omega
  refine ⟨((KeepsOthers.setCell W _ _).trans (KeepsOthers.setCell _ _ _)).from _, ⟨fun v hv => ?_, fun j hj y1 hy1 => ?_⟩, ⟨⟨?_, ?_⟩, fun j hj => ⟨?_, ?_⟩, ?_⟩, (hB.setCell (p := ⟨w.heap.size + 1, q, none⟩) (by simp) _).setCell (p := ⟨w.heap.size, 0, none⟩) (Nat.le_refl _) _⟩
  ·rw [far _ _ _ (by intro e; injection e with e; omega) (by intro e; injection e with e; omega)]; exact hv
  ·by_cases hjq : j = q
   ·subst hjq; exact ⟨_, near _ _⟩
   exact ⟨y1, by rw [far _ _ _ (ha j hjq) (hb j)]; exact hy1⟩
  ·rw [stF_snoc]; exact home _ _
  ·rw [World.frozen?_setCell, World.frozen?_setCell]; exact hf0
  ·rw [stF_snoc]
   by_cases hjq : j = q
   ·subst hjq; rw [near]; simp [stp]
   rw [far _ _ _ (ha j hjq) (hb j), (hrwH.out j hj).1]; simp [stp, hjq]
  ·rw [World.frozen?_setCell, World.frozen?_setCell]; exact (hrwH.out j hj).2
  rw [far _ _ _ (by intro e; injection e with e; omega) (by intro e; injection e with e; omega)]; exact hc2
 case done =>
  rintro D ys W hD hys ⟨⟨⟨hc0, hf0⟩, hrw, hc2⟩, hB⟩ hK
  gi_wp2
  refine ⟨by simp, .inl ⟨_, _, rfl, run_takeDeferred hK, ?_⟩⟩
  exact ⟨_, results_tmp rfl _ _ _, rfl, hB.trans (belowK_b (w := w) (Nat.le_refl _) W D _ _ (by omega) hK rfl rfl), ys, hys, fun j hj => cell_kept (hrw j hj).1 (grownBy_putObj' W D _) (fun r e => by cases e; exact ⟨_, hK, rfl⟩)⟩
 case stop =>
  rintro D c pre W _ _ h _
  exact h.elim
theorem stF_backs (x : Int) (m : Nat) : ∀ k, k ≤ m → (stF x (qBe m k)).1 = x / 256 ^ k ∧ ∀ j, j < m → (stF x (qBe m k)).2 j = if m - k ≤ j then x / 256 ^ (m - 1 - j) % 256 else 0 := by
 intro k
 induction k with
 | zero => intro _; exact ⟨(Int.ediv_one x).symm, fun j hj => by rw [if_neg (by omega)]; rfl⟩
 | succ k ih =>
  intro hk
  obtain ⟨h1, h2⟩ := ih (by omega)
  have e : stF x (qBe m (k + 1)) = stp (stF x (qBe m k)) (m - 1 - k) := by rw [qBF]; simp [stF]
  rw [e]
  refine ⟨?_, fun j hj => ?_⟩
  ·show (stF x (qBe m k)).1 / 256 = _
   rw [h1, Int.ediv_ediv_of_nonneg (Int.pow_nonneg (by decide)), Int.pow_succ]
  show (if j = m - 1 - k then (stF x (qBe m k)).1 % 256 else (stF x (qBe m k)).2 j) = _
  by_cases hj2 : j = m - 1 - k
  ·rw [if_pos hj2, if_pos (by omega), h1, show m - 1 - j = k by omega]
  rw [if_neg hj2, h2 j hj]
  by_cases h3 : m - k ≤ j
  ·rw [if_pos h3, if_pos (by omega)]
  rw [if_neg h3, if_neg (by omega)]
theorem qCh (x : Int) (m : Nat) (zs : Array Value) (hm : m ≤ 1000)
  (hmk : ∀ w, (Instr.makeSlice 53 (.int .i64 (m : Int)) (.int .i64 (m : Int))).run Tryz.prog w = .ok (.slice (some ⟨w.heap.size, 0, none⟩) m m) (w.alloc (.cells zs 5))) (hzs : ∀ j, j < m → zs[j]? = some (.int .u8 0)) (w : World) :
  Calls Tryz.prog 46 #[.int .u64 x, .int .i64 (m : Int)] w fun e w' => e = .returned (.slice (some ⟨w.heap.size + 1, 0, none⟩) m m) ∧ Below w.heap.size w w' ∧ ∀ j, j < m → w'.cell? ⟨w.heap.size + 1, j, none⟩ = some (.int .u8 ((be x m m).getD j 0)) := by
 refine callsIn_wide.1 ((number_in Fence.wide 3 trivial trivial trivial rfl (Nat.le_refl _) x m zs hm hmk hzs w).mono ?_)
 rintro e w' ⟨he, hB, ys, hys, hc⟩
 refine ⟨he, hB, fun j hj => ?_⟩
 rw [hc j hj, hys, (stF_backs x m m (Nat.le_refl _)).2 j hj, if_pos (by omega)]
 have : (be x m m).getD j 0 = x / 2 ^ (8 * (m - 1 - j)) % 256 := by
  unfold be
  rw [List.getD_eq_getElem?_getD, List.getElem?_map, List.getElem?_range hj]; rfl
 rw [this, show (256 : Int) = 2 ^ 8 from rfl, ← Int.pow_mul]
theorem number_0 (x : Int) (w : World) : Calls Tryz.prog 46 #[.int .u64 x, .int .i64 0] w fun e w' => e = .returned (.slice (some ⟨w.heap.size + 1, 0, none⟩) 0 0) ∧ Below w.heap.size w w' ∧ ∀ j, j < 0 → w'.cell? ⟨w.heap.size + 1, j, none⟩ = some (.int .u8 ((be x 0 0).getD j 0)) :=
 qCh x 0 #[] (by decide) (fun _ => by kernel_rfl) (fun j hj => absurd hj (Nat.not_lt_zero j)) w
theorem number_1 (x : Int) (w : World) : Calls Tryz.prog 46 #[.int .u64 x, .int .i64 1] w fun e w' => e = .returned (.slice (some ⟨w.heap.size + 1, 0, none⟩) 1 1) ∧ Below w.heap.size w w' ∧ ∀ j, j < 1 → w'.cell? ⟨w.heap.size + 1, j, none⟩ = some (.int .u8 ((be x 1 1).getD j 0)) :=
 qCh x 1 #[.int .u8 0] (by decide) (fun _ => by kernel_rfl) (fun j hj => by rw [show j = 0 from Nat.lt_one_iff.1 hj]; rfl) w
theorem number_2 (x : Int) (w : World) : Calls Tryz.prog 46 #[.int .u64 x, .int .i64 2] w fun e w' => e = .returned (.slice (some ⟨w.heap.size + 1, 0, none⟩) 2 2) ∧ Below w.heap.size w w' ∧ ∀ j, j < 2 → w'.cell? ⟨w.heap.size + 1, j, none⟩ = some (.int .u8 ((be x 2 2).getD j 0)) :=
 qCh x 2 #[.int .u8 0, .int .u8 0] (by decide) (fun _ => by kernel_rfl) (fun j hj => by rcases (by omega : j = 0 ∨ j = 1) with rfl | rfl <;> rfl) w
theorem number_8 (x : Int) (w : World) : Calls Tryz.prog 46 #[.int .u64 x, .int .i64 8] w fun e w' => e = .returned (.slice (some ⟨w.heap.size + 1, 0, none⟩) 8 8) ∧ Below w.heap.size w w' ∧ ∀ j, j < 8 → w'.cell? ⟨w.heap.size + 1, j, none⟩ = some (.int .u8 ((be x 8 8).getD j 0)) :=
 qCh x 8 #[.int .u8 0, .int .u8 0, .int .u8 0, .int .u8 0, .int .u8 0, .int .u8 0, .int .u8 0, .int .u8 0] (by decide) (fun _ => by kernel_rfl) (fun j hj => by rcases (by omega : j = 0 ∨ j = 1 ∨ j = 2 ∨ j = 3 ∨ j = 4 ∨ j = 5 ∨ j = 6 ∨ j = 7) with rfl | rfl | rfl | rfl | rfl | rfl | rfl | rfl <;> rfl) w
end Num
end
section
namespace Enc
open Go.RowKit Base Val Tbl Ins Wr Num
structure InsD where
 op : Int
 n : Int
 ty : Int
 b : Int
def InsD.ok (x : InsD) : Bool := okI x.op x.n x.ty x.b
def InsD.z : InsD := ⟨0, 0, 0, 0⟩
def widN (op : Int) : Nat := (wid op).toNat
def insB (x : InsD) : List Int := (x.op % 256) :: (if x.op = 1 then (x.ty % 256) :: be x.b 8 8 else be x.n (widN x.op) (widN x.op))
def encB (l : List InsD) : List Int := l.flatMap insB
theorem qBU (l : List InsD) (k : Nat) (h : k < l.length) : encB (l.take (k + 1)) = encB (l.take k) ++ insB (l.getD k InsD.z) := by
 unfold encB; rw [qBd l k InsD.z h, List.flatMap_append]; simp
theorem widN_le (op : Int) : widN op ≤ 9 := by
 unfold widN wid; split
 ·decide
 split
 ·decide
 split <;> decide
theorem qDh (x : InsD) : (insB x).length ≤ 10 := by
 unfold insB; split
 ·simp [qBj]
 have := widN_le x.op; simp [qBj]; omega
theorem qDb (l : List InsD) : (encB l).length ≤ 10 * l.length := by
 unfold encB
 induction l with
 | nil => simp
 | cons x l ih => have := qDh x; simp only [List.flatMap_cons, List.length_append, List.length_cons]; omega
def qCc (W : World) (b o : Nat) (l : List InsD) : Prop := ∀ k x, l[k]? = some x →
 W.cell? ⟨b, o + k * 4, none⟩ = some (.int .i64 x.op) ∧ W.cell? ⟨b, o + k * 4 + 1, none⟩ = some (.int .i64 x.n) ∧ W.cell? ⟨b, o + k * 4 + 2, none⟩ = some (.int .i64 x.ty) ∧ W.cell? ⟨b, o + k * 4 + 3, none⟩ = some (.int .u64 x.b)
theorem qCc.below {W W' : World} {b o : Nat} {l : List InsD} {B : Nat} (h : qCc W b o l) (hb : b < B) (hB : Below B W W') : qCc W' b o l := fun k x hk => by
 obtain ⟨h0, h1, h2, h3⟩ := h k x hk
 exact ⟨(hB.cell (p := ⟨b, o + k * 4, none⟩) hb).trans h0, (hB.cell (p := ⟨b, o + k * 4 + 1, none⟩) hb).trans h1, (hB.cell (p := ⟨b, o + k * 4 + 2, none⟩) hb).trans h2, (hB.cell (p := ⟨b, o + k * 4 + 3, none⟩) hb).trans h3⟩
theorem qBq {W W' : World} {N0 n : Nat} {E : TypeId} {v : Value} {xs : List Value} (h : W.ownsRow N0 E 1 v n xs) (hB : Below W.heap.size W W') : W'.ownsRow N0 E 1 v n xs := by
 refine ⟨h.1, ?_⟩
 rcases h.2 with r | ⟨g, cap, cur, hv, hb, hg, r⟩
 ·exact .inl r
 exact .inr ⟨g, cap, cur, hv, hb, (hB.block g (Array.getElem?_eq_some_iff.1 hg).1).trans hg, r⟩
theorem news_of {W : World} {g m : Nat} {x : Int} (hc : ∀ j, j < m → W.cell? ⟨g, j, none⟩ = some (.int .u8 ((be x m m).getD j 0))) : ∀ j u, (bv (be x m m))[j]? = some u → W.cell? ((⟨g, 0, none⟩ : Addr).add j) = some u := fun j u hu => by
 have hadd : (⟨g, 0, none⟩ : Addr).add j = ⟨g, j, none⟩ := by unfold Addr.add; split <;> simp_all
 unfold bv at hu
 rw [List.getElem?_map] at hu
 cases hj : (be x m m)[j]? with
 | none => rw [hj] at hu; cases hu
 | some y =>
  rw [hj] at hu; cases hu
  have hlt : j < m := by have := (List.getElem?_eq_some_iff.1 hj).1; rwa [qBj] at this
  rw [hadd, hc j hlt, List.getD_eq_getElem?_getD, hj]; rfl
theorem bv_ones (bs : List Int) : ∀ u ∈ bv bs, u.oneCell' = true := by
 intro u hu; unfold bv at hu; obtain ⟨y, _, rfl⟩ := List.mem_map.1 hu; rfl
def Out (N0 : Nat) (W : World) (v : Value) (bs : List Int) : Prop := W.ownsRow N0 5 1 v bs.length (bv bs)
theorem qCT {P : Program} {w : World} {ops : Array Oper} {o : Oper} {a : Act} {K : Act → World → Prop} {Q : Exit → Act → World → Prop} {E : Prop} (hgd : o.guard = none) (s x : Operand) (t : TypeId)
  (ho : o.op = .call { callee := .builtin .append, args := #[s, x], argTypes := #[t, t] })
  (base : Nat) (e : TypeId) (i : TypeInfo) (size : Nat) (ht : P.underlying t = some (.slice e)) (hi : P.info? e = some i)
  (v : Value) (n : Nat) (xs : List Value) (hs : a.eval s = v) (hown : w.ownsRow base e size v n xs) (A : Option Addr) (c : Nat) (hx : a.eval x = .slice A 0 c)
  (h : K (a.put o.dst v) w) :
  if Region.wanted o (yielded ops a.tmps) = true then Oper.wp P o a w K Q else E := by
 have hw : Region.wanted o (yielded ops a.tmps) = true := by simp [Region.wanted, hgd]
 rw [if_pos hw]
 have hrun := qDq (P := P) (w := w) base t o.type e i size ht hi v n xs hown A c
 unfold Oper.wp
 simp [execOp, ho, resolve, invoke, builtin, hs, hx, hrun, Result.andThen]
 exact h
theorem row_of (op : Int) (h1 : 2 ≤ op) (h2 : op ≤ 17) : ∃ nm, (∀ w, (Instr.index 99 (.agg qCS) (.int .i64 op)).run Tryz.prog w = .ok (.agg #[.string nm, .int .i64 (wid op)]) w) ∧ (∀ w, (Instr.field 98 (.agg #[.string nm, .int .i64 (wid op)]) 1).run Tryz.prog w = .ok (.int .i64 (wid op)) w) := by
 have ho : op = 2 ∨ op = 3 ∨ op = 4 ∨ op = 5 ∨ op = 6 ∨ op = 7 ∨ op = 8 ∨ op = 9 ∨ op = 10 ∨ op = 11 ∨ op = 12 ∨ op = 13 ∨ op = 14 ∨ op = 15 ∨ op = 16 ∨ op = 17 := by omega
 rcases ho with rfl | rfl | rfl | rfl | rfl | rfl | rfl | rfl | rfl | rfl | rfl | rfl | rfl | rfl | rfl | rfl
 ·exact ⟨⟨#[103, 101, 116]⟩, fun _ => by kernel_rfl, fun _ => by kernel_rfl⟩
 ·exact ⟨⟨#[112, 117, 116]⟩, fun _ => by kernel_rfl, fun _ => by kernel_rfl⟩
 ·exact ⟨⟨#[108, 111, 97, 100]⟩, fun _ => by kernel_rfl, fun _ => by kernel_rfl⟩
 ·exact ⟨⟨#[115, 116, 111, 114, 101]⟩, fun _ => by kernel_rfl, fun _ => by kernel_rfl⟩
 ·exact ⟨⟨#[117, 110]⟩, fun _ => by kernel_rfl, fun _ => by kernel_rfl⟩
 ·exact ⟨⟨#[98, 105, 110]⟩, fun _ => by kernel_rfl, fun _ => by kernel_rfl⟩
 ·exact ⟨⟨#[106, 117, 109, 112]⟩, fun _ => by kernel_rfl, fun _ => by kernel_rfl⟩
 ·exact ⟨⟨#[117, 110, 108, 101, 115, 115]⟩, fun _ => by kernel_rfl, fun _ => by kernel_rfl⟩
 ·exact ⟨⟨#[99, 97, 108, 108]⟩, fun _ => by kernel_rfl, fun _ => by kernel_rfl⟩
 ·exact ⟨⟨#[114, 101, 116, 117, 114, 110]⟩, fun _ => by kernel_rfl, fun _ => by kernel_rfl⟩
 ·exact ⟨⟨#[115, 104, 111, 119]⟩, fun _ => by kernel_rfl, fun _ => by kernel_rfl⟩
 ·exact ⟨⟨#[102, 97, 105, 108]⟩, fun _ => by kernel_rfl, fun _ => by kernel_rfl⟩
 ·exact ⟨⟨#[105, 110, 112, 117, 116]⟩, fun _ => by kernel_rfl, fun _ => by kernel_rfl⟩
 ·exact ⟨⟨#[116, 114, 121]⟩, fun _ => by kernel_rfl, fun _ => by kernel_rfl⟩
 ·exact ⟨⟨#[117, 110, 116, 114, 121]⟩, fun _ => by kernel_rfl, fun _ => by kernel_rfl⟩
 exact ⟨⟨#[100, 114, 111, 112]⟩, fun _ => by kernel_rfl, fun _ => by kernel_rfl⟩
theorem okI_mid_of (op n t b : Int) (h : okI op n t b = true) (h1 : op ≠ 1) : 2 ≤ op ∧ op ≤ 17 ∧ t = 0 ∧ b = 0 ∧ 0 ≤ n ∧ n ≤ 65535 ∧ (wid op = 0 ∨ wid op = 1 ∨ wid op = 2) := by
 have hw : wid op = 0 ∨ wid op = 1 ∨ wid op = 2 := by
  unfold wid; rw [if_neg h1]; split
  ·right; left; rfl
  split
  ·right; right; rfl
  left; rfl
 have hm : most op ≤ 65535 := by
  unfold most; split
  ·omega
  split <;> omega
 unfold okI at h
 split at h
 ·cases h
 rename_i h2
 split at h
 ·cases h
 rename_i h3
 simp only [Decidable.not_not] at h3
 exact ⟨by omega, by omega, h3.1, h3.2.1, h3.2.2.1, by omega, hw⟩
theorem encode_some (b o c : Nat) (l : List InsD) (w : World) (h : qCc w b o l) (hb : b < w.heap.size) (hl : l.length ≤ 4096) (hu : ∀ x ∈ l, U64 x.b) :
  Calls Tryz.prog 19 #[.slice (some ⟨b, o, none⟩) l.length c] w fun e w' => Below w.heap.size w w' ∧
   (((∀ x ∈ l, x.ok = true) ∧ ∃ v, e = .returned (.tuple #[v, .int .i64 0]) ∧ Out w.heap.size w' v (encB l)) ∨ (∃ x ∈ l, x.ok = false) ∧ e = .returned (.tuple #[.slice none 0 0, .int .i64 51])) := by
 have H := hid h
 have HU := hid hu
 clear h hu
 go_enter Tryz.func19, Tryz.ntmps19
 go_wp2
 go_loopw [4, 12] (fun v i wr => ∃ k : Nat, k ≤ l.length ∧ i = .int .i64 (k : Int) ∧ Hid ((∀ x ∈ l.take k, x.ok = true) ∧ Out w.heap.size wr v (encB (l.take k)) ∧ Below w.heap.size w wr)) (fun _ i _ => (l.length - intOf i).toNat)
 case atStart => exact ⟨0, Nat.zero_le _, rfl, hid ⟨by simp, by simpa [encB, Out, bv] using World.ownsRow_nil _ _ _ _, Below.refl _ _⟩⟩
 case round =>
  obtain ⟨k, hk, rfl, hst⟩ := hrel
  by_cases hlt : k < l.length
  rotate_left
  ·obtain rfl : k = l.length := by omega
   go_wp2
   go_ret2
   refine ⟨hst.out.2.2, .inl ⟨?_, _, rfl, ?_⟩⟩
   ·have := hst.out.1; rwa [List.take_length] at this
   have := hst.out.2.1; rwa [List.take_length] at this
  obtain ⟨x, hx⟩ : ∃ x, l[k]? = some x := ⟨l[k], List.getElem?_eq_getElem hlt⟩
  obtain ⟨c0, c1, c2, c3⟩ := (H.out.below hb hst.out.2.2) k x hx
  have hU := HU.out x (List.mem_of_getElem? hx)
  have HR := hid (fun W => qBY x.op x.n x.ty x.b hU W)
  obtain ⟨op, n, ty, bb⟩ := x
  unfold insV at HR
  dsimp only at c0 c1 c2 c3 HR
  go_wp2_with fail
  refine (HR.out _).mono ?_
  rintro e w1 ⟨rfl, hb1⟩
  have hin := List.mem_of_getElem? hx
  have HX := hid hx
  have hBr : Below wr.heap.size wr w1 := ((Below.refl _ _).alloc (Nat.le_refl _) _).trans (hb1.mono (by simp))
  have hs1 : wr.heap.size < w1.heap.size := by have := hb1.size; simp at this; omega
  have bx : ∀ i, w1.cell? ⟨wr.heap.size, i, none⟩ = (#[Value.int .i64 op, .int .i64 n, .int .i64 ty, .int .u64 bb])[i]? := fun i => by
   rw [hb1.cell (p := ⟨wr.heap.size, i, none⟩) (by simp), World.cell?_alloc_at _ _ _ _ rfl]
  have d0 : w1.cell? ⟨wr.heap.size, 0, none⟩ = some (.int .i64 op) := bx 0
  have d1 : w1.cell? ⟨wr.heap.size, 1, none⟩ = some (.int .i64 n) := bx 1
  have d2 : w1.cell? ⟨wr.heap.size, 2, none⟩ = some (.int .i64 ty) := bx 2
  have d3 : w1.cell? ⟨wr.heap.size, 3, none⟩ = some (.int .u64 bb) := bx 3
  clear bx c0 c1 c2 c3 hU HR hx
  cases hok : okI op n ty bb with
  | false =>
   go_wp2
   go_ret2
   exact ⟨hst.out.2.2.trans (hBr.mono hst.out.2.2.size), .inr ⟨⟨_, hin, hok⟩, rfl⟩⟩
  | true =>
   have hO := hst.out.2.1
   have hO1 : Out w.heap.size w1 u4 (encB (l.take k)) := qBq hO hBr
   have hpv : ∀ g, u4.ownBlock = some g → g < wr.heap.size := fun g hg => (hO.lt g hg).2
   have hlen : (encB (l.take k)).length ≤ 40960 := by have := qDb (l.take k); simp at this; omega
   obtain ⟨i0, hi, hz0, hz1, hz2⟩ := info_parts infoU8
   have HO1 := hid hO1
   have HPV := hid hpv
   have HL := hid hlen
   have HB := hid hb1
   have HBr := hid hBr
   have D := hid (And.intro d0 (And.intro d1 (And.intro d2 d3)))
   have hN0 := hst.out.2.2.size
   clear hO hO1 hpv hlen hb1 hBr d1 d2 d3
   have hown := (HO1.out).alloc (.cells #[.int .u8 (op % 256)] 5)
   go_wp2_with (at_builtin; refine wpList_append_lies _ rfl _ _ 53 rfl w.heap.size 5 i0 (.int .u8 0) 1 1 Tryz.underlying53 hi hz0 hz1 hz2 rfl (by decide) _ _ _ rfl hown ⟨w1.heap.size, 0, none⟩ 1 1 [.int .u8 (op % 256)] rfl rfl ?c1 ?c2 ?c0 ?c3 ?c4 ?c5 _ rfl ?_)
   case c2 => simp [Value.oneCell']
   case c3 => have := HL.out; unfold maxLen; omega
   case c4 => have := HL.out; omega
   ·exact cell_one_new _ _ _
   ·omega
   ·simp; omega
   intro g cap w2 hown2 hgrow hgg hlt2
   have hfar : some wr.heap.size ≠ u4.ownBlock := fun e => by have := HPV.out _ e.symm; omega
   have ex : ∀ i v, w1.cell? ⟨wr.heap.size, i, none⟩ = some v → w2.cell? ⟨wr.heap.size, i, none⟩ = some v := fun i v hv =>
    hgrow.cell ((World.cell?_alloc_past _ _ _ hs1).trans hv) hfar
   have e0 := ex 0 _ D.out.1
   have e1 := ex 1 _ D.out.2.1
   have e2 := ex 2 _ D.out.2.2.1
   have e3 := ex 3 _ D.out.2.2.2
   have hs2 : w1.heap.size < w2.heap.size := by have := hgrow.size; simp at this; omega
   have hB2 : Below w.heap.size w w2 := ((hst.out.2.2.trans (HBr.out.mono hN0)).alloc (by omega) _).grown hgrow (by simp; omega) (fun j hj => (HO1.out.lt j hj).1)
   have hg2 : g ≠ wr.heap.size := by
    rcases hgg with e | e
    ·have := HPV.out _ e; omega
    omega
   have hX2 : w2.ownsRow w.heap.size 5 1 (.slice (some ⟨g, 0, none⟩) ((encB (l.take k)).length + 1) cap) ((encB (l.take k)).length + 1) (bv (encB (l.take k) ++ [op % 256])) := by rw [qB5]; exact hown2
   obtain ⟨n1, hn1⟩ : ∃ n1, n1 = (encB (l.take k)).length + 1 := ⟨_, rfl⟩
   obtain ⟨bs1, hbs1⟩ : ∃ bs1, bs1 = encB (l.take k) ++ [op % 256] := ⟨_, rfl⟩
   rw [← hn1, ← hbs1] at hX2
   rw [← hn1]
   have HX2 := hid hX2
   have HB2 := hid hB2
   have HN1 := hid hn1
   have HBS := hid hbs1
   have hbx : wr.heap.size < w2.heap.size := by omega
   generalize wr.heap.size = q at *
   clear hown2 hgrow hgg hown hfar ex D HB HBr HO1 HPV hN0 hs1 hs2 d0 hX2 hB2 hn1 hbs1
   by_cases h1 : op = 1
   ·subst h1
    have hm1 : n1 + 1 ≤ maxLen := by have := HL.out; have := HN1.out; unfold maxLen; omega
    have hm2 : n1 + 1 + 8 ≤ maxLen := by have := HL.out; have := HN1.out; unfold maxLen; omega
    have hm3 : (n1 + 1) * 1 ≤ 140737488355328 := by have := HL.out; have := HN1.out; omega
    have hm4 : (n1 + 1 + 8) * 1 ≤ 140737488355328 := by have := HL.out; have := HN1.out; omega
    have hws := HB2.out.size
    have hqg : some q ≠ (Value.slice (some ⟨g, 0, none⟩) n1 cap).ownBlock := by simp [Value.ownBlock]; exact fun e => hg2 e.symm
    go_wp2_with fail
    go_region_held3 (fun W => W.cell? ⟨q, 2, none⟩ = some (.int .i64 ty) ∧ W.cell? ⟨q, 3, none⟩ = some (.int .u64 bb))
     (first | go_keep | exact ⟨(hBq.cell (p := ⟨q, 2, none⟩) hq3).trans f2, (hBq.cell (p := ⟨q, 3, none⟩) hq3).trans f3⟩ | exact ⟨f2, f3⟩ | exact ⟨f2', f3'⟩)
     (first
       | (refine step_append_lies _ rfl _ _ 53 rfl w.heap.size 5 i0 (.int .u8 0) 1 1 Tryz.underlying53 hi hz0 hz1 hz2 rfl (by decide) _ _ _ (by first | rfl | simp [Act.eval]) ((qBq HX2.out (Below.refl _ _).drew).alloc (.cells #[.int .u8 (ty % 256)] 5)) ⟨w2.heap.size, 0, none⟩ 1 1 [.int .u8 (ty % 256)] (by first | rfl | simp [Act.eval]) rfl (cell_one_new _ _ _) (by simp [Value.oneCell']) (by omega) hm1 hm3 (by simp; omega) _ rfl ?_; intro g3 cap3 w3 hown3 hgrow3 hgg3 hlt3;
          have f2 : w3.cell? ⟨q, 2, none⟩ = some (.int .i64 ty) := hgrow3.cell ((World.cell?_alloc_past _ _ _ hbx).trans e2) hqg;
          have f3 : w3.cell? ⟨q, 3, none⟩ = some (.int .u64 bb) := hgrow3.cell ((World.cell?_alloc_past _ _ _ hbx).trans e3) hqg;
          have hq3 : q < w3.heap.size := World.block_lt_of_cell? w3 _ f2;
          have hg3 : g3 ≠ q := by { rcases hgg3 with e | e
                                    · simp [Value.ownBlock] at e; omega
                                    · simp at e; omega };
          have hB3 : Below w.heap.size w w3 := (HB2.out.drew.alloc (by simp; omega) _).grown hgrow3 (by simp; omega) (fun j hj => (HX2.out.lt j hj).1))
       | (go_at_call 46; refine (number_8 bb _).mono ?_; rintro e w4 ⟨rfl, hBq, hc4⟩)
       | (refine step_append_lies _ rfl _ _ 53 rfl w.heap.size 5 i0 (.int .u8 0) 1 1 Tryz.underlying53 hi hz0 hz1 hz2 rfl (by decide) _ _ _ (by first | rfl | simp [Act.eval]) (qBq hown3 hBq) ⟨w3.heap.size + 1, 0, none⟩ 8 8 (bv (be bb 8 8)) (by first | rfl | simp [Act.eval]) (by rw [qCu, qBj]) (news_of hc4) (bv_ones _) (by omega) hm2 hm4 (Nat.le_trans hB3.size hBq.size) _ rfl ?_; intro g5 cap5 w5 hown5 hgrow5 hgg5 hlt5;
          have hq5 : some q ≠ (Value.slice (some ⟨g3, 0, none⟩) (n1 + 1) cap3).ownBlock := by { simp [Value.ownBlock]; exact fun e => hg3 e.symm };
          have f2' : w5.cell? ⟨q, 2, none⟩ = some (.int .i64 ty) := hgrow5.cell ((hBq.cell (p := ⟨q, 2, none⟩) hq3).trans f2) hq5;
          have f3' : w5.cell? ⟨q, 3, none⟩ = some (.int .u64 bb) := hgrow5.cell ((hBq.cell (p := ⟨q, 3, none⟩) hq3).trans f3) hq5))
    have hB5 : Below w.heap.size w w5 := ((hB3.trans (hBq.mono hB3.size)).grown hgrow5 (Nat.le_trans hB3.size hBq.size) (fun j hj => (hown3.lt j hj).1))
    have H5 : Hid (Out w.heap.size w5 (.slice (some ⟨g5, 0, none⟩) (n1 + 1 + 8) cap5) (encB (l.take (k + 1)))) := hid (by
      have e : encB (l.take (k + 1)) = bs1 ++ [ty % 256] ++ be bb 8 8 := by
        rw [qBU l k hlt, show l.getD k InsD.z = ⟨1, n, ty, bb⟩ from by rw [List.getD_eq_getElem?_getD, HX.out]; rfl, HBS.out]; simp [insB]
      have e2 : (encB (l.take (k + 1))).length = n1 + 1 + 8 := by rw [e, HBS.out, HN1.out]; simp [qBj]
      unfold Out
      rw [e2, e, qB5, qB5]
      exact hown5)
    have HB5 := hid hB5
    clear hB5 hown5 hgrow5 hgg5 hlt5 hc4 hBq hB3 hg3 hq3 f2 f3 hown3 hgrow3 hgg3 hlt3 f2' f3' hq5
    go_wp2
    go_roundw
    case rel =>
     refine ⟨k + 1, by omega, by simp, hid ⟨fun y hy => ?_, H5.out, HB5.out⟩⟩
     rw [qBd l k InsD.z hlt, show l.getD k InsD.z = ⟨1, n, ty, bb⟩ from by rw [List.getD_eq_getElem?_getD, HX.out]; rfl] at hy
     rcases List.mem_append.1 hy with hy | hy
     ·exact hst.out.1 y hy
     obtain rfl := List.mem_singleton.1 hy; exact hok
    case measure => simp [intOf]; omega
   have h1' : (op == 1) = false := beq_eq_false_iff_ne.mpr h1
   obtain ⟨hop2, hop17, rfl, rfl, hn0, hnm, hwd⟩ := okI_mid_of op n ty bb hok h1
   obtain ⟨nm, hix, hif⟩ := row_of op hop2 hop17
   have hws := HB2.out.size
   have hqg : some q ≠ (Value.slice (some ⟨g, 0, none⟩) n1 cap).ownBlock := by simp [Value.ownBlock]; exact fun e => hg2 e.symm
   have hins : insB ⟨op, n, 0, 0⟩ = (op % 256) :: be n (widN op) (widN op) := by simp [insB, h1]
   have hgd : l.getD k InsD.z = ⟨op, n, 0, 0⟩ := by rw [List.getD_eq_getElem?_getD, HX.out]; rfl
   have HINS := hid hins
   have HGD := hid hgd
   clear hins hgd
   rcases hwd with hwd | hwd | hwd
   ·rw [hwd] at hix hif
    have HWN : Hid (widN op = 0) := hid (by unfold widN; rw [hwd]; rfl)
    have hm2 : n1 + 0 ≤ maxLen := by have := HL.out; have := HN1.out; unfold maxLen; omega
    have hm4 : (n1 + 0) * 1 ≤ 140737488355328 := by have := HL.out; have := HN1.out; omega
    clear hwd
    have hwr : IntKind.u64.wrap n = n := by simp [IntKind.wrap, IntKind.bits, IntKind.signed]; omega
    go_wp2_with fail
    go_region_held3 (fun W => W.cell? ⟨q, 0, none⟩ = some (.int .i64 op) ∧ W.cell? ⟨q, 1, none⟩ = some (.int .i64 n))
     (first | go_keep | exact ⟨e0, e1⟩ | exact ⟨(hBt.cell (p := ⟨q, 0, none⟩) hbx).trans e0, (hBt.cell (p := ⟨q, 1, none⟩) hbx).trans e1⟩ | exact ⟨(hBu.cell (p := ⟨q, 0, none⟩) hbx).trans e0, (hBu.cell (p := ⟨q, 1, none⟩) hbx).trans e1⟩ | exact ⟨f0', f1'⟩)
     (first
       | (go_at_call 45; refine (qBy _).mono ?_; rintro e w3 ⟨rfl, hBr⟩;
          have hBt : Below w2.heap.size w2 w3 := (Below.refl _ _).drew.trans hBr)
       | (go_at_call 46; refine (number_0 n _).mono ?_; rintro e w4 ⟨rfl, hBq, hc4⟩;
          have hBu : Below w2.heap.size w2 w4 := hBt.trans (hBq.mono hBt.size))
       | (refine qCT rfl _ _ 53 rfl w.heap.size 5 i0 1 Tryz.underlying53 hi _ _ _ (by first | rfl | simp [Act.eval]) (qBq HX2.out hBu) _ _ (by first | rfl | simp [Act.eval]) ?_))
    have H5 : Hid (Out w.heap.size w4 (.slice (some ⟨g, 0, none⟩) n1 cap) (encB (l.take (k + 1)))) := hid (by
      have e : encB (l.take (k + 1)) = bs1 := by
        rw [qBU l k hlt, HGD.out, HINS.out, HWN.out, HBS.out]; simp [be]
      have e2 : (encB (l.take (k + 1))).length = n1 := by rw [e, HBS.out, HN1.out]; simp
      unfold Out
      rw [e2, e]
      exact qBq HX2.out hBu)
    have HB5 : Hid (Below w.heap.size w w4) := hid (HB2.out.trans (hBu.mono hws))
    clear hc4 hBq hBu hBt hBr
    go_wp2
    go_roundw
    case rel =>
     refine ⟨k + 1, by omega, by simp, hid ⟨fun y hy => ?_, H5.out, HB5.out⟩⟩
     rw [qBd l k InsD.z hlt, HGD.out] at hy
     rcases List.mem_append.1 hy with hy | hy
     ·exact hst.out.1 y hy
     obtain rfl := List.mem_singleton.1 hy; exact hok
    case measure => simp [intOf]; omega
   ·rw [hwd] at hix hif
    have HWN : Hid (widN op = 1) := hid (by unfold widN; rw [hwd]; rfl)
    have hm2 : n1 + 1 ≤ maxLen := by have := HL.out; have := HN1.out; unfold maxLen; omega
    have hm4 : (n1 + 1) * 1 ≤ 140737488355328 := by have := HL.out; have := HN1.out; omega
    clear hwd
    have hwr : IntKind.u64.wrap n = n := by simp [IntKind.wrap, IntKind.bits, IntKind.signed]; omega
    go_wp2_with fail
    go_region_held3 (fun W => W.cell? ⟨q, 0, none⟩ = some (.int .i64 op) ∧ W.cell? ⟨q, 1, none⟩ = some (.int .i64 n))
     (first | go_keep | exact ⟨e0, e1⟩ | exact ⟨(hBt.cell (p := ⟨q, 0, none⟩) hbx).trans e0, (hBt.cell (p := ⟨q, 1, none⟩) hbx).trans e1⟩ | exact ⟨(hBu.cell (p := ⟨q, 0, none⟩) hbx).trans e0, (hBu.cell (p := ⟨q, 1, none⟩) hbx).trans e1⟩ | exact ⟨f0', f1'⟩)
     (first
       | (go_at_call 45; refine (qBy _).mono ?_; rintro e w3 ⟨rfl, hBr⟩;
          have hBt : Below w2.heap.size w2 w3 := (Below.refl _ _).drew.trans hBr)
       | (go_at_call 46; refine (number_1 n _).mono ?_; rintro e w4 ⟨rfl, hBq, hc4⟩;
          have hBu : Below w2.heap.size w2 w4 := hBt.trans (hBq.mono hBt.size))
       | (refine step_append_lies _ rfl _ _ 53 rfl w.heap.size 5 i0 (.int .u8 0) 1 1 Tryz.underlying53 hi hz0 hz1 hz2 rfl (by decide) _ _ _ (by first | rfl | simp [Act.eval]) (qBq HX2.out hBu) ⟨w3.heap.size + 1, 0, none⟩ 1 1 (bv (be n 1 1)) (by first | rfl | simp [Act.eval]) (by rw [qCu, qBj]) (news_of hc4) (bv_ones _) (by omega) hm2 hm4 (Nat.le_trans hws hBu.size) _ rfl ?_; intro g5 cap5 w5 hown5 hgrow5 hgg5 hlt5;
          have f0' : w5.cell? ⟨q, 0, none⟩ = some (.int .i64 op) := hgrow5.cell ((hBu.cell (p := ⟨q, 0, none⟩) hbx).trans e0) hqg;
          have f1' : w5.cell? ⟨q, 1, none⟩ = some (.int .i64 n) := hgrow5.cell ((hBu.cell (p := ⟨q, 1, none⟩) hbx).trans e1) hqg))
    have H5 : Hid (Out w.heap.size w5 (.slice (some ⟨g5, 0, none⟩) (n1 + 1) cap5) (encB (l.take (k + 1)))) := hid (by
      have e : encB (l.take (k + 1)) = bs1 ++ be n 1 1 := by
        rw [qBU l k hlt, HGD.out, HINS.out, HWN.out, HBS.out]; simp
      have e2 : (encB (l.take (k + 1))).length = n1 + 1 := by rw [e, HBS.out, HN1.out]; simp [qBj]
      unfold Out
      rw [e2, e, qB5]
      exact hown5)
    have HB5 : Hid (Below w.heap.size w w5) := hid ((HB2.out.trans (hBu.mono hws)).grown hgrow5 (Nat.le_trans hws hBu.size) (fun j hj => (HX2.out.lt j hj).1))
    clear hown5 hgrow5 hgg5 hlt5 hc4 hBq hBu hBt hBr f0' f1'
    go_wp2
    go_roundw
    case rel =>
     refine ⟨k + 1, by omega, by simp, hid ⟨fun y hy => ?_, H5.out, HB5.out⟩⟩
     rw [qBd l k InsD.z hlt, HGD.out] at hy
     rcases List.mem_append.1 hy with hy | hy
     ·exact hst.out.1 y hy
     obtain rfl := List.mem_singleton.1 hy; exact hok
    case measure => simp [intOf]; omega
   rw [hwd] at hix hif
   have HWN : Hid (widN op = 2) := hid (by unfold widN; rw [hwd]; rfl)
   have hm2 : n1 + 2 ≤ maxLen := by have := HL.out; have := HN1.out; unfold maxLen; omega
   have hm4 : (n1 + 2) * 1 ≤ 140737488355328 := by have := HL.out; have := HN1.out; omega
   clear hwd
   have hwr : IntKind.u64.wrap n = n := by simp [IntKind.wrap, IntKind.bits, IntKind.signed]; omega
   go_wp2_with fail
   go_region_held3 (fun W => W.cell? ⟨q, 0, none⟩ = some (.int .i64 op) ∧ W.cell? ⟨q, 1, none⟩ = some (.int .i64 n))
    (first | go_keep | exact ⟨e0, e1⟩ | exact ⟨(hBt.cell (p := ⟨q, 0, none⟩) hbx).trans e0, (hBt.cell (p := ⟨q, 1, none⟩) hbx).trans e1⟩ | exact ⟨(hBu.cell (p := ⟨q, 0, none⟩) hbx).trans e0, (hBu.cell (p := ⟨q, 1, none⟩) hbx).trans e1⟩ | exact ⟨f0', f1'⟩)
    (first
      | (go_at_call 45; refine (qBy _).mono ?_; rintro e w3 ⟨rfl, hBr⟩;
         have hBt : Below w2.heap.size w2 w3 := (Below.refl _ _).drew.trans hBr)
      | (go_at_call 46; refine (number_2 n _).mono ?_; rintro e w4 ⟨rfl, hBq, hc4⟩;
         have hBu : Below w2.heap.size w2 w4 := hBt.trans (hBq.mono hBt.size))
      | (refine step_append_lies _ rfl _ _ 53 rfl w.heap.size 5 i0 (.int .u8 0) 1 1 Tryz.underlying53 hi hz0 hz1 hz2 rfl (by decide) _ _ _ (by first | rfl | simp [Act.eval]) (qBq HX2.out hBu) ⟨w3.heap.size + 1, 0, none⟩ 2 2 (bv (be n 2 2)) (by first | rfl | simp [Act.eval]) (by rw [qCu, qBj]) (news_of hc4) (bv_ones _) (by omega) hm2 hm4 (Nat.le_trans hws hBu.size) _ rfl ?_; intro g5 cap5 w5 hown5 hgrow5 hgg5 hlt5;
         have f0' : w5.cell? ⟨q, 0, none⟩ = some (.int .i64 op) := hgrow5.cell ((hBu.cell (p := ⟨q, 0, none⟩) hbx).trans e0) hqg;
         have f1' : w5.cell? ⟨q, 1, none⟩ = some (.int .i64 n) := hgrow5.cell ((hBu.cell (p := ⟨q, 1, none⟩) hbx).trans e1) hqg))
   have H5 : Hid (Out w.heap.size w5 (.slice (some ⟨g5, 0, none⟩) (n1 + 2) cap5) (encB (l.take (k + 1)))) := hid (by
     have e : encB (l.take (k + 1)) = bs1 ++ be n 2 2 := by
       rw [qBU l k hlt, HGD.out, HINS.out, HWN.out, HBS.out]; simp
     have e2 : (encB (l.take (k + 1))).length = n1 + 2 := by rw [e, HBS.out, HN1.out]; simp [qBj]
     unfold Out
     rw [e2, e, qB5]
     exact hown5)
   have HB5 : Hid (Below w.heap.size w w5) := hid ((HB2.out.trans (hBu.mono hws)).grown hgrow5 (Nat.le_trans hws hBu.size) (fun j hj => (HX2.out.lt j hj).1))
   clear hown5 hgrow5 hgg5 hlt5 hc4 hBq hBu hBt hBr f0' f1'
   go_wp2
   go_roundw
   case rel =>
    refine ⟨k + 1, by omega, by simp, hid ⟨fun y hy => ?_, H5.out, HB5.out⟩⟩
    rw [qBd l k InsD.z hlt, HGD.out] at hy
    rcases List.mem_append.1 hy with hy | hy
    ·exact hst.out.1 y hy
    obtain rfl := List.mem_singleton.1 hy; exact hok
   case measure => simp [intOf]; omega
theorem encode_nil (w : World) : Calls Tryz.prog 19 #[.slice none 0 0] w fun e w' => e = .returned (.tuple #[.slice none 0 0, .int .i64 0]) ∧ w' = w := by
 go_enter Tryz.func19, Tryz.ntmps19
 go_wp2
 go_loopw [4, 12] (fun v i wr => v = .slice none 0 0 ∧ i = .int .i64 0 ∧ wr = w) (fun _ _ _ => 0)
 case atStart => exact ⟨rfl, rfl, rfl⟩
 case round =>
  obtain ⟨rfl, rfl, rfl⟩ := hrel
  go_wp2
  go_ret2
  exact ⟨rfl, rfl⟩
theorem encode_big (A : Option Addr) (n c : Nat) (h : 4096 < n) (w : World) : Calls Tryz.prog 19 #[.slice A n c] w fun e w' => e = .returned (.tuple #[.slice none 0 0, .int .i64 3]) ∧ w' = w := by
 have h' : decide (4096 < (n : Int)) = true := by simp; omega
 go_enter Tryz.func19, Tryz.ntmps19
 go_wp2
 go_ret2
 exact ⟨rfl, rfl⟩
def InsRow (W : World) (v : Value) (l : List InsD) : Prop := (v = .slice none 0 0 ∧ l = []) ∨ ∃ b o c, v = .slice (some ⟨b, o, none⟩) l.length c ∧ b < W.heap.size ∧ qCc W b o l
theorem encode_any (v : Value) (l : List InsD) (w : World) (h : InsRow w v l) (hu : ∀ x ∈ l, U64 x.b) :
  Calls Tryz.prog 19 #[v] w fun e w' => Below w.heap.size w w' ∧
   (4096 < l.length ∧ e = .returned (.tuple #[.slice none 0 0, .int .i64 3]) ∨ l.length ≤ 4096 ∧ (((∀ x ∈ l, x.ok = true) ∧ ∃ r, e = .returned (.tuple #[r, .int .i64 0]) ∧ Out w.heap.size w' r (encB l)) ∨ (∃ x ∈ l, x.ok = false) ∧ e = .returned (.tuple #[.slice none 0 0, .int .i64 51]))) := by
 rcases h with ⟨rfl, rfl⟩ | ⟨b, o, c, rfl, hb, hc⟩
 ·exact (encode_nil w).mono fun e w' ⟨he, hw⟩ => ⟨hw ▸ Below.refl _ _, .inr ⟨by simp, .inl ⟨by simp, _, he, by simpa [encB, Out, bv] using World.ownsRow_nil _ _ _ _⟩⟩⟩
 ·by_cases hl : 4096 < l.length
  ·exact (encode_big _ _ c hl w).mono fun e w' ⟨he, hw⟩ => ⟨hw ▸ Below.refl _ _, .inl ⟨hl, he⟩⟩
  ·exact (encode_some b o c l w hc hb (by omega) hu).mono fun e w' ⟨hB, hr⟩ => ⟨hB, .inr ⟨by omega, hr⟩⟩
end Enc
end
section
namespace Q
open Go.RowKit YA YC YB
open Val Ins Enc
theorem enc_zero (A : Option Addr) (c : Nat) (w : World) : Calls Tryz.prog 19 #[.slice A 0 c] w fun e w' => e = .returned (.tuple #[.slice none 0 0, .int .i64 0]) ∧ w' = w := by
 go_enter Tryz.func19, Tryz.ntmps19
 go_wp2
 go_loopw [4, 12] (fun v i wr => v = .slice none 0 0 ∧ i = .int .i64 0 ∧ wr = w) (fun _ _ _ => 0)
 case atStart => exact ⟨rfl, rfl, rfl⟩
 case round =>
  obtain ⟨rfl, rfl, rfl⟩ := hrel
  go_wp2
  go_ret2
  exact ⟨rfl, rfl⟩
def toD (x : S51) : InsD := ⟨x.f0, x.f1, x.f2.f0, x.f2.f1⟩
def encS (l : List S51) : List Int × Int := if 4096 < l.length then ([], 3) else if l.all okS = true then (encB (l.map toD), 0) else ([], 51)
def qAL.f (l0 : List (S51)) : Option (List Int × Int) := if l0.all u64S = true then some (encS l0) else none
theorem out_R (N0 : Nat) (W : World) (v : Value) (bs : List Int) (h : Out N0 W v bs) : Kd.R (Kd.int .u8) 5 W N0 (fun _ => True) v bs := by
 exact Kd.R_of_own h (fun _ _ => trivial)
theorem enc_pf (A : Option Addr) (c : Nat) (l : List S51) (w : World) (hr : Kd.C k51 w A l.length l) (hu : l.all u64S = true) :
  Calls Tryz.prog 19 #[.slice A l.length c] w fun e w' => ∃ v0_ : Value, e = .returned (.tuple #[v0_, .int .i64 (encS l).2]) ∧ Kd.R (Kd.int .u8) 5 w' w.heap.size (fun _ => True) v0_ (encS l).1 ∧ Below w.heap.size w w' := by
 rcases Nat.eq_zero_or_pos l.length with h0 | hp
 ·obtain rfl := List.length_eq_zero_iff.1 h0
  exact (enc_zero A c w).mono fun e w' ⟨he, hw⟩ => ⟨_, he, Kd.R_nil _ _ _ _ _, hw ▸ Below.refl _ _⟩
 ·obtain ⟨ad, had, hcell⟩ := hr.2.2 hp
  subst had
  obtain ⟨b, o, s⟩ := ad
  have hat : ∀ j x, l[j]? = some x → ∀ i u, [Value.int .i64 x.f0, .int .i64 x.f1, .int .i64 x.f2.f0, .int .u64 x.f2.f1][i]? = some u → w.cell? (Addr.add ⟨b, o, s⟩ (j * 4 + i)) = some u := fun j x hj i u hu => by
   obtain ⟨cs, _, hK, hcc⟩ := hcell j x hj
   obtain rfl := k51_open hK
   exact hcc i u hu
  obtain ⟨x0, hx0⟩ : ∃ x, l[0]? = some x := ⟨l[0], List.getElem?_eq_getElem hp⟩
  have hz := hat 0 x0 hx0 0 _ rfl
  have hlt := World.block_lt_of_cell? w _ hz
  obtain rfl : s = none := by
   cases s with
   | none => rfl
   | some k =>
    simp only [Addr.add, World.cell?] at hz
    split at hz <;> simp at hz
  have hadd : ∀ j, Addr.add ⟨b, o, none⟩ j = ⟨b, o + j, none⟩ := fun j => by by_cases hj : j = 0 <;> simp [Addr.add, hj]
  have hrow : InsRow w (.slice (some ⟨b, o, none⟩) l.length c) (l.map toD) := .inr ⟨b, o, c, by rw [List.length_map], by rw [hadd] at hlt; exact hlt, fun k x hx => by
    rw [List.getElem?_map] at hx
    obtain ⟨y, hy, rfl⟩ := Option.map_eq_some_iff.1 hx
    have g := hat k y hy
    refine ⟨?_, ?_, ?_, ?_⟩
    · have := g 0 _ rfl; rwa [hadd] at this
    · have := g 1 _ rfl; rwa [hadd, ← Nat.add_assoc] at this
    · have := g 2 _ rfl; rwa [hadd, ← Nat.add_assoc] at this
    · have := g 3 _ rfl; rwa [hadd, ← Nat.add_assoc] at this⟩
  refine (encode_any _ (l.map toD) w hrow (fun x hx => by
    obtain ⟨y, hy, rfl⟩ := List.mem_map.1 hx
    exact u64S_U (List.all_eq_true.1 hu y hy))).mono ?_
  rintro e w' ⟨hb, h⟩
  rw [List.length_map] at h
  unfold encS
  rcases h with ⟨h, he⟩ | ⟨h, ⟨ho, r, he, hout⟩ | ⟨⟨x, hx, hf⟩, he⟩⟩
  ·rw [if_pos h]
   exact ⟨_, he, Kd.R_nil _ _ _ _ _, hb⟩
  ·have ha : l.all okS = true := List.all_eq_true.2 fun y hy => ho (toD y) (List.mem_map_of_mem hy)
   rw [if_neg (by omega), if_pos ha]
   exact ⟨r, he, out_R _ _ _ _ hout, hb⟩
  ·obtain ⟨y, hy, rfl⟩ := List.mem_map.1 hx
   have ha : ¬ l.all okS = true := fun e => by
    have h1 := List.all_eq_true.1 e y hy
    have h2 : okS y = false := hf
    rw [h1] at h2; cases h2
   rw [if_neg (by omega), if_neg ha]
   exact ⟨_, he, Kd.R_nil _ _ _ _ _, hb⟩
theorem qAL.calls (A0 : Option Addr) (c0 : Nat) (l0 : List (S51)) (r1 : List Int) (r2 : Int) (w : World) (hr0 : Kd.C k51 w A0 l0.length l0) (hc0 : l0.length ≤ c0) (h : qAL.f l0 = some (r1, r2)) :
  Calls Tryz.prog 19 #[.slice A0 l0.length c0] w fun e w' => ∃ v0_ : Value, e = .returned (.tuple #[v0_, .int .i64 r2]) ∧ Kd.R (Kd.int .u8) 5 w' w.heap.size (fun _ => True) v0_ r1 ∧ Below w.heap.size w w' := by
 unfold qAL.f at h
 split at h
 ·rename_i hu
  injection h with h
  have hv := enc_pf A0 c0 l0 w hr0 hu
  rw [h] at hv
  exact hv
 ·cases h
end Q
end
section
namespace Q
open Go.RowKit YA YC YB
open Val Ins Tbl
theorem small_1 (w : World) : Calls Tryz.prog 125 #[.int .i64 1] w fun e w' => e = .returned (.string ⟨#[49]⟩) ∧ Below w.heap.size w w' := by
 go_enter Tryz.func125, Tryz.ntmps125
 go_wp2
 go_ret
 exact ⟨rfl, Below.refl _ _⟩
theorem iformat_1 (w : World) : Calls Tryz.prog 108 #[.int .i64 1, .int .i64 10] w fun e w' => e = .returned (.string ⟨#[49]⟩) ∧ Below w.heap.size w w' := by
 go_enter Tryz.func108, Tryz.ntmps108
 go_wp2_with (go_at_call 125; refine (small_1 _).mono ?_; rintro e w1 ⟨rfl, hb⟩)
 go_ret
 exact ⟨rfl, hb⟩
theorem format_1 (w : World) : Calls Tryz.prog 102 #[.int .i64 1, .int .i64 10] w fun e w' => e = .returned (.string ⟨#[49]⟩) ∧ Below w.heap.size w w' := by
 go_enter Tryz.func102, Tryz.ntmps102
 go_wp2_with (go_at_call 108; refine (iformat_1 _).mono ?_; rintro e w1 ⟨rfl, hb⟩)
 go_ret
 exact ⟨rfl, hb⟩
theorem decimal_1 (w : World) : Calls Tryz.prog 72 #[.int .i64 1] w fun e w' => e = .returned (.string ⟨#[49]⟩) ∧ Below w.heap.size w w' := by
 go_enter Tryz.func72, Tryz.ntmps72
 go_wp2_with (go_at_call 102; refine (format_1 _).mono ?_; rintro e w1 ⟨rfl, hb⟩)
 go_ret
 exact ⟨rfl, hb⟩
theorem show_1 (w : World) : Calls Tryz.prog 47 #[.agg #[.int .i64 1, .int .u64 1]] w fun e w' => e = .returned (.string ⟨#[49]⟩) ∧ Below w.heap.size w w' := by
 go_enter Tryz.func47, Tryz.ntmps47
 go_wp2_with (go_at_call 72; refine (decimal_1 _).mono ?_; rintro e w1 ⟨rfl, hb⟩)
 go_ret
 exact ⟨rfl, ((Below.refl _ _).alloc (Nat.le_refl _) _).trans (hb.mono (by simp))⟩
theorem al_ {W : World} {a : Addr} {v : Value} (O : Obj) (h : W.cell? a = some v) : (W.alloc O).cell? a = some v := (((Below.refl W.heap.size W).alloc (Nat.le_refl _) O).cell (World.block_lt_of_cell? W a h)).trans h
theorem farQ_ {W : World} {p : Addr} {v : Value} (hc : W.cell? p = some v) (c : Addr) (u : Value) (hne : p.block ≠ c.block) : (W.setCell c u).cell? p = some v :=
 (World.cell?_setCell_other _ _ _ _ (fun e => hne (congrArg Addr.block e.symm))).trans hc
theorem far2 {W : World} {b o g : Nat} {v u0 u1 : Value} (h : W.cell? ⟨b, o, none⟩ = some v) (hne : b ≠ g) : ((W.setCell ⟨g, 0, none⟩ u0).setCell ⟨g, 1, none⟩ u1).cell? ⟨b, o, none⟩ = some v := farQ_ (farQ_ h _ _ hne) _ _ hne
theorem row_push (w : World) : (Instr.index 99 (.agg qCS) (.int .i64 1)).run Tryz.prog w = .ok (.agg #[.string ⟨#[112, 117, 115, 104]⟩, .int .i64 9]) w := by kernel_rfl
theorem text_1 (w : World) : Calls Tryz.prog 20 #[.agg #[.int .i64 1, .int .i64 0, .int .i64 1, .int .u64 1]] w fun e w' => e = .returned (.string ⟨#[112, 117, 115, 104, 32, 49]⟩) ∧ Below w.heap.size w w' := by
 have hR := fun w => qBY 1 0 1 1 (by unfold U64; decide) w
 unfold insV at hR
 rw [show okI 1 0 1 1 = true from by decide] at hR
 have HR := am hR
 clear hR
 have HX := am row_push
 go_enter Tryz.func20, Tryz.ntmps20
 go_wp2_with (go_at_call 18; refine (HR.out _).mono ?_; rintro e w1 ⟨rfl, hb1⟩)
 have hB1 : Below w.heap.size w w1 := ((Below.refl _ _).alloc (Nat.le_refl _) _).trans (hb1.mono (by simp))
 have hs : w.heap.size < w1.heap.size := Nat.lt_of_lt_of_le (by simp) hb1.size
 have c0 : w1.cell? ⟨w.heap.size, 0, none⟩ = some (.int .i64 1) := (hb1.cell (p := ⟨w.heap.size, 0, none⟩) (by simp)).trans (by rw [World.cell?_alloc_at _ _ _ _ rfl]; rfl)
 have c2 : w1.cell? ⟨w.heap.size, 2, none⟩ = some (.int .i64 1) := (hb1.cell (p := ⟨w.heap.size, 2, none⟩) (by simp)).trans (by rw [World.cell?_alloc_at _ _ _ _ rfl]; rfl)
 have c3 : w1.cell? ⟨w.heap.size, 3, none⟩ = some (.int .u64 1) := (hb1.cell (p := ⟨w.heap.size, 3, none⟩) (by simp)).trans (by rw [World.cell?_alloc_at _ _ _ _ rfl]; rfl)
 clear hb1
 have hix := HX.out
 refine wp_region_noPanic ?_
 refine wp_region_held_drew (S := fun W' => W'.cell? ⟨w.heap.size, 0, none⟩ = some (.int .i64 1) ∧ W'.cell? ⟨w.heap.size, 2, none⟩ = some (.int .i64 1) ∧ W'.cell? ⟨w.heap.size, 3, none⟩ = some (.int .u64 1)) (by kernel_rfl) ⟨c0, c2, c3⟩ (fun hHeld => ?_)
 refine wpAnyH_take (i := 1) (oi := _) (v := ?_) rfl (by kernel_rfl) (by kernel_rfl) (by kernel_rfl) (fun _ _ _ h => h) (Or.inl ⟨by rfl, ?_⟩) (by assumption) ?_
 rotate_left
 ·intro w hSw; (skip); go_simp <;> with_reducible rfl
 simp only [Act.put, List.getElem_toArray, List.getElem_cons_zero, List.getElem_cons_succ, List.setIfInBounds_toArray, List.set_cons_zero, List.set_cons_succ]
 refine wpAnyH_take (i := 2) (oi := _) (v := ?_) rfl (by kernel_rfl) (by kernel_rfl) (by kernel_rfl) (fun _ _ _ h => h) (Or.inl ⟨by rfl, ?_⟩) (by assumption) ?_
 rotate_left
 ·intro w hSw; (skip); go_simp <;> with_reducible rfl
 simp only [Act.put, List.getElem_toArray, List.getElem_cons_zero, List.getElem_cons_succ, List.setIfInBounds_toArray, List.set_cons_zero, List.set_cons_succ]
 refine wpAnyH_ready (rs := [0, 4]) (by kernel_rfl) (by simp) ?_
 refine AllReadyH.cons (o := _) rfl (fun K hK => ?_) (AllReadyH.cons (o := _) rfl (fun K hK => ?_) AllReadyH.nil)
 ·go_simp
  go_at_call 45
  refine (qBy w1.drew).mono ?_
  rintro e w2 ⟨rfl, hbj⟩
  have d0 : w2.cell? ⟨w.heap.size, 0, none⟩ = some (.int .i64 1) := (hbj.cell (p := ⟨w.heap.size, 0, none⟩) hs).trans c0
  have d2 : w2.cell? ⟨w.heap.size, 2, none⟩ = some (.int .i64 1) := (hbj.cell (p := ⟨w.heap.size, 2, none⟩) hs).trans c2
  have d3 : w2.cell? ⟨w.heap.size, 3, none⟩ = some (.int .u64 1) := (hbj.cell (p := ⟨w.heap.size, 3, none⟩) hs).trans c3
  have HB2 := am (hB1.drew.trans (hbj.mono hB1.size))
  clear hbj
  refine hK.out _ _ ⟨d0, d2, d3⟩ (fun hHeld => ?_)
  clear hK K
  skip
  refine wpAnyH_take (i := 3) (oi := _) (v := ?_) rfl (by kernel_rfl) (by kernel_rfl) (by kernel_rfl) (fun _ _ _ h => h) (Or.inl ⟨by rfl, ?_⟩) (by assumption) ?_
  rotate_left
  ·intro w hSw; (skip); go_simp <;> with_reducible rfl
  simp only [Act.put, List.getElem_toArray, List.getElem_cons_zero, List.getElem_cons_succ, List.setIfInBounds_toArray, List.set_cons_zero, List.set_cons_succ]
  refine wpAnyH_ready (rs := [4]) (by kernel_rfl) (by simp) ?_
  refine AllReadyH.cons (o := _) rfl (fun K hK => ?_) ?_
  ·go_simp
   refine hK.out _ _ ⟨al_ _ d0, al_ _ d2, al_ _ d3⟩ (fun hHeld => ?_)
   clear hK K
   skip
   refine wpAnyH_ready (rs := [5]) (by kernel_rfl) (by simp) ?_
   refine AllReadyH.cons (o := _) rfl (fun K hK => ?_) ?_
   ·go_simp
    refine hK.out _ _ ⟨al_ _ d0, al_ _ d2, al_ _ d3⟩ (fun hHeld => ?_)
    clear hK K
    skip
    refine wpAnyH_done (by kernel_rfl) ?_ _
    refine NoPanic.normal ?_
    obtain ⟨W2, hW2⟩ : ∃ W2, W2 = w2.alloc (.cells #[.string ⟨#[112, 117, 115, 104]⟩, .int .i64 9] 98) := ⟨_, rfl⟩
    obtain ⟨G2, hG2⟩ : ∃ G, G = w2.heap.size := ⟨_, rfl⟩
    have r0 : W2.cell? ⟨G2, 0, none⟩ = some (.string ⟨#[112, 117, 115, 104]⟩) := by rw [hW2, hG2]; exact by rw [World.cell?_alloc_at _ _ _ _ rfl]; rfl
    have e0 : W2.cell? ⟨w.heap.size, 0, none⟩ = some (.int .i64 1) := by rw [hW2]; exact al_ _ d0
    have e2 : W2.cell? ⟨w.heap.size, 2, none⟩ = some (.int .i64 1) := by rw [hW2]; exact al_ _ d2
    have e3 : W2.cell? ⟨w.heap.size, 3, none⟩ = some (.int .u64 1) := by rw [hW2]; exact al_ _ d3
    have HBW : qAi (Below w.heap.size w W2) := ⟨by rw [hW2]; exact HB2.out.alloc HB2.out.size _⟩
    rw [← hW2, ← hG2]
    clear hW2 hG2 d0 d2 d3 c0 c2 c3 HB2 hB1 hs
    clear hHeld
    go_wp2_with fail
    clear e0
    go_region_held3 (fun W => W.cell? ⟨G2, 0, none⟩ = some (.string ⟨#[112, 117, 115, 104]⟩) ∧ W.cell? ⟨w.heap.size, 2, none⟩ = some (.int .i64 1) ∧ W.cell? ⟨w.heap.size, 3, none⟩ = some (.int .u64 1))
     (first | go_keep | exact ⟨(hb4.cell (World.block_lt_of_cell? _ _ r0)).trans r0, (hb4.cell (World.block_lt_of_cell? _ _ e2)).trans e2, (hb4.cell (World.block_lt_of_cell? _ _ e3)).trans e3⟩)
     ((go_at_call 47; refine (show_1 _).mono ?_; rintro e w4 ⟨rfl, hb4⟩))
    go_wp2_with fail
    go_ret
    exact ⟨rfl, HBW.out.drew.trans (hb4.mono HBW.out.size)⟩
   exact AllReadyH.nil
  exact AllReadyH.nil
 go_simp
 refine hK.out _ _ ⟨al_ _ c0, al_ _ c2, al_ _ c3⟩ (fun hHeld => ?_)
 clear hK K
 skip
 refine wpAnyH_ready (rs := [0]) (by kernel_rfl) (by simp) ?_
 refine AllReadyH.cons (o := _) rfl (fun K hK => ?_) ?_
 ·go_simp
  go_at_call 45
  refine (qBy ((w1.alloc (.cells #[.string ⟨#[]⟩, .int .i64 0] 98)).drew)).mono ?_
  rintro e w2 ⟨rfl, hbj⟩
  have hsa : w.heap.size < ((w1.alloc (.cells #[.string ⟨#[]⟩, .int .i64 0] 98)).drew).heap.size := by simp; omega
  have d0 : w2.cell? ⟨w.heap.size, 0, none⟩ = some (.int .i64 1) := (hbj.cell (p := ⟨w.heap.size, 0, none⟩) hsa).trans (al_ _ c0)
  have d2 : w2.cell? ⟨w.heap.size, 2, none⟩ = some (.int .i64 1) := (hbj.cell (p := ⟨w.heap.size, 2, none⟩) hsa).trans (al_ _ c2)
  have d3 : w2.cell? ⟨w.heap.size, 3, none⟩ = some (.int .u64 1) := (hbj.cell (p := ⟨w.heap.size, 3, none⟩) hsa).trans (al_ _ c3)
  have bZ : w2.heap[w1.heap.size]? = some (.cells #[.string ⟨#[]⟩, .int .i64 0] 98 (0, 0)) := qAs (show ((w1.alloc (.cells #[.string ⟨#[]⟩, .int .i64 0] 98)).drew).heap[w1.heap.size]? = some (.cells #[.string ⟨#[]⟩, .int .i64 0] 98 (0, 0)) from qAF w1 _) hbj
  have z0 := (qAc bZ 0).trans rfl
  have z1 := (qAc bZ 1).trans rfl
  have zf0 := qAm bZ 0
  have zf1 := qAm bZ 1
  have HB2 := am (((hB1.alloc hB1.size (.cells #[.string ⟨#[]⟩, .int .i64 0] 98)).drew).trans (hbj.mono (by have := hB1.size; simp; omega)))
  clear hbj
  refine hK.out _ _ ⟨d0, d2, d3⟩ (fun hHeld => ?_)
  clear hK K
  skip
  refine wpAnyH_take (i := 3) (oi := _) (v := ?_) rfl (by kernel_rfl) (by kernel_rfl) (by kernel_rfl) (fun _ _ _ h => h) (Or.inl ⟨by rfl, ?_⟩) (by assumption) ?_
  rotate_left
  ·intro w hSw; (skip); go_simp <;> with_reducible rfl
  simp only [Act.put, List.getElem_toArray, List.getElem_cons_zero, List.getElem_cons_succ, List.setIfInBounds_toArray, List.set_cons_zero, List.set_cons_succ]
  refine wpAnyH_ready (rs := [5]) (by kernel_rfl) (by simp) ?_
  refine AllReadyH.cons (o := _) rfl (fun K hK => ?_) ?_
  ·go_simp
   refine hK.out _ _ ⟨far2 d0 (Nat.ne_of_lt hs), far2 d2 (Nat.ne_of_lt hs), far2 d3 (Nat.ne_of_lt hs)⟩ (fun hHeld => ?_)
   clear hK K
   skip
   refine wpAnyH_done (by kernel_rfl) ?_ _
   refine NoPanic.normal ?_
   obtain ⟨W2, hW2⟩ : ∃ W2, W2 = (w2.setCell ⟨w1.heap.size, 0, none⟩ (.string ⟨#[112, 117, 115, 104]⟩)).setCell ⟨w1.heap.size, 1, none⟩ (.int .i64 9) := ⟨_, rfl⟩
   obtain ⟨G2, hG2⟩ : ∃ G, G = w1.heap.size := ⟨_, rfl⟩
   have r0 : W2.cell? ⟨G2, 0, none⟩ = some (.string ⟨#[112, 117, 115, 104]⟩) := by rw [hW2, hG2]; exact (qAc (qAS (qAS bZ 0 (.string ⟨#[112, 117, 115, 104]⟩) rfl) 1 (.int .i64 9) rfl) 0).trans rfl
   have e0 : W2.cell? ⟨w.heap.size, 0, none⟩ = some (.int .i64 1) := by rw [hW2]; exact far2 d0 (Nat.ne_of_lt hs)
   have e2 : W2.cell? ⟨w.heap.size, 2, none⟩ = some (.int .i64 1) := by rw [hW2]; exact far2 d2 (Nat.ne_of_lt hs)
   have e3 : W2.cell? ⟨w.heap.size, 3, none⟩ = some (.int .u64 1) := by rw [hW2]; exact far2 d3 (Nat.ne_of_lt hs)
   have HBW : qAi (Below w.heap.size w W2) := ⟨by rw [hW2]; exact qA8 (qA8 HB2.out hB1.size) hB1.size⟩
   rw [← hW2, ← hG2]
   clear hW2 hG2 d0 d2 d3 c0 c2 c3 HB2 hB1 hs
   clear hHeld
   go_wp2_with fail
   clear e0
   go_region_held3 (fun W => W.cell? ⟨G2, 0, none⟩ = some (.string ⟨#[112, 117, 115, 104]⟩) ∧ W.cell? ⟨w.heap.size, 2, none⟩ = some (.int .i64 1) ∧ W.cell? ⟨w.heap.size, 3, none⟩ = some (.int .u64 1))
    (first | go_keep | exact ⟨(hb4.cell (World.block_lt_of_cell? _ _ r0)).trans r0, (hb4.cell (World.block_lt_of_cell? _ _ e2)).trans e2, (hb4.cell (World.block_lt_of_cell? _ _ e3)).trans e3⟩)
    ((go_at_call 47; refine (show_1 _).mono ?_; rintro e w4 ⟨rfl, hb4⟩))
   go_wp2_with fail
   go_ret
   exact ⟨rfl, HBW.out.drew.trans (hb4.mono HBW.out.size)⟩
  exact AllReadyH.nil
 exact AllReadyH.nil
def qAN.f (a0_0 : Int) (a0_1 : Int) (a0_2 : Int) (a0_3 : Int) : Option ByteArray := if a0_0 = 1 ∧ a0_1 = 0 ∧ a0_2 = 1 ∧ a0_3 = 1 then some ⟨#[112, 117, 115, 104, 32, 49]⟩ else none
theorem qAN.calls (a0_0 : Int) (a0_1 : Int) (a0_2 : Int) (a0_3 : Int) (r : ByteArray) (w : World) (h : qAN.f a0_0 a0_1 a0_2 a0_3 = some r) :
  Calls Tryz.prog 20 #[.agg #[.int .i64 a0_0, .int .i64 a0_1, .int .i64 a0_2, .int .u64 a0_3]] w fun e w' => e = .returned (.string r) ∧ Below w.heap.size w w' := by
 unfold qAN.f at h
 split at h
 ·rename_i hs
  obtain ⟨rfl, rfl, rfl, rfl⟩ := hs
  injection h with h
  subst h
  exact text_1 w
 ·cases h
end Q
end
section
namespace Q
open Go.RowKit YA YC YB
attribute [local go_sem] max2_int min2_int max_two min_two max_three min_three max_four min_four
def qAp.l0 : Nat → List (S50) → List (S51) → Int → Option ((List (S51)))
 | 0, _, _, _ => none
 | k + 1, x0, x3, x4 => if x4 < (x0.length : Int) then (if 0 ≤ x4 then (if x3.length < 4398046511104 then (qAp.l0 k x0 (x3 ++ [(⟨(qAu x0 x4).f0, (qAu x0 x4).f1, (⟨(qAu x0 x4).f2.f0, (qAu x0 x4).f2.f1⟩ : S48)⟩ : S51)]) (wrap64 (x4 + 1))) else (none)) else (none)) else (some x3)
def qAp.f (k : Nat) (l0 : List (S50)) : Option ((List (S51))) := qAp.l0 k l0 ([] : List (S51)) 0
def qAp.T5 : Bool × List (List Nat × List Nat) := (true, [([], []), ([], []), ([], []), ([1, 2], [1, 2]), ([3], [3]), ([4], [4]), ([], []), ([], []), ([6, 7], [6, 7]), ([8], [8]), ([9], [9]), ([], []), ([], []), ([11, 12], [11, 12]), ([13], [13]), ([14], [14]), ([5, 10, 15], [5, 10, 15]), ([16], [16]), ([0, 17], [0, 17]), ([18, 18, 0, 1, 2, 3, 4, 5, 6, 7, 8, 9, 10, 11, 12, 13, 14, 15, 16, 17, 18], [0, 18])])
def qAp.B5 : List Nat := [0, 0, 0, 6, 14, 30, 0, 0, 192, 448, 960, 0, 0, 6144, 14336, 30720, 65534, 131070, 262143, 524287]
theorem qAp.tab5 : rtab .any (opsOf Tryz.f32 5) = qAp.T5 := by kernel_rfl
theorem qAp.bits5 : qCq qAp.T5.2 qAp.B5 = true := by kernel_rfl
theorem qAp.calls (k : Nat) (A0 : Option Addr) (c0 : Nat) (l0 : List (S50)) (r : List (S51)) (w : World) (hr0 : Kd.C k50 w A0 l0.length l0) (hc0 : l0.length ≤ c0) (h : qAp.f k l0 = some r) :
  Calls Tryz.prog 32 #[.slice A0 l0.length c0] w fun e w' => ∃ v0_ : Value, e = .returned (v0_) ∧ Kd.R k51 51 w' w.heap.size (fun _ => True) v0_ r ∧ Below w.heap.size w w' := by
 have a6 := am hr0
 clear hr0 hc0
 have HB := am (Below.refl w.heap.size w)
 have H : (qAp.l0 k l0 ([] : List (S51)) 0) = some r := h
 clear h
 have H' := am H
 clear H
 go_enter Tryz.func32, Tryz.ntmps32
 go_wp2
 go_loopg [3, 4] k (fun kq v3 v4 w' => ∃ (aV : List (S51)) (aA : Int), v4 = .int .i64 aA ∧ qAi (qAp.l0 kq l0 aV aA = some r) ∧ qAi (kq ≤ k) ∧ qAi (Kd.R k51 51 w' w.heap.size (fun _ => True) v3 aV) ∧ qAi (Below w.heap.size w w'))
 case atStart => exact ⟨(([] : List (S51))), (0), (by (rfl)), H', ⟨Nat.le_refl _⟩, ⟨by (exact Kd.R_nil _ _ _ _ _)⟩, ⟨by repeat ((with_reducible (exact HB.o)))⟩⟩
 case round =>
  clear H'
  obtain ⟨aV, aA, rfl, HA, ag, aU, HB⟩ := hrel
  cases gk with
  | zero => exact absurd HA.o (by simp [qAp.l0])
  | succ k1 =>
   have H := HA.o
   clear HA
   simp only [qAp.l0] at H
   by_cases c2 : aA < (l0.length : Int)
   rotate_left
   ·rw [if_neg c2] at H
    replace c2 := d0 c2
    obtain rfl := Option.some.inj H
    go_wp2
    go_ret
    exact ⟨_, by (rfl), by exact aU.o, by repeat ((with_reducible (exact HB.o)))⟩
   rw [if_pos c2] at H
   replace c2 := d1 c2
   obtain ⟨c3, H⟩ := gd H
   replace c3 := d1 c3
   obtain ⟨c4, H⟩ := gd H
   have a7 := am c4
   clear c4
   obtain ⟨a5, aW⟩ : ∃ y_ : List (S51), y_ = (aV ++ [(⟨(qAu l0 aA).f0, (qAu l0 aA).f1, (⟨(qAu l0 aA).f2.f0, (qAu l0 aA).f2.f1⟩ : S48)⟩ : S51)]) := ⟨_, rfl⟩
   replace H : (qAp.l0 k1 l0 a5 (wrap64 (aA + 1))) = some r := by (rw [aW]; with_reducible exact H)
   have a1 := am aW
   clear aW
   have H' := am H
   clear H
   try go_wp2
   have n0_ := am (Kd.R_drew aU.o)
   have n1_ := am (qAd HB.o)
   clear aU
   clear HB
   have aU := n0_
   have HB := n1_
   clear n0_ n1_
   have aX : 0 ≤ (aA : Int) := of_decide_eq_true (by (with_reducible assumption))
   have aY : aA < (l0.length : Int) := of_decide_eq_true (by (with_reducible assumption))
   obtain ⟨aC, a9, aD, aE, aG, aH⟩ := qBE a6.o aA aX aY
   have hw149_3 := aH
   have hw149_2 := aG
   have hw149_1 := aE
   have hw149_0 := aD
   cases a9
   replace aD := (HB.o.cell (World.block_lt_of_cell? w _ aD)).trans aD
   replace aE := (HB.o.cell (World.block_lt_of_cell? w _ aE)).trans aE
   replace aG := (HB.o.cell (World.block_lt_of_cell? w _ aG)).trans aG
   replace aH := (HB.o.cell (World.block_lt_of_cell? w _ aH)).trans aH
   replace aX := eq_true aX
   replace aY := eq_true aY
   have ac : 0 ≤ (aA : Int) := of_decide_eq_true (by (with_reducible assumption))
   have ae : aA < (l0.length : Int) := of_decide_eq_true (by (with_reducible assumption))
   obtain ⟨a3, aa, aI, aJ, aK, aM⟩ := qBE a6.o aA ac ae
   have hw150_3 := aM
   have hw150_2 := aK
   have hw150_1 := aJ
   have hw150_0 := aI
   obtain rfl : aC = a3 := (by injection aa)
   replace aI := (HB.o.cell (World.block_lt_of_cell? w _ aI)).trans aI
   replace aJ := (HB.o.cell (World.block_lt_of_cell? w _ aJ)).trans aJ
   replace aK := (HB.o.cell (World.block_lt_of_cell? w _ aK)).trans aK
   replace aM := (HB.o.cell (World.block_lt_of_cell? w _ aM)).trans aM
   have ad : 0 ≤ (aA : Int) := of_decide_eq_true (by (with_reducible assumption))
   have af : aA < (l0.length : Int) := of_decide_eq_true (by (with_reducible assumption))
   obtain ⟨a4, ab, aN, aQ, aR, aT⟩ := qBE a6.o aA ad af
   have hw151_3 := aT
   have hw151_2 := aR
   have hw151_1 := aQ
   have hw151_0 := aN
   obtain rfl : aC = a4 := (by injection ab)
   replace aN := (HB.o.cell (World.block_lt_of_cell? w _ aN)).trans aN
   replace aQ := (HB.o.cell (World.block_lt_of_cell? w _ aQ)).trans aQ
   replace aR := (HB.o.cell (World.block_lt_of_cell? w _ aR)).trans aR
   replace aT := (HB.o.cell (World.block_lt_of_cell? w _ aT)).trans aT
   refine start_ (n := 20) (S := fun w' => w'.cell? (aC.add ((aA).toNat * 4)) = some (.int .i64 ((qAu l0 aA).f0)) ∧ w'.cell? ⟨(aC.add ((aA).toNat * 4)).block, (aC.add ((aA).toNat * 4)).off + 1, none⟩ = some (.int .i64 ((qAu l0 aA).f1)) ∧ w'.cell? ⟨(aC.add ((aA).toNat * 4)).block, (aC.add ((aA).toNat * 4)).off + 2, none⟩ = some (.int .i64 ((qAu l0 aA).f2.f0)) ∧ w'.cell? ⟨(aC.add ((aA).toNat * 4)).block, (aC.add ((aA).toNat * 4)).off + 3, none⟩ = some (.int .u64 ((qAu l0 aA).f2.f1)) ∧ w'.cell? (aC.add ((aA).toNat * 4)) = some (.int .i64 ((qAu l0 aA).f0)) ∧ w'.cell? ⟨(aC.add ((aA).toNat * 4)).block, (aC.add ((aA).toNat * 4)).off + 1, none⟩ = some (.int .i64 ((qAu l0 aA).f1)) ∧ w'.cell? ⟨(aC.add ((aA).toNat * 4)).block, (aC.add ((aA).toNat * 4)).off + 2, none⟩ = some (.int .i64 ((qAu l0 aA).f2.f0)) ∧ w'.cell? ⟨(aC.add ((aA).toNat * 4)).block, (aC.add ((aA).toNat * 4)).off + 3, none⟩ = some (.int .u64 ((qAu l0 aA).f2.f1)) ∧ w'.cell? (aC.add ((aA).toNat * 4)) = some (.int .i64 ((qAu l0 aA).f0)) ∧ w'.cell? ⟨(aC.add ((aA).toNat * 4)).block, (aC.add ((aA).toNat * 4)).off + 1, none⟩ = some (.int .i64 ((qAu l0 aA).f1)) ∧ w'.cell? ⟨(aC.add ((aA).toNat * 4)).block, (aC.add ((aA).toNat * 4)).off + 2, none⟩ = some (.int .i64 ((qAu l0 aA).f2.f0)) ∧ w'.cell? ⟨(aC.add ((aA).toNat * 4)).block, (aC.add ((aA).toNat * 4)).off + 3, none⟩ = some (.int .u64 ((qAu l0 aA).f2.f1))) (ds := []) (mK 20 0) (by kernel_rfl) rfl rfl ⟨((HB.o.cell (World.block_lt_of_cell? w _ hw149_0)).trans hw149_0), ((HB.o.cell (World.block_lt_of_cell? w _ hw149_1)).trans hw149_1), ((HB.o.cell (World.block_lt_of_cell? w _ hw149_2)).trans hw149_2), ((HB.o.cell (World.block_lt_of_cell? w _ hw149_3)).trans hw149_3), ((HB.o.cell (World.block_lt_of_cell? w _ hw150_0)).trans hw150_0), ((HB.o.cell (World.block_lt_of_cell? w _ hw150_1)).trans hw150_1), ((HB.o.cell (World.block_lt_of_cell? w _ hw150_2)).trans hw150_2), ((HB.o.cell (World.block_lt_of_cell? w _ hw150_3)).trans hw150_3), ((HB.o.cell (World.block_lt_of_cell? w _ hw151_0)).trans hw151_0), ((HB.o.cell (World.block_lt_of_cell? w _ hw151_1)).trans hw151_1), ((HB.o.cell (World.block_lt_of_cell? w _ hw151_2)).trans hw151_2), ((HB.o.cell (World.block_lt_of_cell? w _ hw151_3)).trans hw151_3)⟩ (fun hHeld => ?_); refine qBM qAp.tab5 qAp.bits5 (fun HT_ HW_ => ?_)
   generalize wr.drew = w5 at aU HB aD aE aG aH aI aJ aK aM aN aQ aR aT hHeld ⊢
   refine pu 0 11 (mK 20 1) (qAj HT_.o (by kernel_rfl)) ?_
   refine pu 1 12 (mK 20 3) (qAj HT_.o (by kernel_rfl)) ?_
   refine pu 2 13 (mK 20 7) (qAj HT_.o (by kernel_rfl)) ?_
   refine pu 3 14 (mK 20 15) (qAj HT_.o (by kernel_rfl)) ?_
   refine pu 4 15 (mK 20 31) (qAj HT_.o (by kernel_rfl)) ?_
   refine pu 6 17 (mK 20 95) (qAj HT_.o (by kernel_rfl)) ?_
   refine pu 7 18 (mK 20 223) (qAj HT_.o (by kernel_rfl)) ?_
   refine pu 8 19 (mK 20 479) (qAj HT_.o (by kernel_rfl)) ?_
   refine pu 9 20 (mK 20 991) (qAj HT_.o (by kernel_rfl)) ?_
   refine pu 11 22 (mK 20 3039) (qAj HT_.o (by kernel_rfl)) ?_
   refine pu 12 23 (mK 20 7135) (qAj HT_.o (by kernel_rfl)) ?_
   refine pu 13 24 (mK 20 15327) (qAj HT_.o (by kernel_rfl)) ?_
   refine pu 14 25 (mK 20 31711) (qAj HT_.o (by kernel_rfl)) ?_
   refine tk 5 16 (mK 20 31743) (qAK HT_.o HW_.o (by kernel_rfl)) hHeld ?_
   refine tk 10 21 (mK 20 32767) (qAK HT_.o HW_.o (by kernel_rfl)) hHeld ?_
   refine tk 15 26 (mK 20 65535) (qAK HT_.o HW_.o (by kernel_rfl)) hHeld ?_
   refine pu 16 27 (mK 20 131071) (qAj HT_.o (by kernel_rfl)) ?_
   refine one_ (i := 17) (N := some 28) (mK 20 262143) rfl rfl (qCL HT_.o (by kernel_rfl)) (by decide) (fun K hK => ?_)
   refine value_ (w1 := ?_) (v := ?_) (by rfl) rfl ?_ ?_
   rotate_left 2
   ·go_simp
    constructor
    ·rfl
    rfl
   refine hK.o _ _ ⟨(World.cell?_alloc_lt _ _ _ (World.block_lt_of_cell? _ _ (((HB.o.cell (World.block_lt_of_cell? w _ hw149_0)).trans hw149_0)))).trans (((HB.o.cell (World.block_lt_of_cell? w _ hw149_0)).trans hw149_0)), (World.cell?_alloc_lt _ _ _ (World.block_lt_of_cell? _ _ (((HB.o.cell (World.block_lt_of_cell? w _ hw149_1)).trans hw149_1)))).trans (((HB.o.cell (World.block_lt_of_cell? w _ hw149_1)).trans hw149_1)), (World.cell?_alloc_lt _ _ _ (World.block_lt_of_cell? _ _ (((HB.o.cell (World.block_lt_of_cell? w _ hw149_2)).trans hw149_2)))).trans (((HB.o.cell (World.block_lt_of_cell? w _ hw149_2)).trans hw149_2)), (World.cell?_alloc_lt _ _ _ (World.block_lt_of_cell? _ _ (((HB.o.cell (World.block_lt_of_cell? w _ hw149_3)).trans hw149_3)))).trans (((HB.o.cell (World.block_lt_of_cell? w _ hw149_3)).trans hw149_3)), (World.cell?_alloc_lt _ _ _ (World.block_lt_of_cell? _ _ (((HB.o.cell (World.block_lt_of_cell? w _ hw150_0)).trans hw150_0)))).trans (((HB.o.cell (World.block_lt_of_cell? w _ hw150_0)).trans hw150_0)), (World.cell?_alloc_lt _ _ _ (World.block_lt_of_cell? _ _ (((HB.o.cell (World.block_lt_of_cell? w _ hw150_1)).trans hw150_1)))).trans (((HB.o.cell (World.block_lt_of_cell? w _ hw150_1)).trans hw150_1)), (World.cell?_alloc_lt _ _ _ (World.block_lt_of_cell? _ _ (((HB.o.cell (World.block_lt_of_cell? w _ hw150_2)).trans hw150_2)))).trans (((HB.o.cell (World.block_lt_of_cell? w _ hw150_2)).trans hw150_2)), (World.cell?_alloc_lt _ _ _ (World.block_lt_of_cell? _ _ (((HB.o.cell (World.block_lt_of_cell? w _ hw150_3)).trans hw150_3)))).trans (((HB.o.cell (World.block_lt_of_cell? w _ hw150_3)).trans hw150_3)), (World.cell?_alloc_lt _ _ _ (World.block_lt_of_cell? _ _ (((HB.o.cell (World.block_lt_of_cell? w _ hw151_0)).trans hw151_0)))).trans (((HB.o.cell (World.block_lt_of_cell? w _ hw151_0)).trans hw151_0)), (World.cell?_alloc_lt _ _ _ (World.block_lt_of_cell? _ _ (((HB.o.cell (World.block_lt_of_cell? w _ hw151_1)).trans hw151_1)))).trans (((HB.o.cell (World.block_lt_of_cell? w _ hw151_1)).trans hw151_1)), (World.cell?_alloc_lt _ _ _ (World.block_lt_of_cell? _ _ (((HB.o.cell (World.block_lt_of_cell? w _ hw151_2)).trans hw151_2)))).trans (((HB.o.cell (World.block_lt_of_cell? w _ hw151_2)).trans hw151_2)), (World.cell?_alloc_lt _ _ _ (World.block_lt_of_cell? _ _ (((HB.o.cell (World.block_lt_of_cell? w _ hw151_3)).trans hw151_3)))).trans (((HB.o.cell (World.block_lt_of_cell? w _ hw151_3)).trans hw151_3))⟩ (fun hHeld => ?_)
   clear hK K
   refine nm ?_
   refine one_ (i := 18) (N := some 29) (mK 20 524287) rfl rfl (qCL HT_.o (by kernel_rfl)) (by decide) (fun K hK => ?_)
   refine Kd.R_append_step k51 (w0 := w) w.heap.size (by rfl) (.tmp 11) (.tmp 28) 35 51 (.agg #[(.int .i64 0), (.int .i64 0), (.int .i64 0), (.int .u64 0)]) 32 rfl Tryz.underlying35 info51 rfl (by decide) (by omega) u3 aV (⟨(qAu l0 aA).f0, (qAu l0 aA).f1, (⟨(qAu l0 aA).f2.f0, (qAu l0 aA).f2.f1⟩ : S48)⟩ : S51) [.int .i64 ((qAu l0 aA).f0), .int .i64 ((qAu l0 aA).f1), .int .i64 ((qAu l0 aA).f2.f0), .int .u64 ((qAu l0 aA).f2.f1)] (fun _ => True) (fun _ => False) rfl rfl ?aP (fun _ hk => hk.elim) ?aF ?aO ?aB ?aS ?aL ?_
   (case aP => exact qCm _ _ _ (⟨(qAu l0 aA).f0, (qAu l0 aA).f1, (⟨(qAu l0 aA).f2.f0, (qAu l0 aA).f2.f1⟩ : S48)⟩ : S51))
   (case aB => exact (by repeat ((with_reducible (exact HB.o)))))
   (case aF => exact (fun _ _ => trivial))
   (case aO => exact (by exact aU.o))
   (case aS => exact (qA2 (by repeat ((with_reducible (exact HB.o))))))
   (case aL => have := a7.o; omega)
   intro aj w6 ho hb hg ai
   rw [← a1.o] at ho
   have n0_ := am (hb)
   have n1_ := am (ho)
   clear HB
   clear aU
   have HB := n0_
   have aZ := n1_
   clear n0_ n1_
   clear ho hb hg ai
   refine hK.o _ _ ⟨((HB.o.cell (World.block_lt_of_cell? w _ hw149_0)).trans hw149_0), ((HB.o.cell (World.block_lt_of_cell? w _ hw149_1)).trans hw149_1), ((HB.o.cell (World.block_lt_of_cell? w _ hw149_2)).trans hw149_2), ((HB.o.cell (World.block_lt_of_cell? w _ hw149_3)).trans hw149_3), ((HB.o.cell (World.block_lt_of_cell? w _ hw150_0)).trans hw150_0), ((HB.o.cell (World.block_lt_of_cell? w _ hw150_1)).trans hw150_1), ((HB.o.cell (World.block_lt_of_cell? w _ hw150_2)).trans hw150_2), ((HB.o.cell (World.block_lt_of_cell? w _ hw150_3)).trans hw150_3), ((HB.o.cell (World.block_lt_of_cell? w _ hw151_0)).trans hw151_0), ((HB.o.cell (World.block_lt_of_cell? w _ hw151_1)).trans hw151_1), ((HB.o.cell (World.block_lt_of_cell? w _ hw151_2)).trans hw151_2), ((HB.o.cell (World.block_lt_of_cell? w _ hw151_3)).trans hw151_3)⟩ (fun hHeld => ?_)
   clear hK K
   refine nm ?_
   refine pu 19 3 (mK 20 1048575) (qAj HT_.o (by kernel_rfl)) ?_
   refine done_ (qC9 HT_.o (by kernel_rfl)) ?_
   try go_wp2
   go_roundg k1
   case measure => have := ag.o; omega
   case rel => exact ⟨(a5), (wrap64 (aA + 1)), (by (rfl)), H', ⟨by have := ag.o; omega⟩, ⟨by exact aZ.o⟩, ⟨by repeat ((with_reducible (exact HB.o)))⟩⟩
def qAn.f (l0 : List Int) (l1 : List Int) : Option (Bool) := some ((strOfNums l0).toList == (strOfNums l1).toList)
theorem qAn.calls (A0 : Option Addr) (c0 : Nat) (l0 : List Int) (A1 : Option Addr) (c1 : Nat) (l1 : List Int) (r : Bool) (w : World) (hr0 : Kd.C (Kd.int .u8) w A0 l0.length l0) (hc0 : l0.length ≤ c0) (hr1 : Kd.C (Kd.int .u8) w A1 l1.length l1) (hc1 : l1.length ≤ c1) (h : qAn.f l0 l1 = some r) :
  Calls Tryz.prog 22 #[.slice A0 l0.length c0, .slice A1 l1.length c1] w fun e w' => e = .returned (.bool r) ∧ qAy w w' := by
 have aA := am hr0
 have aC := am hc0
 clear hr0 hc0
 have aB := am hr1
 have aD := am hc1
 clear hr1 hc1
 have H : (some ((strOfNums l0).toList == (strOfNums l1).toList)) = some r := h
 clear h
 obtain rfl := Option.some.inj H
 have hcv3 := Kd.C_string (P := Tryz.prog) (A := A0) (c := c0) Tryz.underlying53 Tryz.underlying5 Tryz.underlying9 aA.o
 try simp only [List.length_take, Int.reduceToNat] at hcv3
 have hcv4 := Kd.C_string (P := Tryz.prog) (A := A1) (c := c1) Tryz.underlying53 Tryz.underlying5 Tryz.underlying9 aB.o
 try simp only [List.length_take, Int.reduceToNat] at hcv4
 go_enter Tryz.func22, Tryz.ntmps22
 go_wp2
 go_ret
 exact ⟨by first | rfl | (simp; done) | (simp [*]; done), by repeat (first | exact qAy.refl _ | apply qAy.step)⟩
def alive0.f  : Option (Bool) := (qAL.f (([(⟨1, 0, (⟨1, 1⟩ : S48)⟩ : S51), (⟨10, 258, (⟨0, 0⟩ : S48)⟩ : S51), (⟨11, 0, (⟨0, 0⟩ : S48)⟩ : S51)] : List (S51)))).bind fun aK => ((qAC.f ([] : List Int) 1 ([] : List Int) (([(⟨1, 0, (⟨1, 1⟩ : S48)⟩ : S51), (⟨11, 0, (⟨0, 0⟩ : S48)⟩ : S51)] : List (S51))) ([] : List (S34)) ([] : List Int)).bind fun aJ => ((qAC.f ([] : List Int) 1 ([] : List Int) (([(⟨11, 0, (⟨0, 0⟩ : S48)⟩ : S51)] : List (S51))) ([] : List (S34)) ([] : List Int)).bind fun aF => (if aK.2 = 0 then ((qAn.f aK.1 (([1, 1, 0, 0, 0, 0, 0, 0, 0, 1, 10, 1, 2, 11] : List Int))).bind fun aH => (if aH = true then (if aJ.2 = 0 then (if aF.2 = 51 then ((qAN.f 1 0 1 1).bind fun aE => (some (aE.toList == ([112, 117, 115, 104, 32, 49] : List UInt8)))) else (some false)) else (some false)) else (some false))) else (some false))))
theorem alive0.calls  (r : Bool) (w : World) (h : alive0.f = some r) (hr : r = true) :
  Calls Tryz.prog 17 #[] w fun e w' => e = .returned (.bool r) ∧ Below w.heap.size w w' := by
 have HB := am (Below.refl w.heap.size w)
 have H : ((qAL.f (([(⟨1, 0, (⟨1, 1⟩ : S48)⟩ : S51), (⟨10, 258, (⟨0, 0⟩ : S48)⟩ : S51), (⟨11, 0, (⟨0, 0⟩ : S48)⟩ : S51)] : List (S51)))).bind fun aK => ((qAC.f ([] : List Int) 1 ([] : List Int) (([(⟨1, 0, (⟨1, 1⟩ : S48)⟩ : S51), (⟨11, 0, (⟨0, 0⟩ : S48)⟩ : S51)] : List (S51))) ([] : List (S34)) ([] : List Int)).bind fun aJ => ((qAC.f ([] : List Int) 1 ([] : List Int) (([(⟨11, 0, (⟨0, 0⟩ : S48)⟩ : S51)] : List (S51))) ([] : List (S34)) ([] : List Int)).bind fun aF => (if aK.2 = 0 then ((qAn.f aK.1 (([1, 1, 0, 0, 0, 0, 0, 0, 0, 1, 10, 1, 2, 11] : List Int))).bind fun aH => (if aH = true then (if aJ.2 = 0 then (if aF.2 = 51 then ((qAN.f 1 0 1 1).bind fun aE => (some (aE.toList == ([112, 117, 115, 104, 32, 49] : List UInt8)))) else (some false)) else (some false)) else (some false))) else (some false))))) = some r := h
 clear h
 obtain ⟨aV, aQ⟩ : ∃ y_ : List (S51), y_ = (([(⟨1, 0, (⟨1, 1⟩ : S48)⟩ : S51), (⟨10, 258, (⟨0, 0⟩ : S48)⟩ : S51), (⟨11, 0, (⟨0, 0⟩ : S48)⟩ : S51)] : List (S51))) := ⟨_, rfl⟩
 replace H : ((qAL.f aV).bind fun aK => ((qAC.f ([] : List Int) 1 ([] : List Int) (([(⟨1, 0, (⟨1, 1⟩ : S48)⟩ : S51), (⟨11, 0, (⟨0, 0⟩ : S48)⟩ : S51)] : List (S51))) ([] : List (S34)) ([] : List Int)).bind fun aJ => ((qAC.f ([] : List Int) 1 ([] : List Int) (([(⟨11, 0, (⟨0, 0⟩ : S48)⟩ : S51)] : List (S51))) ([] : List (S34)) ([] : List Int)).bind fun aF => (if aK.2 = 0 then ((qAn.f aK.1 (([1, 1, 0, 0, 0, 0, 0, 0, 0, 1, 10, 1, 2, 11] : List Int))).bind fun aH => (if aH = true then (if aJ.2 = 0 then (if aF.2 = 51 then ((qAN.f 1 0 1 1).bind fun aE => (some (aE.toList == ([112, 117, 115, 104, 32, 49] : List UInt8)))) else (some false)) else (some false)) else (some false))) else (some false))))) = some r := by (rw [aQ]; with_reducible exact H)
 have aY := am aQ
 clear aQ
 replace H := bm H
 obtain ⟨⟨aN, aO⟩, bC, H⟩ := H
 replace H : ((qAC.f ([] : List Int) 1 ([] : List Int) (([(⟨1, 0, (⟨1, 1⟩ : S48)⟩ : S51), (⟨11, 0, (⟨0, 0⟩ : S48)⟩ : S51)] : List (S51))) ([] : List (S34)) ([] : List Int)).bind fun aJ => ((qAC.f ([] : List Int) 1 ([] : List Int) (([(⟨11, 0, (⟨0, 0⟩ : S48)⟩ : S51)] : List (S51))) ([] : List (S34)) ([] : List Int)).bind fun aF => (if aO = 0 then ((qAn.f aN (([1, 1, 0, 0, 0, 0, 0, 0, 0, 1, 10, 1, 2, 11] : List Int))).bind fun aH => (if aH = true then (if aJ.2 = 0 then (if aF.2 = 51 then ((qAN.f 1 0 1 1).bind fun aE => (some (aE.toList == ([112, 117, 115, 104, 32, 49] : List UInt8)))) else (some false)) else (some false)) else (some false))) else (some false)))) = some r := H
 have A1 := am bC
 clear bC
 obtain ⟨aW, aR⟩ : ∃ y_ : List (S51), y_ = (([(⟨1, 0, (⟨1, 1⟩ : S48)⟩ : S51), (⟨11, 0, (⟨0, 0⟩ : S48)⟩ : S51)] : List (S51))) := ⟨_, rfl⟩
 replace H : ((qAC.f ([] : List Int) 1 ([] : List Int) aW ([] : List (S34)) ([] : List Int)).bind fun aJ => ((qAC.f ([] : List Int) 1 ([] : List Int) (([(⟨11, 0, (⟨0, 0⟩ : S48)⟩ : S51)] : List (S51))) ([] : List (S34)) ([] : List Int)).bind fun aF => (if aO = 0 then ((qAn.f aN (([1, 1, 0, 0, 0, 0, 0, 0, 0, 1, 10, 1, 2, 11] : List Int))).bind fun aH => (if aH = true then (if aJ.2 = 0 then (if aF.2 = 51 then ((qAN.f 1 0 1 1).bind fun aE => (some (aE.toList == ([112, 117, 115, 104, 32, 49] : List UInt8)))) else (some false)) else (some false)) else (some false))) else (some false)))) = some r := by (rw [aR]; with_reducible exact H)
 have aZ := am aR
 clear aR
 replace H := bm H
 obtain ⟨⟨bA, aL⟩, bD, H⟩ := H
 replace H : ((qAC.f ([] : List Int) 1 ([] : List Int) (([(⟨11, 0, (⟨0, 0⟩ : S48)⟩ : S51)] : List (S51))) ([] : List (S34)) ([] : List Int)).bind fun aF => (if aO = 0 then ((qAn.f aN (([1, 1, 0, 0, 0, 0, 0, 0, 0, 1, 10, 1, 2, 11] : List Int))).bind fun aH => (if aH = true then (if aL = 0 then (if aF.2 = 51 then ((qAN.f 1 0 1 1).bind fun aE => (some (aE.toList == ([112, 117, 115, 104, 32, 49] : List UInt8)))) else (some false)) else (some false)) else (some false))) else (some false))) = some r := H
 have A2 := am bD
 clear bD
 obtain ⟨aX, aS⟩ : ∃ y_ : List (S51), y_ = (([(⟨11, 0, (⟨0, 0⟩ : S48)⟩ : S51)] : List (S51))) := ⟨_, rfl⟩
 replace H : ((qAC.f ([] : List Int) 1 ([] : List Int) aX ([] : List (S34)) ([] : List Int)).bind fun aF => (if aO = 0 then ((qAn.f aN (([1, 1, 0, 0, 0, 0, 0, 0, 0, 1, 10, 1, 2, 11] : List Int))).bind fun aH => (if aH = true then (if aL = 0 then (if aF.2 = 51 then ((qAN.f 1 0 1 1).bind fun aE => (some (aE.toList == ([112, 117, 115, 104, 32, 49] : List UInt8)))) else (some false)) else (some false)) else (some false))) else (some false))) = some r := by (rw [aS]; with_reducible exact H)
 have a0 := am aS
 clear aS
 replace H := bm H
 obtain ⟨⟨bB, aP⟩, bE, H⟩ := H
 replace H : (if aO = 0 then ((qAn.f aN (([1, 1, 0, 0, 0, 0, 0, 0, 0, 1, 10, 1, 2, 11] : List Int))).bind fun aH => (if aH = true then (if aL = 0 then (if aP = 51 then ((qAN.f 1 0 1 1).bind fun aE => (some (aE.toList == ([112, 117, 115, 104, 32, 49] : List UInt8)))) else (some false)) else (some false)) else (some false))) else (some false)) = some r := H
 have A3 := am bE
 clear bE
 by_cases c4 : aO = 0
 ·rw [if_pos c4] at H
  have bK : (aO == 0) = true := beq_iff_eq.mpr c4
  clear c4
  obtain ⟨a3, aT⟩ : ∃ y_ : List Int, y_ = (([1, 1, 0, 0, 0, 0, 0, 0, 0, 1, 10, 1, 2, 11] : List Int)) := ⟨_, rfl⟩
  replace H : ((qAn.f aN a3).bind fun aH => (if aH = true then (if aL = 0 then (if aP = 51 then ((qAN.f 1 0 1 1).bind fun aE => (some (aE.toList == ([112, 117, 115, 104, 32, 49] : List UInt8)))) else (some false)) else (some false)) else (some false))) = some r := by (rw [aT]; with_reducible exact H)
  have a1 := am aT
  clear aT
  replace H := bm H
  obtain ⟨aH, bF, H⟩ := H
  replace H : (if aH = true then (if aL = 0 then (if aP = 51 then ((qAN.f 1 0 1 1).bind fun aE => (some (aE.toList == ([112, 117, 115, 104, 32, 49] : List UInt8)))) else (some false)) else (some false)) else (some false)) = some r := H
  have A5 := am bF
  clear bF
  by_cases c6 : aH = true
  ·subst c6
   replace H : (if aL = 0 then (if aP = 51 then ((qAN.f 1 0 1 1).bind fun aE => (some (aE.toList == ([112, 117, 115, 104, 32, 49] : List UInt8)))) else (some false)) else (some false)) = some r := by rw [if_pos rfl] at H; exact H
   by_cases c7 : aL = 0
   ·rw [if_pos c7] at H
    have bL : (aL == 0) = true := beq_iff_eq.mpr c7
    have bM : (aL != 0) = false := bn c7
    clear c7
    by_cases c8 : aP = 51
    ·rw [if_pos c8] at H
     have bN : (aP == 51) = true := beq_iff_eq.mpr c8
     clear c8
     replace H := bm H
     obtain ⟨aE, bG, H⟩ := H
     replace H : (some (aE.toList == ([112, 117, 115, 104, 32, 49] : List UInt8))) = some r := H
     have A9 := am bG
     clear bG
     obtain rfl := Option.some.inj H
     go_enter Tryz.func17, Tryz.ntmps17
     go_wp2_with (first | ((with_reducible refine qAP (N := 1) rfl ?_); (try (refine qBH (by rfl) ?_; dsimp only)); refine bx 1 #[.int .i64 0, .int .i64 0, .int .i64 0, .int .u64 0] 51 ?_; intro aG hg bV hbox hb; have n0_ := am (qAt (by repeat ((with_reducible (exact HB.o)))) hb); have n1_ := am (hbox); have n2_ := am ((by rw [hg]; exact (qA2 (by repeat ((with_reducible (exact HB.o))))) : w.heap.size ≤ aG)); have n3_ := am ((by rw [hg]; exact (qA2 (by repeat ((with_reducible (exact HB.o))))) : w.heap.size ≤ aG)); clear HB; have HB := n0_; have aA := n1_; have aU := n3_; clear n0_ n1_ n2_ n3_; clear hb hbox hg; obtain ⟨a4, a5, a6, a7⟩ := c4_ bV aA.o; obtain ⟨ag, ah, ai, aj⟩ := z4_ aA.o) | ((with_reducible refine qAP (N := 14) rfl ?_); (try (refine qBH (by rfl) ?_; dsimp only)); refine Kd.R_lit k51 _ 51 ?hg (N := 14) ?hd (xs := ([(⟨1, 0, (⟨1, 1⟩ : S48)⟩ : S51), (⟨10, 258, (⟨0, 0⟩ : S48)⟩ : S51), (⟨11, 0, (⟨0, 0⟩ : S48)⟩ : S51)] : List (S51))) (inner := [.int .i64 1, .int .i64 0, .int .i64 1, .int .u64 1, .int .i64 10, .int .i64 258, .int .i64 0, .int .u64 0, .int .i64 11, .int .i64 0, .int .i64 0, .int .u64 0]) (ok := fun _ => True) (okp := fun _ => True) ?hr ?hp (fun _ hk => hk) trivial (Below.refl _ _) (Nat.le_refl _) (by simp) ?_; (case hd => rfl); (case hg => rfl); (case hr => (go_simp; done)); (case hp => exact (Reps.c4 (show Kd.M k51 _ _ _ (⟨1, 0, (⟨1, 1⟩ : S48)⟩ : S51) [.int .i64 1, .int .i64 0, .int .i64 1, .int .u64 1] from (qCm _ _ _ (⟨1, 0, (⟨1, 1⟩ : S48)⟩ : S51) )) (Reps.c4 (show Kd.M k51 _ _ _ (⟨10, 258, (⟨0, 0⟩ : S48)⟩ : S51) [.int .i64 10, .int .i64 258, .int .i64 0, .int .u64 0] from (qCm _ _ _ (⟨10, 258, (⟨0, 0⟩ : S48)⟩ : S51) )) (Reps.c4 (show Kd.M k51 _ _ _ (⟨11, 0, (⟨0, 0⟩ : S48)⟩ : S51) [.int .i64 11, .int .i64 0, .int .i64 0, .int .u64 0] from (qCm _ _ _ (⟨11, 0, (⟨0, 0⟩ : S48)⟩ : S51) )) (Reps.none _ _))))); intro bQ bY ho13 hb hg_ hnew_; clear hg_ hnew_; ((rw [← aY.o] at ho13)); have n0_ := am (Kd.R_lower (Kd.R_newB ho13 (g := aG) (o := .cells #[.int .i64 1, .int .i64 0, .int .i64 1, .int .u64 1] 51 (0, 0)) (by (with_reducible repeat (fail)); refine qAS (cs := #[.int .i64 1, .int .i64 0, .int .i64 1, .int .u64 0]) ?_ 3 _ rfl; (with_reducible repeat (fail)); refine qAS (cs := #[.int .i64 1, .int .i64 0, .int .i64 0, .int .u64 0]) ?_ 2 _ rfl; (with_reducible repeat (fail)); refine qAS (cs := #[.int .i64 1, .int .i64 0, .int .i64 0, .int .u64 0]) ?_ 1 _ rfl; (with_reducible repeat (fail)); refine qAS (cs := #[.int .i64 0, .int .i64 0, .int .i64 0, .int .u64 0]) ?_ 0 _ rfl; (with_reducible repeat (fail)); exact aA.o)) (qA2 (by repeat ((with_reducible first | exact HB.o | refine qA8 ?_ aU.o))))); have n1_ := am (qAs (g := aG) (o := .cells #[.int .i64 1, .int .i64 0, .int .i64 1, .int .u64 1] 51 (0, 0)) (by (with_reducible repeat (fail)); refine qAS (cs := #[.int .i64 1, .int .i64 0, .int .i64 1, .int .u64 0]) ?_ 3 _ rfl; (with_reducible repeat (fail)); refine qAS (cs := #[.int .i64 1, .int .i64 0, .int .i64 0, .int .u64 0]) ?_ 2 _ rfl; (with_reducible repeat (fail)); refine qAS (cs := #[.int .i64 1, .int .i64 0, .int .i64 0, .int .u64 0]) ?_ 1 _ rfl; (with_reducible repeat (fail)); refine qAS (cs := #[.int .i64 0, .int .i64 0, .int .i64 0, .int .u64 0]) ?_ 0 _ rfl; (with_reducible repeat (fail)); exact aA.o) hb); have n2_ := am (qAt (by repeat ((with_reducible first | exact HB.o | refine qA8 ?_ aU.o))) hb); clear aA; clear HB; have aB := n0_; have aA := n1_; have HB := n2_; clear n0_ n1_ n2_; clear hb ho13; obtain ⟨an, aq, av⟩ := Kd.R_slice aB.o; subst av) | ((with_reducible refine qA7 (f := 19) rfl ?_); refine gL 15 Tryz.func19 #[.slice an aV.length aq] ?_; (with_reducible refine (qAL.calls _ _ aV aN aO _ ?side1 ?side2 A1.o).mono ?_); (case side1 => repeat ((exact (Kd.R_reads' aB.o).2.2))); (case side2 => exact (Kd.R_reads' aB.o).2.1); rintro e bW ⟨bR, rfl, bH, hb⟩; refine ⟨_, rfl, ?_⟩; have n0_ := am (Kd.R_below (by exact aB.o) hb); have n1_ := am (Kd.R_lower bH (qA2 (by repeat ((with_reducible (exact HB.o)))))); have n2_ := am (qAs (g := aG) (o := .cells #[.int .i64 1, .int .i64 0, .int .i64 1, .int .u64 1] 51 (0, 0)) (by exact aA.o) hb); have n3_ := am (qAt (by repeat ((with_reducible (exact HB.o)))) hb); clear aB; clear aA; clear HB; have aB := n0_; have aC := n1_; have aA := n2_; have HB := n3_; clear n0_ n1_ n2_ n3_; (skip); (skip); (skip); obtain ⟨a8, a9, aa, ab⟩ := c4_ bW aA.o; have ak := qAm aA.o 3) | ((with_reducible refine qAP (N := 22) rfl ?_); (try (refine qBH (by rfl) ?_; dsimp only)); refine Kd.R_lit k51 _ 51 ?hg (N := 22) ?hd (xs := ([(⟨1, 0, (⟨1, 1⟩ : S48)⟩ : S51), (⟨11, 0, (⟨0, 0⟩ : S48)⟩ : S51)] : List (S51))) (inner := [.int .i64 1, .int .i64 0, .int .i64 1, .int .u64 1, .int .i64 11, .int .i64 0, .int .i64 0, .int .u64 0]) (ok := fun _ => True) (okp := fun _ => True) ?hr ?hp (fun _ hk => hk) trivial (Below.refl _ _) (Nat.le_refl _) (by simp) ?_; (case hd => rfl); (case hg => rfl); (case hr => (go_simp; done)); (case hp => exact (Reps.c4 (show Kd.M k51 _ _ _ (⟨1, 0, (⟨1, 1⟩ : S48)⟩ : S51) [.int .i64 1, .int .i64 0, .int .i64 1, .int .u64 1] from (qCm _ _ _ (⟨1, 0, (⟨1, 1⟩ : S48)⟩ : S51) )) (Reps.c4 (show Kd.M k51 _ _ _ (⟨11, 0, (⟨0, 0⟩ : S48)⟩ : S51) [.int .i64 11, .int .i64 0, .int .i64 0, .int .u64 0] from (qCm _ _ _ (⟨11, 0, (⟨0, 0⟩ : S48)⟩ : S51) )) (Reps.none _ _)))); intro bS bZ ho18 hb hg_ hnew_; clear hg_ hnew_; ((rw [← aZ.o] at ho18)); have n0_ := am (Kd.R_elder' (by exact aB.o) (Kd.R_base ho18) hb); have n1_ := am (Kd.R_below (by exact aC.o) hb); have n2_ := am (Kd.R_lower (Kd.R_newB (Kd.R_new' ho18 (Kd.R_lt (by exact aB.o))) (g := aG) (o := .cells #[.int .i64 1, .int .i64 0, .int .i64 1, .int .u64 1] 51 (0, 0)) (by exact aA.o)) (qA2 (by repeat ((with_reducible (exact HB.o)))))); have n3_ := am (qAs (g := aG) (o := .cells #[.int .i64 1, .int .i64 0, .int .i64 1, .int .u64 1] 51 (0, 0)) (by exact aA.o) hb); have n4_ := am (qAt (by repeat ((with_reducible (exact HB.o)))) hb); clear aB; clear aC; clear aA; clear HB; have aB := n0_; have aC := n1_; have aD := n2_; have aA := n3_; have HB := n4_; clear n0_ n1_ n2_ n3_ n4_; clear hb ho18; obtain ⟨ao, ar, aw⟩ := Kd.R_slice aD.o; subst aw) | ((with_reducible refine qA7 (f := 13) rfl ?_); refine gL 25 Tryz.func13 #[.agg #[.slice none 0 0, .int .i64 1, .slice none 0 0, .slice ao aW.length ar], .agg #[.slice none 0 0, .slice none 0 0]] ?_; (refine (qAC.calls _ _ ([] : List Int) 1 _ _ ([] : List Int) _ _ aW _ _ ([] : List (S34)) _ _ ([] : List Int) bA aL _ ?side1 ?side2 ?side3 ?side4 ?side5 ?side6 ?side7 ?side8 ?side9 ?side10 A2.o).mono ?_); (case side1 => exact Kd.C_nil _ _); (case side2 => exact Nat.le_refl _); (case side3 => exact Kd.C_nil _ _); (case side4 => exact Nat.le_refl _); (case side5 => repeat ((exact (Kd.R_reads' aD.o).2.2))); (case side6 => exact (Kd.R_reads' aD.o).2.1); (case side7 => exact Kd.C_nil _ _); (case side8 => exact Nat.le_refl _); (case side9 => exact Kd.C_nil _ _); (case side10 => exact Nat.le_refl _); rintro e b0 ⟨rfl, hb⟩; refine ⟨_, rfl, ?_⟩; have n0_ := am (Kd.R_below (by exact aB.o) hb); have n1_ := am (Kd.R_below (by exact aC.o) hb); have n2_ := am (Kd.R_below (by exact aD.o) hb); have n3_ := am (qAs (g := aG) (o := .cells #[.int .i64 1, .int .i64 0, .int .i64 1, .int .u64 1] 51 (0, 0)) (by exact aA.o) hb); have n4_ := am (qAt (by repeat ((with_reducible (exact HB.o)))) hb); clear aB; clear aC; clear aD; clear aA; clear HB; have aB := n0_; have aC := n1_; have aD := n2_; have aA := n3_; have HB := n4_; clear n0_ n1_ n2_ n3_ n4_; (skip); (skip); (skip)) | ((with_reducible refine qAP (N := 31) rfl ?_); (try (refine qBH (by rfl) ?_; dsimp only)); refine Kd.R_lit k51 _ 51 ?hg (N := 31) ?hd (xs := ([(⟨11, 0, (⟨0, 0⟩ : S48)⟩ : S51)] : List (S51))) (inner := [.int .i64 11, .int .i64 0, .int .i64 0, .int .u64 0]) (ok := fun _ => True) (okp := fun _ => True) ?hr ?hp (fun _ hk => hk) trivial (Below.refl _ _) (Nat.le_refl _) (by simp) ?_; (case hd => rfl); (case hg => rfl); (case hr => (go_simp; done)); (case hp => exact (Reps.c4 (show Kd.M k51 _ _ _ (⟨11, 0, (⟨0, 0⟩ : S48)⟩ : S51) [.int .i64 11, .int .i64 0, .int .i64 0, .int .u64 0] from (qCm _ _ _ (⟨11, 0, (⟨0, 0⟩ : S48)⟩ : S51) )) (Reps.none _ _))); intro bT b1 ho22 hb hg_ hnew_; clear hg_ hnew_; ((rw [← a0.o] at ho22)); have n0_ := am (Kd.R_elder' (by exact aB.o) (Kd.R_base ho22) hb); have n1_ := am (Kd.R_below (by exact aC.o) hb); have n2_ := am (Kd.R_elder' (by exact aD.o) (Kd.R_base ho22) hb); have n3_ := am (Kd.R_lower (Kd.R_newB (Kd.R_new' (Kd.R_new' ho22 (Kd.R_lt (by exact aB.o))) (Kd.R_lt (by exact aD.o))) (g := aG) (o := .cells #[.int .i64 1, .int .i64 0, .int .i64 1, .int .u64 1] 51 (0, 0)) (by exact aA.o)) (qA2 (by repeat ((with_reducible (exact HB.o)))))); have n4_ := am (qAs (g := aG) (o := .cells #[.int .i64 1, .int .i64 0, .int .i64 1, .int .u64 1] 51 (0, 0)) (by exact aA.o) hb); have n5_ := am (qAt (by repeat ((with_reducible (exact HB.o)))) hb); clear aB; clear aC; clear aD; clear aA; clear HB; have aB := n0_; have aC := n1_; have aD := n2_; have aI := n3_; have aA := n4_; have HB := n5_; clear n0_ n1_ n2_ n3_ n4_ n5_; clear hb ho22; obtain ⟨ap, au, ax⟩ := Kd.R_slice aI.o; subst ax) | ((with_reducible refine qA7 (f := 13) rfl ?_); refine gL 34 Tryz.func13 #[.agg #[.slice none 0 0, .int .i64 1, .slice none 0 0, .slice ap aX.length au], .agg #[.slice none 0 0, .slice none 0 0]] ?_; (refine (qAC.calls _ _ ([] : List Int) 1 _ _ ([] : List Int) _ _ aX _ _ ([] : List (S34)) _ _ ([] : List Int) bB aP _ ?side1 ?side2 ?side3 ?side4 ?side5 ?side6 ?side7 ?side8 ?side9 ?side10 A3.o).mono ?_); (case side1 => exact Kd.C_nil _ _); (case side2 => exact Nat.le_refl _); (case side3 => exact Kd.C_nil _ _); (case side4 => exact Nat.le_refl _); (case side5 => repeat ((exact (Kd.R_reads' aI.o).2.2))); (case side6 => exact (Kd.R_reads' aI.o).2.1); (case side7 => exact Kd.C_nil _ _); (case side8 => exact Nat.le_refl _); (case side9 => exact Kd.C_nil _ _); (case side10 => exact Nat.le_refl _); rintro e b2 ⟨rfl, hb⟩; refine ⟨_, rfl, ?_⟩; have n0_ := am (Kd.R_below (by exact aB.o) hb); have n1_ := am (Kd.R_below (by exact aC.o) hb); have n2_ := am (Kd.R_below (by exact aD.o) hb); have n3_ := am (Kd.R_below (by exact aI.o) hb); have n4_ := am (qAs (g := aG) (o := .cells #[.int .i64 1, .int .i64 0, .int .i64 1, .int .u64 1] 51 (0, 0)) (by exact aA.o) hb); have n5_ := am (qAt (by repeat ((with_reducible (exact HB.o)))) hb); clear aB; clear aC; clear aD; clear aI; clear aA; clear HB; have aB := n0_; have aC := n1_; have aD := n2_; have aI := n3_; have aA := n4_; have HB := n5_; clear n0_ n1_ n2_ n3_ n4_ n5_; (skip); (skip); (skip)) | ((with_reducible refine qAP (N := 41) rfl ?_); (try (refine qBH (by rfl) ?_; dsimp only)); refine Kd.R_lit (Kd.int .u8) _ 5 ?hg (N := 41) ?hd (xs := ([1, 1, 0, 0, 0, 0, 0, 0, 0, 1, 10, 1, 2, 11] : List Int)) (inner := [.int .u8 1, .int .u8 1, .int .u8 0, .int .u8 0, .int .u8 0, .int .u8 0, .int .u8 0, .int .u8 0, .int .u8 0, .int .u8 1, .int .u8 10, .int .u8 1, .int .u8 2, .int .u8 11]) (ok := fun _ => True) (okp := fun _ => True) ?hr ?hp (fun _ hk => hk) trivial (Below.refl _ _) (Nat.le_refl _) (by simp) ?_; (case hd => rfl); (case hg => rfl); (case hr => (go_simp; done)); (case hp => exact (Reps.one (show Kd.M (Kd.int .u8) _ _ _ 1 [.int .u8 1] from rfl) (Reps.one (show Kd.M (Kd.int .u8) _ _ _ 1 [.int .u8 1] from rfl) (Reps.one (show Kd.M (Kd.int .u8) _ _ _ 0 [.int .u8 0] from rfl) (Reps.one (show Kd.M (Kd.int .u8) _ _ _ 0 [.int .u8 0] from rfl) (Reps.one (show Kd.M (Kd.int .u8) _ _ _ 0 [.int .u8 0] from rfl) (Reps.one (show Kd.M (Kd.int .u8) _ _ _ 0 [.int .u8 0] from rfl) (Reps.one (show Kd.M (Kd.int .u8) _ _ _ 0 [.int .u8 0] from rfl) (Reps.one (show Kd.M (Kd.int .u8) _ _ _ 0 [.int .u8 0] from rfl) (Reps.one (show Kd.M (Kd.int .u8) _ _ _ 0 [.int .u8 0] from rfl) (Reps.one (show Kd.M (Kd.int .u8) _ _ _ 1 [.int .u8 1] from rfl) (Reps.one (show Kd.M (Kd.int .u8) _ _ _ 10 [.int .u8 10] from rfl) (Reps.one (show Kd.M (Kd.int .u8) _ _ _ 1 [.int .u8 1] from rfl) (Reps.one (show Kd.M (Kd.int .u8) _ _ _ 2 [.int .u8 2] from rfl) (Reps.one (show Kd.M (Kd.int .u8) _ _ _ 11 [.int .u8 11] from rfl) (Reps.none _ _)))))))))))))))); intro bU bX ho26 hb hg_ hnew_; clear hg_ hnew_; ((rw [← a1.o] at ho26)); have n0_ := am (Kd.R_below (by exact aB.o) hb); have n1_ := am (Kd.R_elder' (by exact aC.o) (Kd.R_base ho26) hb); have n2_ := am (Kd.R_below (by exact aD.o) hb); have n3_ := am (Kd.R_below (by exact aI.o) hb); have n4_ := am (Kd.R_lower (Kd.R_new' ho26 (Kd.R_lt (by exact aC.o))) (qA2 (by repeat ((with_reducible (exact HB.o)))))); have n5_ := am (qAs (g := aG) (o := .cells #[.int .i64 1, .int .i64 0, .int .i64 1, .int .u64 1] 51 (0, 0)) (by exact aA.o) hb); have n6_ := am (qAt (by repeat ((with_reducible (exact HB.o)))) hb); clear aB; clear aC; clear aD; clear aI; clear aA; clear HB; have aB := n0_; have aC := n1_; have aD := n2_; have aI := n3_; have aM := n4_; have aA := n5_; have HB := n6_; clear n0_ n1_ n2_ n3_ n4_ n5_ n6_; clear hb ho26; obtain ⟨bI, bO, ay⟩ := Kd.R_slice aC.o; subst ay; obtain ⟨bJ, bP, az⟩ := Kd.R_slice aM.o; subst az) | (go_at_call 22; (with_reducible refine (qAn.calls _ _ aN _ _ a3 true _ ?side1 ?side2 ?side3 ?side4 A5.o).mono ?_); (case side1 => repeat ((exact (Kd.R_reads' aC.o).2.2))); (case side2 => exact (Kd.R_reads' aC.o).2.1); (case side3 => repeat ((exact (Kd.R_reads' aM.o).2.2))); (case side4 => exact (Kd.R_reads' aM.o).2.1); rintro e w' ⟨rfl, ⟨nd, rfl⟩⟩; obtain ⟨ac, ad, ae, af⟩ := c4_ bX aA.o; have al := qAm aA.o 3) | (go_at_call 20; (with_reducible refine (qAN.calls 1 0 1 1 aE _ A9.o).mono ?_); rintro e b3 ⟨rfl, hb⟩; have n0_ := am (Kd.R_below (by (with_reducible repeat ((apply Kd.R_drewN))); exact aB.o) hb); have n1_ := am (Kd.R_below (by (with_reducible repeat ((apply Kd.R_drewN))); exact aC.o) hb); have n2_ := am (Kd.R_below (by (with_reducible repeat ((apply Kd.R_drewN))); exact aD.o) hb); have n3_ := am (Kd.R_below (by (with_reducible repeat ((apply Kd.R_drewN))); exact aI.o) hb); have n4_ := am (Kd.R_below (by (with_reducible repeat ((apply Kd.R_drewN))); exact aM.o) hb); have n5_ := am (qAs (g := aG) (o := .cells #[.int .i64 1, .int .i64 0, .int .i64 1, .int .u64 1] 51 (0, 0)) (by (with_reducible repeat ((refine qBv ?_ _))); exact aA.o) hb); have n6_ := am (qAt (by repeat ((with_reducible first | exact HB.o | apply qAa))) hb); clear aB; clear aC; clear aD; clear aI; clear aM; clear aA; clear HB; have HB := n6_; clear n0_ n1_ n2_ n3_ n4_ n5_ n6_; (skip); (skip); (skip)))
     go_ret
     exact ⟨by (simp [*] <;> rfl), by repeat ((with_reducible (exact HB.o)))⟩
    ·rw [if_neg c8] at H
     subst hr
     exact absurd H (by simp)
   ·rw [if_neg c7] at H
    subst hr
    exact absurd H (by simp)
  ·replace c6 := Bool.eq_false_iff.mpr c6
   subst c6
   replace H : (some false) = some r := by rw [if_neg (show ¬ (false = true) by decide)] at H; exact H
   obtain rfl := Option.some.inj H
   exact absurd hr (by decide)
 ·rw [if_neg c4] at H
  subst hr
  exact absurd H (by simp)
def qAv.f : Option Bool := if alive0.f = some true then some true else none
theorem qAv.calls (r : Bool) (w : World) (h : qAv.f = some r) :
  Calls Tryz.prog 17 #[] w fun e w' => e = .returned (.bool r) ∧ Below w.heap.size w w' := by
 unfold qAv.f at h
 split at h
 ·rename_i h0
  obtain rfl := Option.some.inj h
  exact alive0.calls _ w h0 rfl
 ·cases h
end Q
end
section
namespace Q
open Go.RowKit YA YC YB
open Val Ins Enc
namespace C14
def ofI (x : S50) : S51 := ⟨x.f0, x.f1, x.f2⟩
theorem wrap_add1 {i : Int} {n : Nat} (h0 : 0 ≤ i) (h : i < n) (hn : n ≤ 4611686018427387904) : wrap64 (i + 1) = i + 1 := by unfold wrap64; omega
theorem drop_cons_getD {α : Type} (l : List α) (d : α) (i : Int) (h0 : 0 ≤ i) (h : i < l.length) : l.drop i.toNat = l.getD i.toNat d :: l.drop (i + 1).toNat := by
 rw [show (i + 1).toNat = i.toNat + 1 from by omega, List.drop_eq_getElem_cons (by omega), List.getD_eq_getElem?_getD, List.getElem?_eq_getElem (by omega)]; rfl
theorem rd_map {α β : Type} (f : α → β) (l : List α) (d : α) (e : β) (i : Int) (h0 : 0 ≤ i) (h : i < l.length) : (l.map f).getD i.toNat e = f (l.getD i.toNat d) := by
 rw [List.getD_eq_getElem?_getD, List.getD_eq_getElem?_getD, List.getElem?_map, List.getElem?_eq_getElem (by omega)]; rfl
theorem u64_bounds {n : Int} (h : (Lit.int .u64 n).wf = true) : 0 ≤ n ∧ n < 18446744073709551616 := by
 simp [Lit.wf, IntKind.min, IntKind.max, IntKind.bits, IntKind.signed] at h
 omega
theorem mine_ev (l : List S50) (hl : l.length ≤ 1048576) : Ev (fun k => qAp.f k l) (l.map ofI) := by
 have loop : ∀ (n : Nat) (i : Int) (acc : List S51), 0 ≤ i → (l.length : Int) - i = n → acc.length ≤ i → Ev (fun k => qAp.l0 k l acc i) (acc ++ (l.drop i.toNat).map ofI) := by
  intro n
  induction n with
  | zero =>
   intro i acc h0 hn hacc
   rw [List.drop_eq_nil_of_le (by omega), List.map_nil, List.append_nil]
   refine Ev.step (f := fun _ => some acc) (fun k => ?_) (Ev.now _)
   simp only [qAp.l0]
   rw [if_neg (by omega)]
  | succ n ih =>
   intro i acc h0 hn hacc
   have hw := wrap_add1 (n := l.length) h0 (by omega) (by omega)
   have hrec := ih (i + 1) (acc ++ [ofI (qAu l i)]) (by omega) (by omega) (by rw [List.length_append]; simp; omega)
   rw [drop_cons_getD l z50 i h0 (by omega), List.map_cons]
   rw [List.append_assoc] at hrec
   refine Ev.step (fun k => ?_) hrec
   simp only [qAp.l0]
   rw [if_pos (by omega), if_pos h0, if_pos (by omega), hw]
   rfl
 exact loop l.length 0 [] (by omega) (by omega) (by simp)
theorem live0_eq : alive0.f = some true := by decide +kernel
theorem live_eq : qAv.f = some true := by unfold qAv.f; rw [if_pos live0_eq]
end C14
end Q
end
end Go.Proofs.YtfddibbignedkaaGreatDoor
