/- Chapter 14: what the laws of this seat share: the words, the contracts of code.Verify, Encode, Text and of the document's Verify. -/
import Derived.Test.YtfddibbignedkaaGreatDoorB1
import Derived.Lib.SliceRun
import Derived.Test.YtfddibbignedkaaGreatDoorProg
import Derived.WalkKit
import Derived.WalkLawsBesides
import Derived.WalkSpells
import Derived.Deep.RegionLaw
import Derived.BigRegion
import Derived.RangeFuncNested
import Derived.RangeFuncBound
import Derived.RangeFuncCalls
import Derived.RangeFuncLeaves
import Derived.Shelf.Abstract
import Derived.OwnWalkIn
import Derived.TacticsInMore
import Derived.LoopNIn
import Derived.LoopIn
import Derived.RangeFuncBox
import Derived.ChangeSlices
set_option maxHeartbeats 8000000
set_option maxRecDepth 100000
set_option linter.unusedVariables false
set_option linter.unusedSimpArgs false
namespace Go.Proofs.YtfddibbignedkaaGreatDoor
section
namespace Q
open Go.RowKit YA YC YB
def ShBox (W : World) (g : Nat) (m : Bool) (A : Option Addr) (n c : Nat) (B : Option Addr) (k d : Nat) : Prop := W.heap[g]? = some (.cells #[.bool m, .slice A n c, .slice B k d] 113 (0, 0))
theorem ShBox.set {W : World} {g : Nat} {m : Bool} {A : Option Addr} {n c : Nat} {B : Option Addr} {k d : Nat} (h : ShBox W g m A n c B k d) (A' : Option Addr) (n' c' : Nat) : ShBox (W.setCell ⟨g, 1, none⟩ (.slice A' n' c')) g m A' n' c' B k d := by
 unfold ShBox at h ⊢
 simp [World.setCell, h, Array.getElem?_modify]
theorem take_none (g : Nat) (m : Bool) (A : Option Addr) (c : Nat) (B : Option Addr) (k d : Nat) (W : World) (hg : ShBox W g m A 0 c B k d) :
  Calls Tryz.prog 114 #[.pointer (some ⟨g, 0, none⟩)] W fun e w' => e = .returned (.tuple #[.int .i64 0, .bool false]) ∧ w' = W := by
 have c1 : W.cell? ⟨g, 1, none⟩ = some (.slice A 0 c) := (qAa hg 1).trans rfl
 go_enter Tryz.func114, Tryz.ntmps114
 go_wp2
 go_ret2
 exact ⟨rfl, rfl⟩
theorem take_some (g : Nat) (m : Bool) (ad : Addr) (n c : Nat) (B : Option Addr) (k d : Nat) (x : Int) (W : World) (hg : ShBox W g m (some ad) (n + 1) c B k d) (hx : W.cell? (ad.add n) = some (.int .i64 x)) (hc : n + 1 ≤ c) (hn : n + 1 ≤ 4611686018427387904) :
  Calls Tryz.prog 114 #[.pointer (some ⟨g, 0, none⟩)] W fun e w' => e = .returned (.tuple #[.int .i64 x, .bool true]) ∧ w' = W.setCell ⟨g, 1, none⟩ (.slice (some ad) n c) := by
 have c1 : W.cell? ⟨g, 1, none⟩ = some (.slice (some ad) (n + 1) c) := (qAa hg 1).trans rfl
 have f1 := qAb hg 1
 have hz : (((n + 1 : Nat) : Int) == 0) = false := beq_eq_false_iff_ne.mpr (by omega)
 have hs : IntKind.i64.wrap (((n + 1 : Nat) : Int) - 1) = (n : Int) := by simp [IntKind.wrap, IntKind.bits, IntKind.signed]; omega
 have hgl : g < W.heap.size := qAZ hg
 go_enter Tryz.func114, Tryz.ntmps114
 go_wp2
 go_ret2
 exact ⟨rfl, rfl⟩
theorem qDb : (Tryz.prog.info? 160).map (fun i => (i.zero, i.size, i.bytes)) = some (some (.agg #[.int .i64 0, .slice none 0 0]), 2, 32) := by kernel_rfl
theorem qCK : (Tryz.prog.info? 3).map (fun i => (i.zero, i.size, i.bytes)) = some (some (.int .i64 0), 1, 8) := by kernel_rfl
theorem cloneO_any (A : Option Addr) (n c : Nat) (tr : List S160) (ok : Nat → Prop) (W : World) (HF : Kd.F k160 W ok A n tr) (hn : n ≤ 2000000) :
  Calls Tryz.prog 90 #[.slice A n c] W fun e w' => ∃ v, e = .returned v ∧ Kd.N k160 160 w' W.heap.size (fun k => ok k ∨ W.heap.size ≤ k) v tr ∧ Below W.heap.size W w' := by
 have hlen := Kd.F_len HF
 cases A with
 | none =>
  have h0 : n = 0 := by
   rcases Nat.eq_zero_or_pos n with h | h
   ·exact h
   obtain ⟨ad, had, _⟩ := (Kd.F_now HF).2.2 h; cases had
  subst h0
  obtain rfl : tr = [] := List.length_eq_zero_iff.1 hlen
  have hq := Lib.run_eql_slice_nil (P := Tryz.prog) W 111 160 none 0 c 0 0 Tryz.underlying111
  clear HF hlen
  go_enter Tryz.func90, Tryz.ntmps90
  go_wp2
  go_ret
  exact ⟨_, rfl, Kd.N_nil _ _ _ _ _, Below.refl _ _⟩
 | some a =>
  have hq := Lib.run_eql_slice_nil (P := Tryz.prog) W 111 160 (some a) n c 0 0 Tryz.underlying111
  have hown : (W.alloc (.cells #[] 160)).ownsRow W.heap.size 160 2 (.slice (some ⟨W.heap.size, 0, none⟩) 0 0) 0 [] := World.ownsRow_made W #[] 0 (Nat.le_refl _) (by unfold maxLen; omega) rfl
  have HR : Kd.R k160 160 (W.alloc (.cells #[] 160)) W.heap.size (fun k => ok k ∨ W.heap.size ≤ k) (.slice (some ⟨W.heap.size, 0, none⟩) 0 0) [] := ⟨fun k hk => .inr (by cases hk; exact Nat.le_refl _), [], hown, Reps.none _ _⟩
  have HN := am (Kd.R_N HR)
  have HF' := am (Kd.F_alloc (Kd.F_bound HF) (.cells #[] 160))
  clear HF hown HR
  go_enter Tryz.func90, Tryz.ntmps90
  go_wp2_with (at_builtin; refine Kd.N_append_rows k160 (w0 := W) W.heap.size rfl (.tmp 5) (.tmp 6) 111 160 _ 32 rfl Tryz.underlying111 qDb rfl (by decide) (by decide) _ [] tr (some a) n c _ _ rfl rfl HN.out HF'.out ?h1 ?h2 ?h3 ?h4 ?h5 ?_; (case h1 => exact fun k hk => ⟨.inl hk.1, fun he => by cases he; exact absurd hk.2 (Nat.lt_irrefl _)⟩); (case h2 => intro k hk; exact .inr (by simp at hk; omega)); (case h3 => exact (Below.refl _ _).alloc (Nat.le_refl _) _); (case h4 => simp); (case h5 => simp; omega); intro v1 w1 hN hB _ _; have HN1 := am hN; have HB1 := am hB; clear hN hB)
  go_ret
  exact ⟨_, rfl, HN1.out, HB1.out⟩
theorem qCF (A : Option Addr) (c : Nat) (st : List Int) (W : World) (HC0 : Kd.C (Kd.int .i64) W A st.length st) (hn : st.length ≤ 2000000) :
  Calls Tryz.prog 54 #[.slice A st.length c] W fun e w' => ∃ v, e = .returned v ∧ Kd.R (Kd.int .i64) 3 w' W.heap.size (fun _ => True) v st ∧ Below W.heap.size W w' := by
 obtain ⟨n, hnn⟩ : ∃ n, n = st.length := ⟨_, rfl⟩
 rw [← hnn] at HC0 hn ⊢
 cases A with
 | none =>
  have h0 : n = 0 := by
   rcases Nat.eq_zero_or_pos n with h | h
   ·exact h
   obtain ⟨ad, had, _⟩ := HC0.2.2 h; cases had
  subst h0
  obtain rfl : st = [] := List.length_eq_zero_iff.1 hnn.symm
  have hq := Lib.run_eql_slice_nil (P := Tryz.prog) W 22 3 none 0 c 0 0 Tryz.underlying22
  clear HC0 hn hnn
  go_enter Tryz.func54, Tryz.ntmps54
  go_wp2
  go_ret
  exact ⟨_, rfl, Kd.R_nil _ _ _ _ _, Below.refl _ _⟩
 | some a =>
  have hq := Lib.run_eql_slice_nil (P := Tryz.prog) W 22 3 (some a) n c 0 0 Tryz.underlying22
  have hown : (W.alloc (.cells #[] 3)).ownsRow W.heap.size 3 1 (.slice (some ⟨W.heap.size, 0, none⟩) 0 0) 0 [] := World.ownsRow_made W #[] 0 (Nat.le_refl _) (by unfold maxLen; omega) rfl
  have HR : qAd (Kd.R (Kd.int .i64) 3 (W.alloc (.cells #[] 3)) W.heap.size (fun _ => True) (.slice (some ⟨W.heap.size, 0, none⟩) 0 0) []) := ⟨fun k hk => trivial, [], hown, Reps.none _ _⟩
  have HRR : qAd (qBq (fun x cs => cs = [Value.int .i64 x]) (Kd.int .i64).sz (W.alloc (.cells #[] 3)) (some a) n st) := ⟨Kd.C_below HC0 ((Below.refl _ _).alloc (Nat.le_refl _) _)⟩
  have HNN := am hnn
  have HN0 := am hn
  clear HC0 hown hn hnn
  go_enter Tryz.func54, Tryz.ntmps54
  go_wp2_with (at_builtin; refine Kd.R_append_rows (Kd.int .i64) (w0 := W) W.heap.size rfl (.tmp 5) (.tmp 6) 22 3 _ 8 rfl Tryz.underlying22 qCK rfl (by decide) (by decide) _ [] st (some a) n c _ (fun _ => False) rfl rfl HR.out HRR.out ?h0 ?h1 ?h2 ?h3 ?h4 ?h5 ?_; (case h0 => exact fun x cs h => h); (case h1 => exact fun k hk => hk.elim); (case h2 => intro k hk; exact trivial); (case h3 => exact (Below.refl _ _).alloc (Nat.le_refl _) _); (case h4 => simp); (case h5 => have := HN0.out; simp; omega); intro v1 w1 hN hB _ _; have HN1 := am hN; have HB1 := am hB; clear hN hB)
  go_ret
  exact ⟨_, rfl, HN1.out, HB1.out⟩
def qEn (m : Bool) (st : List Int) (tr : List S160) (ok2 : Nat → Prop) (W : World) (e : Ending) (w' : World) : Prop :=
 ∃ v1 v2, e = .returned (.agg #[.bool m, v1, v2]) ∧ Kd.R (Kd.int .i64) 3 w' W.heap.size (fun _ => True) v1 st ∧ Kd.N k160 160 w' W.heap.size (fun q => (ok2 q ∨ W.heap.size ≤ q) ∧ some q ≠ v1.ownBlock) v2 tr ∧ Below W.heap.size W w'
theorem qDK (m : Bool) (A : Option Addr) (c : Nat) (st : List Int) (B : Option Addr) (k d : Nat) (tr : List S160) (ok1 ok2 : Nat → Prop) (W : World) (H1 : Kd.F (Kd.int .i64) W ok1 A st.length st) (H2 : Kd.F k160 W ok2 B k tr) (hn : st.length ≤ 2000000) (hk : k ≤ 2000000) (hnc : st.length ≤ c) :
  Calls Tryz.prog 64 #[.agg #[.bool m, .slice A st.length c, .slice B k d]] W (qEn m st tr ok2 W) := by
 have HC1 : qAd (∀ W', Below W.heap.size W W' → Calls Tryz.prog 54 #[.slice A st.length c] W' fun e w' => ∃ v, e = .returned v ∧ Kd.R (Kd.int .i64) 3 w' W'.heap.size (fun _ => True) v st ∧ Below W'.heap.size W' w') :=
  ⟨fun W' hW => qCF A c st W' (Kd.F_now (Kd.F_below H1 hW)) hn⟩
 have HC2 : qAd (∀ W', Below W.heap.size W W' → Calls Tryz.prog 90 #[.slice B k d] W' fun e w' => ∃ v, e = .returned v ∧ Kd.N k160 160 w' W'.heap.size (fun q => (ok2 q ∧ q < W.heap.size) ∨ W'.heap.size ≤ q) v tr ∧ Below W'.heap.size W' w') :=
  ⟨fun W' hW => cloneO_any B k d tr _ W' (Kd.F_below (Kd.F_bound H2) hW) hk⟩
 obtain ⟨n, hn'⟩ : ∃ n, n = st.length := ⟨_, rfl⟩
 rw [← hn'] at HC1 ⊢
 clear H1 H2 hn hk hnc hn'
 obtain ⟨WB, hWB⟩ : ∃ WB, WB = (W.alloc (.cells #[.bool m, .slice A n c, .slice B k d] 113)).alloc (.cells #[.bool false, .slice none 0 0, .slice none 0 0] 113) := ⟨_, rfl⟩
 have hBB : Below W.heap.size W WB := hWB ▸ ((Below.refl _ _).alloc (Nat.le_refl _) _).alloc (by simp) _
 have hz : WB.heap.size = W.heap.size + 1 + 1 := by rw [hWB]; simp
 have b0 : WB.heap[W.heap.size]? = some (.cells #[.bool m, .slice A n c, .slice B k d] 113 (0, 0)) := by rw [hWB]; exact qAk (qBb W _) (qAg (Below.refl _ _) _)
 have b1 : WB.heap[W.heap.size + 1]? = some (.cells #[.bool false, .slice none 0 0, .slice none 0 0] 113 (0, 0)) := by rw [hWB]; simpa using qBb (W.alloc (.cells #[.bool m, .slice A n c, .slice B k d] 113)) _
 have HWB := am hWB
 have HBB := am hBB
 have e0 := (qAa b0 0).trans rfl
 have e1 := (qAa b0 1).trans rfl
 have e2 := (qAa b0 2).trans rfl
 go_enter Tryz.func64, Tryz.ntmps64
 go_wp2_with fail
 rw [← hWB]
 clear hWB
 go_region_held3 (fun W' => W'.cell? ⟨W.heap.size, 0, none⟩ = some (.bool m) ∧ W'.cell? ⟨W.heap.size, 1, none⟩ = some (.slice A n c) ∧ W'.cell? ⟨W.heap.size, 2, none⟩ = some (.slice B k d))
  (first | go_keep | exact ⟨g0, g1, g2⟩ | exact ⟨f0, f1, f2⟩ | exact ⟨e0, e1, e2⟩)
  (first
    | (go_at_call 54;
       refine (HC1.out _ (qA4 HBB.out)).mono ?_;
       rintro e w1 ⟨v1, rfl, hR1, hb1⟩;
       have hb1' : Below WB.heap.size WB w1 := (qA4 (Below.refl _ _)).trans hb1;
       have b0' := qAk b0 hb1';
       have b1' := qAk b1 hb1';
       have f0 := (qAa b0' 0).trans rfl;
       have f1 := (qAa b0' 1).trans rfl;
       have f2 := (qAa b0' 2).trans rfl;
       have hBB1 := Below.trans hBB (hb1'.mono (by omega));
       have HBB1 := am hBB1;
       obtain ⟨A1, c1, ev1⟩ := Kd.R_slice hR1;
       subst ev1;
       have HR1 := am hR1;
       have HB1 := am hb1';
       clear hR1 hb1 hb1' hBB1)
    | (go_at_call 90;
       refine (HC2.out _ HBB1.out).mono ?_;
       rintro e w2 ⟨v2, rfl, hN2, hb2⟩;
       have b0'' := qAk b0' hb2;
       have b1'' := qAk b1' hb2;
       have g0 := (qAa b0'' 0).trans rfl;
       have g1 := (qAa b0'' 1).trans rfl;
       have g2 := (qAa b0'' 2).trans rfl;
       have hcz0 := (qAa b1'' 0).trans rfl;
       have hcz1 := (qAa b1'' 1).trans rfl;
       have hcz2 := (qAa b1'' 2).trans rfl;
       have hfz0 := qAb b1'' 0;
       have hfz1 := qAb b1'' 1;
       have hfz2 := qAb b1'' 2;
       obtain ⟨A2, c2, ev2⟩ := Kd.N_slice hN2;
       subst ev2;
       have HN2 := am hN2;
       have HB2 := am hb2;
       clear hN2 hb2))
 have hv1a := Kd.R_base HR1.out
 have hv1b := Kd.R_lt HR1.out
 have hz' : WB.drew.heap.size = W.heap.size + 1 + 1 := hz
 have hs2 := HB2.out.size
 have hs1 : W.heap.size + 1 < w1.heap.size := by
  rcases Nat.lt_or_ge (W.heap.size + 1) w1.heap.size with h | h
  ·exact h
  rw [Array.getElem?_eq_none h] at b1'; cases b1'
 go_wp2
 refine bodyPost_ret (results_cell_row rfl _ _ (W.heap.size + 1) 113 #[.bool m, .slice A1 st.length c1, .slice A2 tr.length c2] (0, 0) _ rfl (by refine qAQ (cs := #[.bool m, .slice A1 st.length c1, .slice none 0 0]) ?_ 2 _ rfl; refine qAQ (cs := #[.bool m, .slice none 0 0, .slice none 0 0]) ?_ 1 _ rfl; refine qAQ (cs := #[.bool false, .slice none 0 0, .slice none 0 0]) ?_ 0 _ rfl; exact b1'') Tryz.underlying113 rfl (by kernel_rfl)) rfl ?_
 generalize hWf : ((w2.setCell _ _).setCell _ _).setCell _ _ = Wf
 have hE : ∀ q, q ≠ W.heap.size + 1 → Wf.heap[q]? = w2.heap[q]? := fun q hq => by
  rw [← hWf, Below.heap_setCell _ _ _ _ hq, Below.heap_setCell _ _ _ _ hq, Below.heap_setCell _ _ _ _ hq]
 have hBf : Below W.heap.size W Wf := by
  rw [← hWf]
  exact qAi (qAi (qAi (HBB1.out.trans (HB2.out.mono (by omega))) (by simp)) (by simp)) (by simp)
 refine ⟨_, _, rfl, ?_, ?_, hBf⟩
 ·have h1 := Kd.R_lower (Kd.R_below (Kd.R_bound HR1.out) HB2.out) (show W.heap.size ≤ WB.drew.heap.size by omega)
  exact Kd.R_mono (Kd.R_step h1 (fun q hq _ => hE q (by omega))) (fun _ _ => trivial)
 ·have h2 := Kd.N_lower HN2.out (show W.heap.size ≤ w1.heap.size by omega)
  refine Kd.N_mono (Kd.N_step h2 (fun q hq _ => hE q (by omega))) (fun q hq => ⟨?_, fun he => ?_⟩)
  ·rcases hq with h | h
   ·exact .inl h.1
   ·exact .inr (by omega)
  ·have := hv1a q he.symm; have := hv1b q he.symm; omega
def Fr (W w' : World) (S : Nat → Prop) : Prop := Below 0 W w' ∧ Kept W w' S
theorem below_zero {n : Nat} {W W' : World} (h : Below n W W') : Below 0 W W' := h.mono (Nat.zero_le _)
theorem Fr.refl (W : World) (S : Nat → Prop) : Fr W W S := ⟨Below.refl _ _, Kept.refl _ _⟩
theorem Fr.of_below {W W' : World} {S : Nat → Prop} (h : Below W.heap.size W W') : Fr W W' S := ⟨below_zero h, Kept.of_below h S⟩
theorem Fr.then_ {W W1 W2 : World} {S S1 : Nat → Prop} (h : Fr W W1 S) (k : Fr W1 W2 S1) (hs : ∀ q, S1 q → S q ∨ W.heap.size ≤ q) : Fr W W2 S := ⟨h.1.trans k.1, h.2.then_ k.2 hs⟩
theorem Fr.trans {W W1 W2 : World} {S : Nat → Prop} (h : Fr W W1 S) (k : Fr W1 W2 S) : Fr W W2 S := h.then_ k (fun _ h => .inl h)
theorem Fr.mono {W W1 : World} {S S' : Nat → Prop} (h : Fr W W1 S) (hs : ∀ q, S q → S' q) : Fr W W1 S' := ⟨h.1, h.2.mono hs⟩
theorem Fr.set {W W1 : World} {S : Nat → Prop} (h : Fr W W1 S) {p : Addr} (hp : S p.block ∨ W.heap.size ≤ p.block) (u : Value) : Fr W (W1.setCell p u) S :=
 ⟨h.1.setCell (Nat.zero_le _) u, by
   refine ⟨Nat.le_trans h.2.1 (by simp [World.setCell]), fun i hi hn => ?_⟩
   rw [Below.heap_setCell _ _ _ _ (fun e => by subst e; rcases hp with hp | hp; exact hn hp; omega)]
   exact h.2.2 i hi hn⟩
theorem Fr.size {W W1 : World} {S : Nat → Prop} (h : Fr W W1 S) : W.heap.size ≤ W1.heap.size := h.2.1
theorem Fr.blk {W W1 : World} {S : Nat → Prop} (h : Fr W W1 S) {q : Nat} {o : Obj} (hq : W.heap[q]? = some o) (hn : ¬ S q) : W1.heap[q]? = some o := by
 have hlt : q < W.heap.size := (Array.getElem?_eq_some_iff.1 hq).1
 rw [h.2.2 q hlt hn]; exact hq
theorem Fr.cell {W W1 : World} {S : Nat → Prop} (h : Fr W W1 S) {p : Addr} {v : Value} (hc : W.cell? p = some v) (hn : ¬ S p.block) : W1.cell? p = some v :=
 (World.cell?_of_block (h.2.2 p.block (World.block_lt_of_cell? W p hc) hn)).trans hc
section
variable {P : Program} {ops : Array Oper} {Q : Exit → Act → World → Prop} {md : Region.Mode} {S : World → Prop}
theorem hT (i : Nat) {oi : Oper} {v : Value} {fuel : Nat} {l l' : Array Bool} {a a' : Act} {w : World} (h : wpAnyH P md ops Q S fuel l' a' w) (hi : ops[i]? = some oi := by rfl) (hs : Region.noSelect ops = true := by kernel_rfl) (hf : Region.free md ops l i = true := by kernel_rfl) (hr : (Region.ready md ops l).contains i = true := by kernel_rfl)
  (hQ : ∀ c a w, Q (.panic c) (a.put oi.dst v) w → Q (.panic c) a w := by exact fun _ _ _ h => h) (hg : Region.wanted oi (yielded ops a.tmps) = true := by rfl) (hy : ∀ w, S w → (execOp a.eval oi).run P w = .ok (.value v) w := by (intro w hSw; (try dsimp only at hSw); go_simp <;> with_reducible rfl)) (hS : S w := by assumption)
  (hl : l.setIfInBounds i true = l' := by first | (simp only [List.setIfInBounds_toArray, List.set_cons_zero, List.set_cons_succ]; rfl) | rfl) (ha : a.put oi.dst v = a' := by first | (simp only [Act.put, List.getElem_toArray, List.getElem_cons_zero, List.getElem_cons_succ, List.setIfInBounds_toArray, List.set_cons_zero, List.set_cons_succ]; rfl) | rfl) : wpAnyH P md ops Q S (fuel + 1) l a w :=
 wpAnyH_take hi hs hf hr hQ (.inl ⟨hg, hy⟩) hS (by rw [hl, ha]; exact h)
theorem hO (i : Nat) {oi : Oper} {fuel : Nat} {l l' : Array Bool} {a a' : Act} {w : World} (h : wpAnyH P md ops Q S fuel l' a' w) (hi : ops[i]? = some oi := by rfl) (hs : Region.noSelect ops = true := by kernel_rfl) (hf : Region.free md ops l i = true := by kernel_rfl) (hr : (Region.ready md ops l).contains i = true := by kernel_rfl)
  (hQ : ∀ c a w, Q (.panic c) (a.put oi.dst undef) w → Q (.panic c) a w := by exact fun _ _ _ h => h) (hg : Region.wanted oi (yielded ops a.tmps) = false := by rfl) (hS : S w := by assumption)
  (hl : l.setIfInBounds i true = l' := by first | (simp only [List.setIfInBounds_toArray, List.set_cons_zero, List.set_cons_succ]; rfl) | rfl) (ha : a.put oi.dst undef = a' := by first | (simp only [Act.put, List.getElem_toArray, List.getElem_cons_zero, List.getElem_cons_succ, List.setIfInBounds_toArray, List.set_cons_zero, List.set_cons_succ]; rfl) | rfl) : wpAnyH P md ops Q S (fuel + 1) l a w :=
 wpAnyH_take hi hs hf hr hQ (.inr ⟨hg, rfl⟩) hS (by rw [hl, ha]; exact h)
end
theorem qA1 {W : World} {p : Addr} {v : Value} (o : Obj) (hc : W.cell? p = some v) : (W.alloc o).cell? p = some v :=
 (Below.cell (qAg (Below.refl _ _) o) (World.block_lt_of_cell? W p hc)).trans hc
theorem qAI {W : World} {p : Addr} {v : Value} (hc : W.cell? p = some v) (c : Addr) (u : Value) (hne : p.block ≠ c.block) : (W.setCell c u).cell? p = some v :=
 (World.cell?_setCell_other _ _ _ _ (fun e => hne (congrArg Addr.block e.symm))).trans hc
theorem qAR {W : World} {S : Nat → Prop} {p : Addr} {v : Value} {g : Nat} (hc : W.cell? p = some v) (j : Nat) (u : Value) (hn : ¬ S p.block) (hg : S g) : (W.setCell ⟨g, j, none⟩ u).cell? p = some v :=
 qAI hc _ _ (fun e => hn (by rw [e]; exact hg))
theorem Fr.below {W W1 : World} {S : Nat → Prop} {n : Nat} (h : Fr W W1 S) (hs : ∀ q, S q → n ≤ q) (hn : n ≤ W.heap.size) : Below n W W1 :=
 ⟨h.1.os, h.1.tape, h.1.output, h.2.1, fun k hk => h.2.2 k (by omega) (fun e => by have := hs k e; omega)⟩
def ShV (W : World) (g : Nat) (m : Bool) (st : List Int) (tr : List S160) (S okT : Nat → Prop) (v1 v2 : Value) : Prop :=
 W.heap[g]? = some (.cells #[.bool m, v1, v2] 113 (0, 0)) ∧ S g ∧ Kd.N (Kd.int .i64) 3 W 0 (fun q => S q ∧ q ≠ g) v1 st ∧ (∀ k, v2.ownBlock = some k → S k) ∧ Kd.N k160 160 W 0 (fun q => (S q ∨ okT q) ∧ q ≠ g ∧ some q ≠ v1.ownBlock) v2 tr
def ShO (W : World) (g : Nat) (m : Bool) (st : List Int) (tr : List S160) (S okT : Nat → Prop) : Prop := ∃ v1 v2, ShV W g m st tr S okT v1 v2
theorem ShO.below {W W' : World} {g : Nat} {m : Bool} {st : List Int} {tr : List S160} {S okT : Nat → Prop} (h : ShO W g m st tr S okT) (hb : Below W.heap.size W W') : ShO W' g m st tr (fun q => (S q ∧ q < W.heap.size) ∨ W'.heap.size ≤ q) okT := by
 obtain ⟨v1, v2, hg, h0, h1, h2, h3⟩ := h
 have h4 := Kd.N_lt h3
 refine ⟨v1, v2, qAk hg hb, .inl ⟨h0, qAZ hg⟩, ?_, fun k hk => .inl ⟨h2 k hk, h4 k hk⟩, ?_⟩
 ·exact Kd.N_mono (Kd.N_below (Kd.N_bound h1) hb) (fun q hq => ⟨.inl ⟨hq.1.1, hq.2⟩, hq.1.2⟩)
 refine Kd.N_mono (Kd.N_below (Kd.N_bound h3) hb) (fun q hq => ⟨?_, hq.1.2⟩)
 rcases hq.1.1 with h | h
 ·exact .inl (.inl ⟨h, hq.2⟩)
 exact .inr h
theorem ShO.mono {W : World} {g : Nat} {m : Bool} {st : List Int} {tr : List S160} {S S' okT okT' : Nat → Prop} (h : ShO W g m st tr S okT) (hs : ∀ q, S q → S' q) (hk : ∀ q, okT q → okT' q) : ShO W g m st tr S' okT' := by
 obtain ⟨v1, v2, hg, h0, h1, h2, h3⟩ := h
 refine ⟨v1, v2, hg, hs _ h0, Kd.N_mono h1 (fun q hq => ⟨hs _ hq.1, hq.2⟩), fun k hk => hs _ (h2 k hk), Kd.N_mono h3 (fun q hq => ⟨?_, hq.2⟩)⟩
 rcases hq.1 with h | h
 ·exact .inl (hs _ h)
 exact .inr (hk _ h)
theorem ShO.lt {W : World} {g : Nat} {m : Bool} {st : List Int} {tr : List S160} {S okT : Nat → Prop} (h : ShO W g m st tr S okT) : g < W.heap.size := by
 obtain ⟨v1, v2, hg, _⟩ := h
 exact qAZ hg
def topV (st : List Int) : Value := .tuple #[.int .i64 (st.getLast?.getD 0), .bool st.getLast?.isSome]
theorem qCR {W : World} {A : Option Addr} {n : Nat} {xs : List Int} (h : Kd.C (Kd.int .i64) W A n xs) (i : Nat) (hi : i < n) : ∃ ad, A = some ad ∧ W.cell? (ad.add i) = some (.int .i64 (xs.getD i 0)) := by
 obtain ⟨ad, c, e, _, hK, hc0⟩ := Kd.C_get h (0 : Int) (i : Int) (by omega) (by omega)
 obtain rfl : c = [Value.int .i64 (xs.getD i 0)] := hK
 refine ⟨ad, e, ?_⟩
 have h2 := hc0 0 _ rfl
 rwa [show ((i : Int).toNat * (Kd.int .i64).sz + 0) = i from Nat.mul_one i] at h2
theorem take_o {g : Nat} {m : Bool} {st : List Int} {tr : List S160} {S okT : Nat → Prop} {W : World} (H : ShO W g m st tr S okT) (hl : st.length ≤ 2000000) :
  Calls Tryz.prog 114 #[.pointer (some ⟨g, 0, none⟩)] W fun e w' => e = .returned (topV st) ∧ ShO w' g m st.dropLast tr S okT ∧ Fr W w' S := by
 obtain ⟨v1, v2, hg, hb, hN1, hSv, hN2⟩ := H
 obtain ⟨A, c, rfl⟩ := Kd.N_slice hN1
 obtain ⟨B, d, rfl⟩ := Kd.N_slice hN2
 rcases List.eq_nil_or_concat st with rfl | ⟨l, x, rfl⟩
 ·refine (take_none g m A c B tr.length d W hg).mono ?_
  rintro e w' ⟨rfl, rfl⟩
  exact ⟨rfl, ⟨_, _, hg, hb, hN1, hSv, hN2⟩, Fr.refl _ _⟩
 ·rw [List.concat_eq_append] at *
  have hn : (l ++ [x]).length = l.length + 1 := by simp
  obtain ⟨q, cap, hq, _⟩ := Kd.N_form hN1 (by omega)
  injection hq with hqA hqn hqc
  subst hqA
  have hC := Kd.N_reads' hN1
  obtain ⟨ad, had, hcell⟩ := qCR hC.2.2 l.length (by omega)
  injection had with had
  subst had
  have hx : (l ++ [x]).getD l.length 0 = x := by simp
  rw [hx] at hcell
  rw [hn] at hg
  refine (take_some g m ⟨q, 0, none⟩ l.length c B tr.length d x W hg hcell (by omega) (by omega)).mono ?_
  rintro e w' ⟨rfl, rfl⟩
  refine ⟨by simp [topV], ⟨.slice (some ⟨q, 0, none⟩) l.length c, .slice B tr.length d, ?_, hb, ?_, hSv, ?_⟩, Fr.set (Fr.refl _ _) (.inl hb) _⟩
  ·exact ShBox.set hg (some ⟨q, 0, none⟩) l.length c
  ·have := Kd.N_take hN1 (m := l.length) (by omega)
   rw [show (l ++ [x]).take l.length = l from by simp] at this
   rw [show (l ++ [x]).dropLast = l from by simp]
   exact Kd.N_far this (fun _ hk => hk.2) _
  ·exact Kd.N_far hN2 (fun _ hk => hk.2.1) _
def qBt (t : Int) (st : List Int) : Bool := st.getLast? == some t
theorem qDW {g : Nat} {m : Bool} {st : List Int} {tr : List S160} {S okT : Nat → Prop} {W : World} (t : Int) (H : ShO W g m st tr S okT) (hl : st.length ≤ 2000000) :
  Calls Tryz.prog 88 #[.pointer (some ⟨g, 0, none⟩), .int .i64 t] W fun e w' => e = .returned (.bool (qBt t st)) ∧ ShO w' g m st.dropLast tr S okT ∧ Fr W w' S := by
 have HT := am (take_o H hl)
 have hgl : g < W.heap.size := H.lt
 clear H hl
 obtain ⟨x, hx⟩ : ∃ x, x = st.getLast?.getD 0 := ⟨_, rfl⟩
 obtain ⟨b, hb⟩ : ∃ b, b = st.getLast?.isSome := ⟨_, rfl⟩
 obtain ⟨sd, hsd⟩ : ∃ sd, sd = st.dropLast := ⟨_, rfl⟩
 have hr : qBt t st = (b && (x == t)) := by
  rw [hb, hx]
  unfold qBt
  cases st.getLast? <;> simp
 unfold topV at HT
 rw [hr]
 rw [← hx, ← hb, ← hsd] at HT
 rw [← hsd]
 clear hr hx hb hsd
 go_enter Tryz.func88, Tryz.ntmps88
 go_wp2_with (go_at_call 114; refine HT.out.mono ?_; rintro e w1 ⟨rfl, hS1, hb1⟩; have HS1 := am hS1; have HB1 := am hb1; clear hS1 hb1)
 all_goals (go_ret; exact ⟨by simp_all, HS1.out, HB1.out⟩)
section
variable {ops : Array Oper} {rest : List Oper} {o : Oper} {a : Act} {Q : Exit → Act → World → Prop} {Kc : Act → World → Prop}
theorem push_done {W w3 : World} {g : Nat} {m : Bool} {st st' : List Int} {tr : List S160} {S okT : Nat → Prop} {v1 v2 v3 : Value} (H : ShV W g m st tr S okT v1 v2) (hN : Kd.N (Kd.int .i64) 3 w3 0 (fun q => S q ∧ q ≠ g) v3 st') (hB : Below 0 W w3) (hgr : W.grownBy w3 v1.ownBlock) (hat : v3.ownBlock = v1.ownBlock ∨ ∃ b, v3.ownBlock = some b ∧ W.heap.size ≤ b) :
  w3.heap[g]? = some (.cells #[.bool m, v1, v2] 113 (0, 0)) ∧ Fr W w3 S ∧ ShO (w3.setCell ⟨g, 1, none⟩ v3) g m st' tr S okT ∧ Fr W (w3.setCell ⟨g, 1, none⟩ v3) S := by
 obtain ⟨hg, h0, h1, h2, h3⟩ := H
 have hlt := qAZ hg
 have hne : some g ≠ v1.ownBlock := fun e => (h1.1 g e.symm).2 rfl
 have hg3 : w3.heap[g]? = some (.cells #[.bool m, v1, v2] 113 (0, 0)) := (hgr.block g hlt hne).trans hg
 have hfr : Fr W w3 S := ⟨hB, hgr.size, fun i hi hn => hgr.block i hi (fun e => hn (h1.1 i e.symm).1)⟩
 refine ⟨hg3, hfr, ⟨v3, v2, qAQ (cs := #[.bool m, v1, v2]) hg3 1 _ rfl, h0, Kd.N_far hN (fun _ hk => hk.2) _, h2, ?_⟩, Fr.set hfr (.inl h0) _⟩
 have h4 := Kd.N_after (Kd.N_mono h3 (fun q hq => show ((S q ∨ okT q) ∧ q ≠ g) ∧ some q ≠ v1.ownBlock from ⟨⟨hq.1, hq.2.1⟩, hq.2.2⟩)) hgr hat
 exact Kd.N_mono (Kd.N_far h4 (fun q hk => hk.1.2) _) (fun q hq => ⟨hq.1.1, hq.1.2, hq.2⟩)
theorem qDT {W : World} {g : Nat} {m : Bool} {st : List Int} {tr : List S160} {S okT : Nat → Prop} {v1 v2 : Value} (H : ShV W g m st tr S okT v1 v2) (y : Int) (hgd : o.guard = none) (s x : Operand)
  (ho : o.op = .call { callee := .builtin .append, args := #[s, x], argTypes := #[22, 22] }) (hs : a.eval s = v1) (hx : a.eval x = .slice (some ⟨W.heap.size, 0, none⟩) 1 1) (hfr : ∀ k, W.heap.size ≤ k → S k) (hl : st.length ≤ 2000000)
  (h : ∀ A3 c3 w3, w3.heap[g]? = some (.cells #[.bool m, v1, v2] 113 (0, 0)) → Fr W w3 S → ShO (w3.setCell ⟨g, 1, none⟩ (.slice A3 (st.length + 1) c3)) g m (st ++ [y]) tr S okT → Fr W (w3.setCell ⟨g, 1, none⟩ (.slice A3 (st.length + 1) c3)) S → wpList Tryz.prog ops Q rest (a.put o.dst (.slice A3 (st.length + 1) c3)) w3) :
  wpList Tryz.prog ops Q (o :: rest) a (W.alloc (.cells #[.int .i64 y] 3)) := by
 refine Kd.N_append (Kd.int .i64) (w0 := W) 0 hgd s x 22 3 _ 8 ho Tryz.underlying22 qCK rfl (by decide) (by decide) v1 st y [.int .i64 y] (fun q => S q ∧ q ≠ g) (fun _ => False) hs hx (fun _ _ => rfl) (fun _ h => h.elim) (fun k hk => ⟨hfr k hk, fun e => by have := qAZ H.1; omega⟩) H.2.2.1 (Below.refl _ _) (Nat.zero_le _) (by omega) ?_
 intro v3 w3 hN hB hgr hat
 obtain ⟨h5, h5b, h6, h7⟩ := push_done H hN hB hgr hat
 obtain ⟨A3, c3, rfl⟩ := Kd.N_slice hN
 rw [show (st ++ [y]).length = st.length + 1 by simp] at *
 exact h A3 c3 w3 h5 h5b h6 h7
theorem qBd {W : World} {g : Nat} {m : Bool} {st : List Int} {tr : List S160} {S okT : Nat → Prop} {v1 v2 : Value} (H : ShV W g m st tr S okT v1 v2) (y : Int) (hw : Region.wanted o (yielded ops a.tmps) = true) (s x : Operand)
  (ho : o.op = .call { callee := .builtin .append, args := #[s, x], argTypes := #[22, 22] }) (hs : a.eval s = v1) (hx : a.eval x = .slice (some ⟨W.heap.size, 0, none⟩) 1 1) (hfr : ∀ k, W.heap.size ≤ k → S k) (hl : st.length ≤ 2000000)
  (h : ∀ A3 c3 w3, w3.heap[g]? = some (.cells #[.bool m, v1, v2] 113 (0, 0)) → Fr W w3 S → ShO (w3.setCell ⟨g, 1, none⟩ (.slice A3 (st.length + 1) c3)) g m (st ++ [y]) tr S okT → Fr W (w3.setCell ⟨g, 1, none⟩ (.slice A3 (st.length + 1) c3)) S → Kc (a.put o.dst (.slice A3 (st.length + 1) c3)) w3) :
  if Region.wanted o (yielded ops a.tmps) = true then Oper.wp Tryz.prog o a (W.alloc (.cells #[.int .i64 y] 3)) Kc Q else Kc (a.put o.dst undef) (W.alloc (.cells #[.int .i64 y] 3)) := by
 refine Kd.N_append_step (Kd.int .i64) (w0 := W) 0 hw s x 22 3 _ 8 ho Tryz.underlying22 qCK rfl (by decide) (by decide) v1 st y [.int .i64 y] (fun q => S q ∧ q ≠ g) (fun _ => False) hs hx (fun _ _ => rfl) (fun _ h => h.elim) (fun k hk => ⟨hfr k hk, fun e => by have := qAZ H.1; omega⟩) H.2.2.1 (Below.refl _ _) (Nat.zero_le _) (by omega) ?_
 intro v3 w3 hN hB hgr hat
 obtain ⟨h5, h5b, h6, h7⟩ := push_done H hN hB hgr hat
 obtain ⟨A3, c3, rfl⟩ := Kd.N_slice hN
 rw [show (st ++ [y]).length = st.length + 1 by simp] at *
 exact h A3 c3 w3 h5 h5b h6 h7
end
end Q
end
section
namespace Ty1
open Go.RowKit
theorem qA5 (a : Int) (w : World) (h1 : 1 ≤ a) (h2 : a ≤ 3) : Calls Tryz.prog 80 #[.int .i64 a] w fun e w' => e = .returned (.bool true) ∧ w = w' := by
 have hb : decide (1 ≤ a) = true := decide_eq_true h1
 have hc : decide (a ≤ 3) = true := decide_eq_true h2
 go_enter Tryz.func80, Tryz.ntmps80
 go_wp2
 go_ret
 exact ⟨rfl, rfl⟩
theorem valued_no (a : Int) (w : World) (h : a < 1 ∨ 3 < a) : Calls Tryz.prog 80 #[.int .i64 a] w fun e w' => e = .returned (.bool false) ∧ w = w' := by
 rcases h with h | h
 ·have hb : decide (1 ≤ a) = false := decide_eq_false (by omega)
  go_enter Tryz.func80, Tryz.ntmps80
  go_wp2
  go_ret
  exact ⟨rfl, rfl⟩
 have hb : decide (1 ≤ a) = true := decide_eq_true (by omega)
 have hc : decide (a ≤ 3) = false := decide_eq_false (by omega)
 go_enter Tryz.func80, Tryz.ntmps80
 go_wp2
 go_ret
 exact ⟨rfl, rfl⟩
theorem unary_arg (op t : Int) (w : World) (h : op < 1 ∨ 4 < op) : Calls Tryz.prog 55 #[.int .i64 op, .int .i64 t] w fun e w' => e = .returned (.tuple #[.int .i64 0, .int .i64 1]) ∧ w = w' := by
 rcases h with h | h
 ·have hb : decide (op < 1) = true := decide_eq_true h
  go_enter Tryz.func55, Tryz.ntmps55
  go_wp2
  go_ret2
  exact ⟨rfl, rfl⟩
 have hb : decide (op < 1) = false := decide_eq_false (by omega)
 have hc : decide (4 < op) = true := decide_eq_true h
 go_enter Tryz.func55, Tryz.ntmps55
 go_wp2
 go_ret2
 exact ⟨rfl, rfl⟩
theorem unary_type (op t : Int) (w : World) (h1 : 1 ≤ op) (h2 : op ≤ 4) (h : t < 1 ∨ 3 < t) : Calls Tryz.prog 55 #[.int .i64 op, .int .i64 t] w fun e w' => e = .returned (.tuple #[.int .i64 0, .int .i64 22]) ∧ w = w' := by
 have hb : decide (op < 1) = false := decide_eq_false (by omega)
 have hc : decide (4 < op) = false := decide_eq_false (by omega)
 go_enter Tryz.func55, Tryz.ntmps55
 go_wp2_with (go_at_call 80; refine (valued_no _ _ h).mono ?_; rintro e w' ⟨rfl, rfl⟩)
 go_ret2
 exact ⟨rfl, rfl⟩
theorem big_1 (w : World) : (Instr.index 153 (.agg #[.int .i64 0, .int .i64 0, .int .i64 0, .int .i64 0, .int .i64 0, .int .i64 1, .int .i64 2, .int .i64 0, .int .i64 0, .int .i64 0, .int .i64 0, .int .i64 3, .int .i64 0, .int .i64 0, .int .i64 1, .int .i64 0, .int .i64 0, .int .i64 2, .int .i64 0, .int .i64 0]) (.int .i64 1)).run Tryz.prog w = .ok (.agg #[.int .i64 0, .int .i64 1, .int .i64 2, .int .i64 0]) w := by kernel_rfl
theorem big_2 (w : World) : (Instr.index 153 (.agg #[.int .i64 0, .int .i64 0, .int .i64 0, .int .i64 0, .int .i64 0, .int .i64 1, .int .i64 2, .int .i64 0, .int .i64 0, .int .i64 0, .int .i64 0, .int .i64 3, .int .i64 0, .int .i64 0, .int .i64 1, .int .i64 0, .int .i64 0, .int .i64 2, .int .i64 0, .int .i64 0]) (.int .i64 2)).run Tryz.prog w = .ok (.agg #[.int .i64 0, .int .i64 0, .int .i64 0, .int .i64 3]) w := by kernel_rfl
theorem big_3 (w : World) : (Instr.index 153 (.agg #[.int .i64 0, .int .i64 0, .int .i64 0, .int .i64 0, .int .i64 0, .int .i64 1, .int .i64 2, .int .i64 0, .int .i64 0, .int .i64 0, .int .i64 0, .int .i64 3, .int .i64 0, .int .i64 0, .int .i64 1, .int .i64 0, .int .i64 0, .int .i64 2, .int .i64 0, .int .i64 0]) (.int .i64 3)).run Tryz.prog w = .ok (.agg #[.int .i64 0, .int .i64 0, .int .i64 1, .int .i64 0]) w := by kernel_rfl
theorem big_4 (w : World) : (Instr.index 153 (.agg #[.int .i64 0, .int .i64 0, .int .i64 0, .int .i64 0, .int .i64 0, .int .i64 1, .int .i64 2, .int .i64 0, .int .i64 0, .int .i64 0, .int .i64 0, .int .i64 3, .int .i64 0, .int .i64 0, .int .i64 1, .int .i64 0, .int .i64 0, .int .i64 2, .int .i64 0, .int .i64 0]) (.int .i64 4)).run Tryz.prog w = .ok (.agg #[.int .i64 0, .int .i64 2, .int .i64 0, .int .i64 0]) w := by kernel_rfl
theorem row_1_1 (w : World) : (Instr.index 152 (.agg #[.int .i64 0, .int .i64 1, .int .i64 2, .int .i64 0]) (.int .i64 1)).run Tryz.prog w = .ok (.int .i64 1) w := by kernel_rfl
theorem row_1_2 (w : World) : (Instr.index 152 (.agg #[.int .i64 0, .int .i64 1, .int .i64 2, .int .i64 0]) (.int .i64 2)).run Tryz.prog w = .ok (.int .i64 2) w := by kernel_rfl
theorem row_1_3 (w : World) : (Instr.index 152 (.agg #[.int .i64 0, .int .i64 1, .int .i64 2, .int .i64 0]) (.int .i64 3)).run Tryz.prog w = .ok (.int .i64 0) w := by kernel_rfl
theorem row_2_1 (w : World) : (Instr.index 152 (.agg #[.int .i64 0, .int .i64 0, .int .i64 0, .int .i64 3]) (.int .i64 1)).run Tryz.prog w = .ok (.int .i64 0) w := by kernel_rfl
theorem row_2_2 (w : World) : (Instr.index 152 (.agg #[.int .i64 0, .int .i64 0, .int .i64 0, .int .i64 3]) (.int .i64 2)).run Tryz.prog w = .ok (.int .i64 0) w := by kernel_rfl
theorem row_2_3 (w : World) : (Instr.index 152 (.agg #[.int .i64 0, .int .i64 0, .int .i64 0, .int .i64 3]) (.int .i64 3)).run Tryz.prog w = .ok (.int .i64 3) w := by kernel_rfl
theorem row_3_1 (w : World) : (Instr.index 152 (.agg #[.int .i64 0, .int .i64 0, .int .i64 1, .int .i64 0]) (.int .i64 1)).run Tryz.prog w = .ok (.int .i64 0) w := by kernel_rfl
theorem row_3_2 (w : World) : (Instr.index 152 (.agg #[.int .i64 0, .int .i64 0, .int .i64 1, .int .i64 0]) (.int .i64 2)).run Tryz.prog w = .ok (.int .i64 1) w := by kernel_rfl
theorem row_3_3 (w : World) : (Instr.index 152 (.agg #[.int .i64 0, .int .i64 0, .int .i64 1, .int .i64 0]) (.int .i64 3)).run Tryz.prog w = .ok (.int .i64 0) w := by kernel_rfl
theorem row_4_1 (w : World) : (Instr.index 152 (.agg #[.int .i64 0, .int .i64 2, .int .i64 0, .int .i64 0]) (.int .i64 1)).run Tryz.prog w = .ok (.int .i64 2) w := by kernel_rfl
theorem row_4_2 (w : World) : (Instr.index 152 (.agg #[.int .i64 0, .int .i64 2, .int .i64 0, .int .i64 0]) (.int .i64 2)).run Tryz.prog w = .ok (.int .i64 0) w := by kernel_rfl
theorem row_4_3 (w : World) : (Instr.index 152 (.agg #[.int .i64 0, .int .i64 2, .int .i64 0, .int .i64 0]) (.int .i64 3)).run Tryz.prog w = .ok (.int .i64 0) w := by kernel_rfl
theorem unary_1_1 (w : World) : Calls Tryz.prog 55 #[.int .i64 1, .int .i64 1] w fun e w' => e = .returned (.tuple #[.int .i64 1, .int .i64 0]) ∧ w = w' := by
 have hbig := big_1
 have hrow := row_1_1
 go_enter Tryz.func55, Tryz.ntmps55
 go_wp2_with (go_at_call 80; refine (qA5 _ _ (by omega) (by omega)).mono ?_; rintro e w' ⟨rfl, rfl⟩)
 go_ret2
 exact ⟨rfl, rfl⟩
theorem unary_1_2 (w : World) : Calls Tryz.prog 55 #[.int .i64 1, .int .i64 2] w fun e w' => e = .returned (.tuple #[.int .i64 2, .int .i64 0]) ∧ w = w' := by
 have hbig := big_1
 have hrow := row_1_2
 go_enter Tryz.func55, Tryz.ntmps55
 go_wp2_with (go_at_call 80; refine (qA5 _ _ (by omega) (by omega)).mono ?_; rintro e w' ⟨rfl, rfl⟩)
 go_ret2
 exact ⟨rfl, rfl⟩
theorem unary_1_3 (w : World) : Calls Tryz.prog 55 #[.int .i64 1, .int .i64 3] w fun e w' => e = .returned (.tuple #[.int .i64 0, .int .i64 22]) ∧ w = w' := by
 have hbig := big_1
 have hrow := row_1_3
 go_enter Tryz.func55, Tryz.ntmps55
 go_wp2_with (go_at_call 80; refine (qA5 _ _ (by omega) (by omega)).mono ?_; rintro e w' ⟨rfl, rfl⟩)
 go_ret2
 exact ⟨rfl, rfl⟩
theorem unary_2_1 (w : World) : Calls Tryz.prog 55 #[.int .i64 2, .int .i64 1] w fun e w' => e = .returned (.tuple #[.int .i64 0, .int .i64 22]) ∧ w = w' := by
 have hbig := big_2
 have hrow := row_2_1
 go_enter Tryz.func55, Tryz.ntmps55
 go_wp2_with (go_at_call 80; refine (qA5 _ _ (by omega) (by omega)).mono ?_; rintro e w' ⟨rfl, rfl⟩)
 go_ret2
 exact ⟨rfl, rfl⟩
theorem unary_2_2 (w : World) : Calls Tryz.prog 55 #[.int .i64 2, .int .i64 2] w fun e w' => e = .returned (.tuple #[.int .i64 0, .int .i64 22]) ∧ w = w' := by
 have hbig := big_2
 have hrow := row_2_2
 go_enter Tryz.func55, Tryz.ntmps55
 go_wp2_with (go_at_call 80; refine (qA5 _ _ (by omega) (by omega)).mono ?_; rintro e w' ⟨rfl, rfl⟩)
 go_ret2
 exact ⟨rfl, rfl⟩
theorem unary_2_3 (w : World) : Calls Tryz.prog 55 #[.int .i64 2, .int .i64 3] w fun e w' => e = .returned (.tuple #[.int .i64 3, .int .i64 0]) ∧ w = w' := by
 have hbig := big_2
 have hrow := row_2_3
 go_enter Tryz.func55, Tryz.ntmps55
 go_wp2_with (go_at_call 80; refine (qA5 _ _ (by omega) (by omega)).mono ?_; rintro e w' ⟨rfl, rfl⟩)
 go_ret2
 exact ⟨rfl, rfl⟩
theorem unary_3_1 (w : World) : Calls Tryz.prog 55 #[.int .i64 3, .int .i64 1] w fun e w' => e = .returned (.tuple #[.int .i64 0, .int .i64 22]) ∧ w = w' := by
 have hbig := big_3
 have hrow := row_3_1
 go_enter Tryz.func55, Tryz.ntmps55
 go_wp2_with (go_at_call 80; refine (qA5 _ _ (by omega) (by omega)).mono ?_; rintro e w' ⟨rfl, rfl⟩)
 go_ret2
 exact ⟨rfl, rfl⟩
theorem unary_3_2 (w : World) : Calls Tryz.prog 55 #[.int .i64 3, .int .i64 2] w fun e w' => e = .returned (.tuple #[.int .i64 1, .int .i64 0]) ∧ w = w' := by
 have hbig := big_3
 have hrow := row_3_2
 go_enter Tryz.func55, Tryz.ntmps55
 go_wp2_with (go_at_call 80; refine (qA5 _ _ (by omega) (by omega)).mono ?_; rintro e w' ⟨rfl, rfl⟩)
 go_ret2
 exact ⟨rfl, rfl⟩
theorem unary_3_3 (w : World) : Calls Tryz.prog 55 #[.int .i64 3, .int .i64 3] w fun e w' => e = .returned (.tuple #[.int .i64 0, .int .i64 22]) ∧ w = w' := by
 have hbig := big_3
 have hrow := row_3_3
 go_enter Tryz.func55, Tryz.ntmps55
 go_wp2_with (go_at_call 80; refine (qA5 _ _ (by omega) (by omega)).mono ?_; rintro e w' ⟨rfl, rfl⟩)
 go_ret2
 exact ⟨rfl, rfl⟩
theorem unary_4_1 (w : World) : Calls Tryz.prog 55 #[.int .i64 4, .int .i64 1] w fun e w' => e = .returned (.tuple #[.int .i64 2, .int .i64 0]) ∧ w = w' := by
 have hbig := big_4
 have hrow := row_4_1
 go_enter Tryz.func55, Tryz.ntmps55
 go_wp2_with (go_at_call 80; refine (qA5 _ _ (by omega) (by omega)).mono ?_; rintro e w' ⟨rfl, rfl⟩)
 go_ret2
 exact ⟨rfl, rfl⟩
theorem unary_4_2 (w : World) : Calls Tryz.prog 55 #[.int .i64 4, .int .i64 2] w fun e w' => e = .returned (.tuple #[.int .i64 0, .int .i64 22]) ∧ w = w' := by
 have hbig := big_4
 have hrow := row_4_2
 go_enter Tryz.func55, Tryz.ntmps55
 go_wp2_with (go_at_call 80; refine (qA5 _ _ (by omega) (by omega)).mono ?_; rintro e w' ⟨rfl, rfl⟩)
 go_ret2
 exact ⟨rfl, rfl⟩
theorem unary_4_3 (w : World) : Calls Tryz.prog 55 #[.int .i64 4, .int .i64 3] w fun e w' => e = .returned (.tuple #[.int .i64 0, .int .i64 22]) ∧ w = w' := by
 have hbig := big_4
 have hrow := row_4_3
 go_enter Tryz.func55, Tryz.ntmps55
 go_wp2_with (go_at_call 80; refine (qA5 _ _ (by omega) (by omega)).mono ?_; rintro e w' ⟨rfl, rfl⟩)
 go_ret2
 exact ⟨rfl, rfl⟩
def unary (op t : Int) : Int × Int :=
 if op < 1 ∨ 4 < op then (0, 1)
 else if t < 1 ∨ 3 < t then (0, 22)
 else if op = 1 ∧ t = 1 then (1, 0)
 else if op = 1 ∧ t = 2 then (2, 0)
 else if op = 2 ∧ t = 3 then (3, 0)
 else if op = 3 ∧ t = 2 then (1, 0)
 else if op = 4 ∧ t = 1 then (2, 0)
 else (0, 22)
theorem unary_any (op t : Int) (w : World) : Calls Tryz.prog 55 #[.int .i64 op, .int .i64 t] w fun e w' => e = .returned (.tuple #[.int .i64 (unary op t).1, .int .i64 (unary op t).2]) ∧ w = w' := by
 by_cases h : op < 1 ∨ 4 < op
 ·have e : unary op t = (0, 1) := by unfold unary; rw [if_pos h]
  rw [e]
  exact unary_arg op t w h
 by_cases k : t < 1 ∨ 3 < t
 ·have e : unary op t = (0, 22) := by unfold unary; rw [if_neg h, if_pos k]
  rw [e]
  exact unary_type op t w (by omega) (by omega) k
 have ho : op = 1 ∨ op = 2 ∨ op = 3 ∨ op = 4 := by omega
 have ht : t = 1 ∨ t = 2 ∨ t = 3 := by omega
 rcases ho with rfl | rfl | rfl | rfl <;> rcases ht with rfl | rfl | rfl
 ·exact unary_1_1 w
 ·exact unary_1_2 w
 ·exact unary_1_3 w
 ·exact unary_2_1 w
 ·exact unary_2_2 w
 ·exact unary_2_3 w
 ·exact unary_3_1 w
 ·exact unary_3_2 w
 ·exact unary_3_3 w
 ·exact unary_4_1 w
 ·exact unary_4_2 w
 exact unary_4_3 w
end Ty1
end
section
namespace Ty2
open Go.RowKit Ty1
def binary (op a b : Int) : Int × Int :=
 if op < 1 ∨ 13 < op then (0, 1)
 else if a ≠ b ∨ (a < 1 ∨ 3 < a) then (0, 22)
 else if op ≤ 4 then (if a = 3 then (0, 22) else (a, 0))
 else if op = 5 then (if a = 1 then (1, 0) else (0, 22))
 else if op ≤ 7 then (3, 0)
 else if op ≤ 11 then (if a = 3 then (0, 22) else (3, 0))
 else (if a = 3 then (3, 0) else (0, 22))
theorem binary_arg (op a b : Int) (w : World) (h : op < 1 ∨ 13 < op) : Calls Tryz.prog 56 #[.int .i64 op, .int .i64 a, .int .i64 b] w fun e w' => e = .returned (.tuple #[.int .i64 0, .int .i64 1]) ∧ w = w' := by
 rcases h with h | h
 ·have hb : decide (op < 1) = true := decide_eq_true h
  go_enter Tryz.func56, Tryz.ntmps56
  go_wp2
  go_ret2
  exact ⟨rfl, rfl⟩
 have hb : decide (op < 1) = false := decide_eq_false (by omega)
 have hc : decide (13 < op) = true := decide_eq_true h
 go_enter Tryz.func56, Tryz.ntmps56
 go_wp2
 go_ret2
 exact ⟨rfl, rfl⟩
theorem binary_ne (op a b : Int) (w : World) (h1 : 1 ≤ op) (h2 : op ≤ 13) (h : a ≠ b) : Calls Tryz.prog 56 #[.int .i64 op, .int .i64 a, .int .i64 b] w fun e w' => e = .returned (.tuple #[.int .i64 0, .int .i64 22]) ∧ w = w' := by
 have hb : decide (op < 1) = false := decide_eq_false (by omega)
 have hc : decide (13 < op) = false := decide_eq_false (by omega)
 have hd : (a != b) = true := bne_iff_ne.mpr h
 go_enter Tryz.func56, Tryz.ntmps56
 go_wp2
 go_ret2
 exact ⟨rfl, rfl⟩
theorem binary_type (op a : Int) (w : World) (h1 : 1 ≤ op) (h2 : op ≤ 13) (h : a < 1 ∨ 3 < a) : Calls Tryz.prog 56 #[.int .i64 op, .int .i64 a, .int .i64 a] w fun e w' => e = .returned (.tuple #[.int .i64 0, .int .i64 22]) ∧ w = w' := by
 have hb : decide (op < 1) = false := decide_eq_false (by omega)
 have hc : decide (13 < op) = false := decide_eq_false (by omega)
 have hd : (a != a) = false := by simp
 go_enter Tryz.func56, Tryz.ntmps56
 go_wp2_with (go_at_call 80; refine (valued_no _ _ h).mono ?_; rintro e w' ⟨rfl, rfl⟩)
 go_ret2
 exact ⟨rfl, rfl⟩
theorem binary_1_1 (w : World) : Calls Tryz.prog 56 #[.int .i64 1, .int .i64 1, .int .i64 1] w fun e w' => e = .returned (.tuple #[.int .i64 1, .int .i64 0]) ∧ w = w' := by
 go_enter Tryz.func56, Tryz.ntmps56
 go_wp2_with (go_at_call 80; refine (qA5 _ _ (by omega) (by omega)).mono ?_; rintro e w' ⟨rfl, rfl⟩)
 go_ret2
 exact ⟨rfl, rfl⟩
theorem binary_1_2 (w : World) : Calls Tryz.prog 56 #[.int .i64 1, .int .i64 2, .int .i64 2] w fun e w' => e = .returned (.tuple #[.int .i64 2, .int .i64 0]) ∧ w = w' := by
 go_enter Tryz.func56, Tryz.ntmps56
 go_wp2_with (go_at_call 80; refine (qA5 _ _ (by omega) (by omega)).mono ?_; rintro e w' ⟨rfl, rfl⟩)
 go_ret2
 exact ⟨rfl, rfl⟩
theorem binary_1_3 (w : World) : Calls Tryz.prog 56 #[.int .i64 1, .int .i64 3, .int .i64 3] w fun e w' => e = .returned (.tuple #[.int .i64 0, .int .i64 22]) ∧ w = w' := by
 go_enter Tryz.func56, Tryz.ntmps56
 go_wp2_with (go_at_call 80; refine (qA5 _ _ (by omega) (by omega)).mono ?_; rintro e w' ⟨rfl, rfl⟩)
 go_ret2
 exact ⟨rfl, rfl⟩
theorem binary_2_1 (w : World) : Calls Tryz.prog 56 #[.int .i64 2, .int .i64 1, .int .i64 1] w fun e w' => e = .returned (.tuple #[.int .i64 1, .int .i64 0]) ∧ w = w' := by
 go_enter Tryz.func56, Tryz.ntmps56
 go_wp2_with (go_at_call 80; refine (qA5 _ _ (by omega) (by omega)).mono ?_; rintro e w' ⟨rfl, rfl⟩)
 go_ret2
 exact ⟨rfl, rfl⟩
theorem binary_2_2 (w : World) : Calls Tryz.prog 56 #[.int .i64 2, .int .i64 2, .int .i64 2] w fun e w' => e = .returned (.tuple #[.int .i64 2, .int .i64 0]) ∧ w = w' := by
 go_enter Tryz.func56, Tryz.ntmps56
 go_wp2_with (go_at_call 80; refine (qA5 _ _ (by omega) (by omega)).mono ?_; rintro e w' ⟨rfl, rfl⟩)
 go_ret2
 exact ⟨rfl, rfl⟩
theorem binary_2_3 (w : World) : Calls Tryz.prog 56 #[.int .i64 2, .int .i64 3, .int .i64 3] w fun e w' => e = .returned (.tuple #[.int .i64 0, .int .i64 22]) ∧ w = w' := by
 go_enter Tryz.func56, Tryz.ntmps56
 go_wp2_with (go_at_call 80; refine (qA5 _ _ (by omega) (by omega)).mono ?_; rintro e w' ⟨rfl, rfl⟩)
 go_ret2
 exact ⟨rfl, rfl⟩
theorem binary_3_1 (w : World) : Calls Tryz.prog 56 #[.int .i64 3, .int .i64 1, .int .i64 1] w fun e w' => e = .returned (.tuple #[.int .i64 1, .int .i64 0]) ∧ w = w' := by
 go_enter Tryz.func56, Tryz.ntmps56
 go_wp2_with (go_at_call 80; refine (qA5 _ _ (by omega) (by omega)).mono ?_; rintro e w' ⟨rfl, rfl⟩)
 go_ret2
 exact ⟨rfl, rfl⟩
theorem binary_3_2 (w : World) : Calls Tryz.prog 56 #[.int .i64 3, .int .i64 2, .int .i64 2] w fun e w' => e = .returned (.tuple #[.int .i64 2, .int .i64 0]) ∧ w = w' := by
 go_enter Tryz.func56, Tryz.ntmps56
 go_wp2_with (go_at_call 80; refine (qA5 _ _ (by omega) (by omega)).mono ?_; rintro e w' ⟨rfl, rfl⟩)
 go_ret2
 exact ⟨rfl, rfl⟩
theorem binary_3_3 (w : World) : Calls Tryz.prog 56 #[.int .i64 3, .int .i64 3, .int .i64 3] w fun e w' => e = .returned (.tuple #[.int .i64 0, .int .i64 22]) ∧ w = w' := by
 go_enter Tryz.func56, Tryz.ntmps56
 go_wp2_with (go_at_call 80; refine (qA5 _ _ (by omega) (by omega)).mono ?_; rintro e w' ⟨rfl, rfl⟩)
 go_ret2
 exact ⟨rfl, rfl⟩
theorem binary_4_1 (w : World) : Calls Tryz.prog 56 #[.int .i64 4, .int .i64 1, .int .i64 1] w fun e w' => e = .returned (.tuple #[.int .i64 1, .int .i64 0]) ∧ w = w' := by
 go_enter Tryz.func56, Tryz.ntmps56
 go_wp2_with (go_at_call 80; refine (qA5 _ _ (by omega) (by omega)).mono ?_; rintro e w' ⟨rfl, rfl⟩)
 go_ret2
 exact ⟨rfl, rfl⟩
theorem binary_4_2 (w : World) : Calls Tryz.prog 56 #[.int .i64 4, .int .i64 2, .int .i64 2] w fun e w' => e = .returned (.tuple #[.int .i64 2, .int .i64 0]) ∧ w = w' := by
 go_enter Tryz.func56, Tryz.ntmps56
 go_wp2_with (go_at_call 80; refine (qA5 _ _ (by omega) (by omega)).mono ?_; rintro e w' ⟨rfl, rfl⟩)
 go_ret2
 exact ⟨rfl, rfl⟩
theorem binary_4_3 (w : World) : Calls Tryz.prog 56 #[.int .i64 4, .int .i64 3, .int .i64 3] w fun e w' => e = .returned (.tuple #[.int .i64 0, .int .i64 22]) ∧ w = w' := by
 go_enter Tryz.func56, Tryz.ntmps56
 go_wp2_with (go_at_call 80; refine (qA5 _ _ (by omega) (by omega)).mono ?_; rintro e w' ⟨rfl, rfl⟩)
 go_ret2
 exact ⟨rfl, rfl⟩
theorem binary_5_1 (w : World) : Calls Tryz.prog 56 #[.int .i64 5, .int .i64 1, .int .i64 1] w fun e w' => e = .returned (.tuple #[.int .i64 1, .int .i64 0]) ∧ w = w' := by
 go_enter Tryz.func56, Tryz.ntmps56
 go_wp2_with (go_at_call 80; refine (qA5 _ _ (by omega) (by omega)).mono ?_; rintro e w' ⟨rfl, rfl⟩)
 go_ret2
 exact ⟨rfl, rfl⟩
theorem binary_5_2 (w : World) : Calls Tryz.prog 56 #[.int .i64 5, .int .i64 2, .int .i64 2] w fun e w' => e = .returned (.tuple #[.int .i64 0, .int .i64 22]) ∧ w = w' := by
 go_enter Tryz.func56, Tryz.ntmps56
 go_wp2_with (go_at_call 80; refine (qA5 _ _ (by omega) (by omega)).mono ?_; rintro e w' ⟨rfl, rfl⟩)
 go_ret2
 exact ⟨rfl, rfl⟩
theorem binary_5_3 (w : World) : Calls Tryz.prog 56 #[.int .i64 5, .int .i64 3, .int .i64 3] w fun e w' => e = .returned (.tuple #[.int .i64 0, .int .i64 22]) ∧ w = w' := by
 go_enter Tryz.func56, Tryz.ntmps56
 go_wp2_with (go_at_call 80; refine (qA5 _ _ (by omega) (by omega)).mono ?_; rintro e w' ⟨rfl, rfl⟩)
 go_ret2
 exact ⟨rfl, rfl⟩
theorem binary_6_1 (w : World) : Calls Tryz.prog 56 #[.int .i64 6, .int .i64 1, .int .i64 1] w fun e w' => e = .returned (.tuple #[.int .i64 3, .int .i64 0]) ∧ w = w' := by
 go_enter Tryz.func56, Tryz.ntmps56
 go_wp2_with (go_at_call 80; refine (qA5 _ _ (by omega) (by omega)).mono ?_; rintro e w' ⟨rfl, rfl⟩)
 go_ret2
 exact ⟨rfl, rfl⟩
theorem binary_6_2 (w : World) : Calls Tryz.prog 56 #[.int .i64 6, .int .i64 2, .int .i64 2] w fun e w' => e = .returned (.tuple #[.int .i64 3, .int .i64 0]) ∧ w = w' := by
 go_enter Tryz.func56, Tryz.ntmps56
 go_wp2_with (go_at_call 80; refine (qA5 _ _ (by omega) (by omega)).mono ?_; rintro e w' ⟨rfl, rfl⟩)
 go_ret2
 exact ⟨rfl, rfl⟩
theorem binary_6_3 (w : World) : Calls Tryz.prog 56 #[.int .i64 6, .int .i64 3, .int .i64 3] w fun e w' => e = .returned (.tuple #[.int .i64 3, .int .i64 0]) ∧ w = w' := by
 go_enter Tryz.func56, Tryz.ntmps56
 go_wp2_with (go_at_call 80; refine (qA5 _ _ (by omega) (by omega)).mono ?_; rintro e w' ⟨rfl, rfl⟩)
 go_ret2
 exact ⟨rfl, rfl⟩
theorem binary_7_1 (w : World) : Calls Tryz.prog 56 #[.int .i64 7, .int .i64 1, .int .i64 1] w fun e w' => e = .returned (.tuple #[.int .i64 3, .int .i64 0]) ∧ w = w' := by
 go_enter Tryz.func56, Tryz.ntmps56
 go_wp2_with (go_at_call 80; refine (qA5 _ _ (by omega) (by omega)).mono ?_; rintro e w' ⟨rfl, rfl⟩)
 go_ret2
 exact ⟨rfl, rfl⟩
theorem binary_7_2 (w : World) : Calls Tryz.prog 56 #[.int .i64 7, .int .i64 2, .int .i64 2] w fun e w' => e = .returned (.tuple #[.int .i64 3, .int .i64 0]) ∧ w = w' := by
 go_enter Tryz.func56, Tryz.ntmps56
 go_wp2_with (go_at_call 80; refine (qA5 _ _ (by omega) (by omega)).mono ?_; rintro e w' ⟨rfl, rfl⟩)
 go_ret2
 exact ⟨rfl, rfl⟩
theorem binary_7_3 (w : World) : Calls Tryz.prog 56 #[.int .i64 7, .int .i64 3, .int .i64 3] w fun e w' => e = .returned (.tuple #[.int .i64 3, .int .i64 0]) ∧ w = w' := by
 go_enter Tryz.func56, Tryz.ntmps56
 go_wp2_with (go_at_call 80; refine (qA5 _ _ (by omega) (by omega)).mono ?_; rintro e w' ⟨rfl, rfl⟩)
 go_ret2
 exact ⟨rfl, rfl⟩
theorem binary_8_1 (w : World) : Calls Tryz.prog 56 #[.int .i64 8, .int .i64 1, .int .i64 1] w fun e w' => e = .returned (.tuple #[.int .i64 3, .int .i64 0]) ∧ w = w' := by
 go_enter Tryz.func56, Tryz.ntmps56
 go_wp2_with (go_at_call 80; refine (qA5 _ _ (by omega) (by omega)).mono ?_; rintro e w' ⟨rfl, rfl⟩)
 go_ret2
 exact ⟨rfl, rfl⟩
theorem binary_8_2 (w : World) : Calls Tryz.prog 56 #[.int .i64 8, .int .i64 2, .int .i64 2] w fun e w' => e = .returned (.tuple #[.int .i64 3, .int .i64 0]) ∧ w = w' := by
 go_enter Tryz.func56, Tryz.ntmps56
 go_wp2_with (go_at_call 80; refine (qA5 _ _ (by omega) (by omega)).mono ?_; rintro e w' ⟨rfl, rfl⟩)
 go_ret2
 exact ⟨rfl, rfl⟩
theorem binary_8_3 (w : World) : Calls Tryz.prog 56 #[.int .i64 8, .int .i64 3, .int .i64 3] w fun e w' => e = .returned (.tuple #[.int .i64 0, .int .i64 22]) ∧ w = w' := by
 go_enter Tryz.func56, Tryz.ntmps56
 go_wp2_with (go_at_call 80; refine (qA5 _ _ (by omega) (by omega)).mono ?_; rintro e w' ⟨rfl, rfl⟩)
 go_ret2
 exact ⟨rfl, rfl⟩
theorem binary_9_1 (w : World) : Calls Tryz.prog 56 #[.int .i64 9, .int .i64 1, .int .i64 1] w fun e w' => e = .returned (.tuple #[.int .i64 3, .int .i64 0]) ∧ w = w' := by
 go_enter Tryz.func56, Tryz.ntmps56
 go_wp2_with (go_at_call 80; refine (qA5 _ _ (by omega) (by omega)).mono ?_; rintro e w' ⟨rfl, rfl⟩)
 go_ret2
 exact ⟨rfl, rfl⟩
theorem binary_9_2 (w : World) : Calls Tryz.prog 56 #[.int .i64 9, .int .i64 2, .int .i64 2] w fun e w' => e = .returned (.tuple #[.int .i64 3, .int .i64 0]) ∧ w = w' := by
 go_enter Tryz.func56, Tryz.ntmps56
 go_wp2_with (go_at_call 80; refine (qA5 _ _ (by omega) (by omega)).mono ?_; rintro e w' ⟨rfl, rfl⟩)
 go_ret2
 exact ⟨rfl, rfl⟩
theorem binary_9_3 (w : World) : Calls Tryz.prog 56 #[.int .i64 9, .int .i64 3, .int .i64 3] w fun e w' => e = .returned (.tuple #[.int .i64 0, .int .i64 22]) ∧ w = w' := by
 go_enter Tryz.func56, Tryz.ntmps56
 go_wp2_with (go_at_call 80; refine (qA5 _ _ (by omega) (by omega)).mono ?_; rintro e w' ⟨rfl, rfl⟩)
 go_ret2
 exact ⟨rfl, rfl⟩
theorem binary_10_1 (w : World) : Calls Tryz.prog 56 #[.int .i64 10, .int .i64 1, .int .i64 1] w fun e w' => e = .returned (.tuple #[.int .i64 3, .int .i64 0]) ∧ w = w' := by
 go_enter Tryz.func56, Tryz.ntmps56
 go_wp2_with (go_at_call 80; refine (qA5 _ _ (by omega) (by omega)).mono ?_; rintro e w' ⟨rfl, rfl⟩)
 go_ret2
 exact ⟨rfl, rfl⟩
theorem binary_10_2 (w : World) : Calls Tryz.prog 56 #[.int .i64 10, .int .i64 2, .int .i64 2] w fun e w' => e = .returned (.tuple #[.int .i64 3, .int .i64 0]) ∧ w = w' := by
 go_enter Tryz.func56, Tryz.ntmps56
 go_wp2_with (go_at_call 80; refine (qA5 _ _ (by omega) (by omega)).mono ?_; rintro e w' ⟨rfl, rfl⟩)
 go_ret2
 exact ⟨rfl, rfl⟩
theorem binary_10_3 (w : World) : Calls Tryz.prog 56 #[.int .i64 10, .int .i64 3, .int .i64 3] w fun e w' => e = .returned (.tuple #[.int .i64 0, .int .i64 22]) ∧ w = w' := by
 go_enter Tryz.func56, Tryz.ntmps56
 go_wp2_with (go_at_call 80; refine (qA5 _ _ (by omega) (by omega)).mono ?_; rintro e w' ⟨rfl, rfl⟩)
 go_ret2
 exact ⟨rfl, rfl⟩
theorem binary_11_1 (w : World) : Calls Tryz.prog 56 #[.int .i64 11, .int .i64 1, .int .i64 1] w fun e w' => e = .returned (.tuple #[.int .i64 3, .int .i64 0]) ∧ w = w' := by
 go_enter Tryz.func56, Tryz.ntmps56
 go_wp2_with (go_at_call 80; refine (qA5 _ _ (by omega) (by omega)).mono ?_; rintro e w' ⟨rfl, rfl⟩)
 go_ret2
 exact ⟨rfl, rfl⟩
theorem binary_11_2 (w : World) : Calls Tryz.prog 56 #[.int .i64 11, .int .i64 2, .int .i64 2] w fun e w' => e = .returned (.tuple #[.int .i64 3, .int .i64 0]) ∧ w = w' := by
 go_enter Tryz.func56, Tryz.ntmps56
 go_wp2_with (go_at_call 80; refine (qA5 _ _ (by omega) (by omega)).mono ?_; rintro e w' ⟨rfl, rfl⟩)
 go_ret2
 exact ⟨rfl, rfl⟩
theorem binary_11_3 (w : World) : Calls Tryz.prog 56 #[.int .i64 11, .int .i64 3, .int .i64 3] w fun e w' => e = .returned (.tuple #[.int .i64 0, .int .i64 22]) ∧ w = w' := by
 go_enter Tryz.func56, Tryz.ntmps56
 go_wp2_with (go_at_call 80; refine (qA5 _ _ (by omega) (by omega)).mono ?_; rintro e w' ⟨rfl, rfl⟩)
 go_ret2
 exact ⟨rfl, rfl⟩
theorem binary_12_1 (w : World) : Calls Tryz.prog 56 #[.int .i64 12, .int .i64 1, .int .i64 1] w fun e w' => e = .returned (.tuple #[.int .i64 0, .int .i64 22]) ∧ w = w' := by
 go_enter Tryz.func56, Tryz.ntmps56
 go_wp2_with (go_at_call 80; refine (qA5 _ _ (by omega) (by omega)).mono ?_; rintro e w' ⟨rfl, rfl⟩)
 go_ret2
 exact ⟨rfl, rfl⟩
theorem binary_12_2 (w : World) : Calls Tryz.prog 56 #[.int .i64 12, .int .i64 2, .int .i64 2] w fun e w' => e = .returned (.tuple #[.int .i64 0, .int .i64 22]) ∧ w = w' := by
 go_enter Tryz.func56, Tryz.ntmps56
 go_wp2_with (go_at_call 80; refine (qA5 _ _ (by omega) (by omega)).mono ?_; rintro e w' ⟨rfl, rfl⟩)
 go_ret2
 exact ⟨rfl, rfl⟩
theorem binary_12_3 (w : World) : Calls Tryz.prog 56 #[.int .i64 12, .int .i64 3, .int .i64 3] w fun e w' => e = .returned (.tuple #[.int .i64 3, .int .i64 0]) ∧ w = w' := by
 go_enter Tryz.func56, Tryz.ntmps56
 go_wp2_with (go_at_call 80; refine (qA5 _ _ (by omega) (by omega)).mono ?_; rintro e w' ⟨rfl, rfl⟩)
 go_ret2
 exact ⟨rfl, rfl⟩
theorem binary_13_1 (w : World) : Calls Tryz.prog 56 #[.int .i64 13, .int .i64 1, .int .i64 1] w fun e w' => e = .returned (.tuple #[.int .i64 0, .int .i64 22]) ∧ w = w' := by
 go_enter Tryz.func56, Tryz.ntmps56
 go_wp2_with (go_at_call 80; refine (qA5 _ _ (by omega) (by omega)).mono ?_; rintro e w' ⟨rfl, rfl⟩)
 go_ret2
 exact ⟨rfl, rfl⟩
theorem binary_13_2 (w : World) : Calls Tryz.prog 56 #[.int .i64 13, .int .i64 2, .int .i64 2] w fun e w' => e = .returned (.tuple #[.int .i64 0, .int .i64 22]) ∧ w = w' := by
 go_enter Tryz.func56, Tryz.ntmps56
 go_wp2_with (go_at_call 80; refine (qA5 _ _ (by omega) (by omega)).mono ?_; rintro e w' ⟨rfl, rfl⟩)
 go_ret2
 exact ⟨rfl, rfl⟩
theorem binary_13_3 (w : World) : Calls Tryz.prog 56 #[.int .i64 13, .int .i64 3, .int .i64 3] w fun e w' => e = .returned (.tuple #[.int .i64 3, .int .i64 0]) ∧ w = w' := by
 go_enter Tryz.func56, Tryz.ntmps56
 go_wp2_with (go_at_call 80; refine (qA5 _ _ (by omega) (by omega)).mono ?_; rintro e w' ⟨rfl, rfl⟩)
 go_ret2
 exact ⟨rfl, rfl⟩
theorem binary_any (op a b : Int) (w : World) : Calls Tryz.prog 56 #[.int .i64 op, .int .i64 a, .int .i64 b] w fun e w' => e = .returned (.tuple #[.int .i64 (binary op a b).1, .int .i64 (binary op a b).2]) ∧ w = w' := by
 by_cases h : op < 1 ∨ 13 < op
 ·have e : binary op a b = (0, 1) := by unfold binary; rw [if_pos h]
  rw [e]
  exact binary_arg op a b w h
 by_cases hne : a ≠ b
 ·have e : binary op a b = (0, 22) := by unfold binary; rw [if_neg h, if_pos (Or.inl hne)]
  rw [e]
  exact binary_ne op a b w (by omega) (by omega) hne
 obtain rfl : a = b := by omega
 by_cases k : a < 1 ∨ 3 < a
 ·have e : binary op a a = (0, 22) := by unfold binary; rw [if_neg h, if_pos (Or.inr k)]
  rw [e]
  exact binary_type op a w (by omega) (by omega) k
 have ho : op = 1 ∨ op = 2 ∨ op = 3 ∨ op = 4 ∨ op = 5 ∨ op = 6 ∨ op = 7 ∨ op = 8 ∨ op = 9 ∨ op = 10 ∨ op = 11 ∨ op = 12 ∨ op = 13 := by omega
 have ht : a = 1 ∨ a = 2 ∨ a = 3 := by omega
 rcases ho with rfl | rfl | rfl | rfl | rfl | rfl | rfl | rfl | rfl | rfl | rfl | rfl | rfl <;> rcases ht with rfl | rfl | rfl
 ·exact binary_1_1 w
 ·exact binary_1_2 w
 ·exact binary_1_3 w
 ·exact binary_2_1 w
 ·exact binary_2_2 w
 ·exact binary_2_3 w
 ·exact binary_3_1 w
 ·exact binary_3_2 w
 ·exact binary_3_3 w
 ·exact binary_4_1 w
 ·exact binary_4_2 w
 ·exact binary_4_3 w
 ·exact binary_5_1 w
 ·exact binary_5_2 w
 ·exact binary_5_3 w
 ·exact binary_6_1 w
 ·exact binary_6_2 w
 ·exact binary_6_3 w
 ·exact binary_7_1 w
 ·exact binary_7_2 w
 ·exact binary_7_3 w
 ·exact binary_8_1 w
 ·exact binary_8_2 w
 ·exact binary_8_3 w
 ·exact binary_9_1 w
 ·exact binary_9_2 w
 ·exact binary_9_3 w
 ·exact binary_10_1 w
 ·exact binary_10_2 w
 ·exact binary_10_3 w
 ·exact binary_11_1 w
 ·exact binary_11_2 w
 ·exact binary_11_3 w
 ·exact binary_12_1 w
 ·exact binary_12_2 w
 ·exact binary_12_3 w
 ·exact binary_13_1 w
 ·exact binary_13_2 w
 exact binary_13_3 w
end Ty2
end
section
namespace Q
open Go.RowKit YA YC YB
def qDQ (op n : Int) (st : List Int) : Bool × List Int :=
 if st.getLast?.isSome = true then
  if op == 7 then
   if st.dropLast.getLast?.isSome = true then ((Ty2.binary n (st.dropLast.getLast?.getD 0) (st.getLast?.getD 0)).2 == 0, st.dropLast.dropLast ++ [(Ty2.binary n (st.dropLast.getLast?.getD 0) (st.getLast?.getD 0)).1])
   else (false, st.dropLast.dropLast)
  else ((Ty1.unary n (st.getLast?.getD 0)).2 == 0, st.dropLast ++ [(Ty1.unary n (st.getLast?.getD 0)).1])
 else (false, st.dropLast)
theorem operate_o {g : Nat} {m : Bool} {st : List Int} {tr : List S160} {S okT : Nat → Prop} {W : World} (op n ty bb : Int) (H : ShO W g m st tr S okT) (hl : st.length ≤ 2000000) (hfr : ∀ k, W.heap.size ≤ k → S k) :
  Calls Tryz.prog 115 #[.agg #[.int .i64 op, .int .i64 n, .int .i64 ty, .int .u64 bb], .pointer (some ⟨g, 0, none⟩)] W fun e w' => e = .returned (.bool (qDQ op n st).1) ∧ ShO w' g m (qDQ op n st).2 tr S okT ∧ Fr W w' S := by
 obtain ⟨x1, hx1⟩ : ∃ x, x = st.getLast?.getD 0 := ⟨_, rfl⟩
 obtain ⟨b1, hb1⟩ : ∃ b, b = st.getLast?.isSome := ⟨_, rfl⟩
 obtain ⟨st1, hst1⟩ : ∃ sd, sd = st.dropLast := ⟨_, rfl⟩
 obtain ⟨x2, hx2⟩ : ∃ x, x = st1.getLast?.getD 0 := ⟨_, rfl⟩
 obtain ⟨b2, hb2⟩ : ∃ b, b = st1.getLast?.isSome := ⟨_, rfl⟩
 obtain ⟨st2, hst2⟩ : ∃ sd, sd = st1.dropLast := ⟨_, rfl⟩
 obtain ⟨ut, hut⟩ : ∃ t, t = (Ty1.unary n x1).1 := ⟨_, rfl⟩
 obtain ⟨ue, hue⟩ : ∃ t, t = (Ty1.unary n x1).2 := ⟨_, rfl⟩
 obtain ⟨bt, hbt⟩ : ∃ t, t = (Ty2.binary n x2 x1).1 := ⟨_, rfl⟩
 obtain ⟨be, hbe⟩ : ∃ t, t = (Ty2.binary n x2 x1).2 := ⟨_, rfl⟩
 obtain ⟨rr, hrr⟩ : ∃ rr, rr = qDQ op n st := ⟨_, rfl⟩
 have hr : qDQ op n st = if b1 = true then (if op == 7 then (if b2 = true then (be == 0, st2 ++ [bt]) else (false, st2)) else (ue == 0, st1 ++ [ut])) else (false, st1) := by
  rw [hbe, hbt, hue, hut, hst2, hb2, hx2, hst1, hb1, hx1]; rfl
 rw [← hrr]
 rw [← hrr] at hr
 have HRR := am hr
 clear hr hrr
 have h1 : st1.length ≤ 2000000 := by rw [hst1]; simp; omega
 have h2 : st2.length ≤ 2000000 := by rw [hst2]; simp; omega
 obtain ⟨S1, hS1⟩ : ∃ S1, S1 = (fun q => (S q ∧ q < W.heap.size) ∨ (W.alloc (.cells #[.int .i64 op, .int .i64 n, .int .i64 ty, .int .u64 bb] 51)).heap.size ≤ q) := ⟨_, rfl⟩
 have hn1 : ¬ S1 W.heap.size := by rw [hS1]; simp
 have hf1 : ∀ k, W.heap.size + 1 ≤ k → S1 k := by rw [hS1]; intro k hk; simp; omega
 have hs1 : ∀ k, S1 k → S k := by rw [hS1]; intro k hk; simp at hk; rcases hk with h | h; exact h.1; exact hfr k (by omega)
 have HC1 : qAd (Calls Tryz.prog 114 #[.pointer (some ⟨g, 0, none⟩)] (W.alloc (.cells #[.int .i64 op, .int .i64 n, .int .i64 ty, .int .u64 bb] 51)) fun e w' => e = .returned (.tuple #[.int .i64 x1, .bool b1]) ∧ ShO w' g m st1 tr S1 okT ∧ Fr (W.alloc (.cells #[.int .i64 op, .int .i64 n, .int .i64 ty, .int .u64 bb] 51)) w' S1) :=
  ⟨by have := take_o (H.below ((Below.refl _ _).alloc (Nat.le_refl _) (.cells #[.int .i64 op, .int .i64 n, .int .i64 ty, .int .u64 bb] 51))) hl; unfold topV at this; rw [← hx1, ← hb1, ← hst1, ← hS1] at this; exact this⟩
 have HC2 : qAd (∀ W', ShO W' g m st1 tr S1 okT → Calls Tryz.prog 114 #[.pointer (some ⟨g, 0, none⟩)] W' fun e w' => e = .returned (.tuple #[.int .i64 x2, .bool b2]) ∧ ShO w' g m st2 tr S1 okT ∧ Fr W' w' S1) :=
  ⟨fun W' hW => by have := take_o hW h1; unfold topV at this; rw [← hx2, ← hb2, ← hst2] at this; exact this⟩
 have HU : qAd (∀ W', Calls Tryz.prog 55 #[.int .i64 n, .int .i64 x1] W' fun e w' => e = .returned (.tuple #[.int .i64 ut, .int .i64 ue]) ∧ W' = w') := ⟨fun W' => by rw [hut, hue]; exact Ty1.unary_any n x1 W'⟩
 have HB : qAd (∀ W', Calls Tryz.prog 56 #[.int .i64 n, .int .i64 x2, .int .i64 x1] W' fun e w' => e = .returned (.tuple #[.int .i64 bt, .int .i64 be]) ∧ W' = w') := ⟨fun W' => by rw [hbt, hbe]; exact Ty2.binary_any n x2 x1 W'⟩
 have HE : qAd (∀ w' st', ShO w' g m st' tr S1 okT → Fr (W.alloc (.cells #[.int .i64 op, .int .i64 n, .int .i64 ty, .int .u64 bb] 51)) w' S1 → ShO w' g m st' tr S okT ∧ Fr W w' S) :=
  ⟨fun w' st' h k => ⟨h.mono hs1 (fun _ h => h), (Fr.of_below ((Below.refl _ _).alloc (Nat.le_refl _) _)).then_ k (fun q hq => .inl (hs1 q hq))⟩⟩
 have HL1 := am h1
 have HL2 := am h2
 have HN1 := am hn1
 have HF1 := am hf1
 have hgl : g < W.heap.size := H.lt
 have HH := am H
 clear H hl h1 h2 hx1 hb1 hst1 hx2 hb2 hst2 hut hue hbt hbe hS1 hn1 hf1
 go_enter Tryz.func115, Tryz.ntmps115
 go_wp2_with (first
   | (go_at_call 114; refine HC1.out.mono ?_; clear HC1; rintro e w1 ⟨rfl, hS1, hb1⟩; have HS1 := am hS1; have HB1 := am hb1; have hbx := hb1.blk (qBb W _) HN1.out; have ea0 := (qAa hbx 0).trans rfl; have ea1 := (qAa hbx 1).trans rfl; obtain ⟨u1, u2, hV⟩ := hS1; have HV := am hV; have eg1 := (qAa hV.1 1).trans rfl; have hsz1 := hb1.size; clear hV hb1)
   | (go_at_call 114; refine (HC2.out _ HS1.out).mono ?_; clear HC2 eg1; rintro e w2 ⟨rfl, hS2, hb2⟩; have HS2 := am hS2; have HB2 := am hb2; have hbx2 := hb2.blk hbx HN1.out; have eb0 := (qAa hbx2 0).trans rfl; have eb1 := (qAa hbx2 1).trans rfl; obtain ⟨u1', u2', hV2⟩ := hS2; have HV2 := am hV2; have eg2 := (qAa hV2.1 1).trans rfl; have hsz2 := hb2.size; clear hV2 hb2)
   | (go_at_call 55; refine (HU.out _).mono ?_; rintro e w3 ⟨rfl, rfl⟩)
   | (go_at_call 56; refine (HB.out _).mono ?_; rintro e w3 ⟨rfl, rfl⟩)
   | (at_builtin; refine qDT HV2.out bt rfl _ _ rfl rfl rfl (fun k hk => HF1.out k (by simp at hsz1; omega)) HL2.out ?_; intro A3 c3 w3 h5 h5b h6 h7; have H6 := am h6; have H7 := am h7; have eg3 := (qAa h5 1).trans rfl; have ef3 := qAb h5 1; clear h5 h5b h6 h7)
   | (at_builtin; refine qDT HV.out ut rfl _ _ rfl rfl rfl (fun k hk => HF1.out k (by simp at hsz1; omega)) HL1.out ?_; intro A3 c3 w3 h5 h5b h6 h7; have H6 := am h6; have H7 := am h7; have eg3 := (qAa h5 1).trans rfl; have ef3 := qAb h5 1; clear h5 h5b h6 h7))
 ·have e1 : b1 = false := by simp_all only [Bool.not_eq_true', Bool.not_eq_false', Bool.not_eq_eq_eq_not, Bool.not_true, Bool.not_false]
  have hr := HRR.out
  subst e1
  rw [if_neg (by simp)] at hr
  subst hr
  go_ret
  exact ⟨rfl, HE.out _ _ ⟨u1, u2, HV.out⟩ HB1.out⟩
 ·have e1 : b1 = true := by simp_all only [Bool.not_eq_true', Bool.not_eq_false', Bool.not_eq_eq_eq_not, Bool.not_true, Bool.not_false]
  have e3 : b2 = false := by simp_all only [Bool.not_eq_true', Bool.not_eq_false', Bool.not_eq_eq_eq_not, Bool.not_true, Bool.not_false]
  have hr := HRR.out
  subst e1; subst e3
  rw [if_pos rfl, if_pos (by assumption), if_neg (by simp)] at hr
  subst hr
  go_ret
  exact ⟨rfl, HE.out _ _ ⟨u1', u2', HV2.out⟩ (HB1.out.trans HB2.out)⟩
 ·have e1 : b1 = true := by simp_all only [Bool.not_eq_true', Bool.not_eq_false', Bool.not_eq_eq_eq_not, Bool.not_true, Bool.not_false]
  have e3 : b2 = true := by simp_all only [Bool.not_eq_true', Bool.not_eq_false', Bool.not_eq_eq_eq_not, Bool.not_true, Bool.not_false]
  have hr := HRR.out
  subst e1; subst e3
  rw [if_pos rfl, if_pos (by assumption), if_pos rfl] at hr
  subst hr
  go_ret
  exact ⟨rfl, HE.out _ _ H6.out ((HB1.out.trans HB2.out).trans H7.out)⟩
 ·have e1 : b1 = true := by simp_all only [Bool.not_eq_true', Bool.not_eq_false', Bool.not_eq_eq_eq_not, Bool.not_true, Bool.not_false]
  have hr := HRR.out
  subst e1
  rw [if_pos rfl, if_neg (by simp_all)] at hr
  subst hr
  go_ret
  exact ⟨rfl, HE.out _ _ H6.out (HB1.out.trans H7.out)⟩
theorem ShV.drew {W : World} {g : Nat} {m : Bool} {st : List Int} {tr : List S160} {S okT : Nat → Prop} {v1 v2 : Value} (h : ShV W g m st tr S okT v1 v2) : ShV W.drew g m st tr S okT v1 v2 :=
 ⟨h.1, h.2.1, Kd.N_drew h.2.2.1, h.2.2.2.1, Kd.N_drew h.2.2.2.2⟩
theorem ShO.drew {W : World} {g : Nat} {m : Bool} {st : List Int} {tr : List S160} {S okT : Nat → Prop} (h : ShO W g m st tr S okT) : ShO W.drew g m st tr S okT := by
 obtain ⟨v1, v2, h⟩ := h
 exact ⟨v1, v2, h.drew⟩
theorem ShO.far {W : World} {g : Nat} {m : Bool} {st : List Int} {tr : List S160} {S okT : Nat → Prop} (h : ShO W g m st tr S okT) {p : Addr} (hp : ¬ S p.block) (hq : ¬ okT p.block) (u : Value) : ShO (W.setCell p u) g m st tr S okT := by
 obtain ⟨v1, v2, hg, h0, h1, h2, h3⟩ := h
 refine ⟨v1, v2, (Below.heap_setCell _ _ _ _ (fun e => hp (e ▸ h0))).trans hg, h0, Kd.N_far h1 (fun q hk e => hp (e ▸ hk.1)) _, h2, Kd.N_far h3 (fun q hk e => ?_) _⟩
 rcases hk.1 with h | h
 ·exact hp (e ▸ h)
 exact hq (e ▸ h)
structure PB (b g : Nat) (fv pv iv : Array Value) (lv : Array Value) (W : World) : Prop where
 f : W.heap[b]? = some (.cells fv 37 (0, 0))
 p : W.heap[b + 1]? = some (.cells pv 41 (0, 0))
 i : W.heap[b + 1 + 1]? = some (.cells iv 51 (0, 0))
 s : W.heap[b + 1 + 1 + 1]? = some (.cells #[.pointer (some ⟨g, 0, none⟩)] 162 (0, 0))
 r : W.heap[b + 1 + 1 + 1 + 1]? = some (.cells #[.bool false] 4 (0, 0))
 l : W.heap[b + 1 + 1 + 1 + 1 + 1]? = some (.cells lv 192 (0, 0))
theorem PB.fr {b g : Nat} {fv pv iv lv : Array Value} {W W' : World} {S : Nat → Prop} (h : PB b g fv pv iv lv W) (hf : Fr W W' S) (hn : ∀ q, b ≤ q → q < b + 6 → ¬ S q) : PB b g fv pv iv lv W' :=
 ⟨hf.blk h.f (hn _ (by omega) (by omega)), hf.blk h.p (hn _ (by omega) (by omega)), hf.blk h.i (hn _ (by omega) (by omega)), hf.blk h.s (hn _ (by omega) (by omega)), hf.blk h.r (hn _ (by omega) (by omega)), hf.blk h.l (hn _ (by omega) (by omega))⟩
def plW (W : World) (g : Nat) (fv pv iv lv : Array Value) : World := ((((((W.alloc (.cells fv 37)).alloc (.cells pv 41)).alloc (.cells iv 51)).alloc (.cells #[.pointer (some ⟨g, 0, none⟩)] 162)).alloc (.cells #[.bool false] 4)).alloc (.cells lv 192))
theorem qB1 (W : World) (g : Nat) (fv pv iv lv : Array Value) : (plW W g fv pv iv lv).heap.size = W.heap.size + 6 := by simp [plW]
theorem qBs (W : World) (g : Nat) (fv pv iv lv : Array Value) : Below W.heap.size W (plW W g fv pv iv lv) :=
 ((((((Below.refl _ _).alloc (by simp) _).alloc (by simp) _).alloc (by simp; omega) _).alloc (by simp; omega) _).alloc (by simp; omega) _).alloc (by simp; omega) _
theorem qBK (W : World) (g : Nat) (fv pv iv lv : Array Value) : PB W.heap.size g fv pv iv lv (plW W g fv pv iv lv) := by
 have e : ∀ (V : World) (o o' : Obj) (k : Nat), V.heap[k]? = some o → (V.alloc o').heap[k]? = some o := fun V o o' k h => qAk h (qAg (Below.refl _ _) _)
 have n : ∀ (V : World) (o : Obj) (k : Nat), V.heap.size = k → (V.alloc o).heap[k]? = some o := fun V o k hk => hk ▸ qBb V o
 exact ⟨e _ _ _ _ (e _ _ _ _ (e _ _ _ _ (e _ _ _ _ (e _ _ _ _ (n _ _ _ (by simp)))))), e _ _ _ _ (e _ _ _ _ (e _ _ _ _ (e _ _ _ _ (n _ _ _ (by simp))))), e _ _ _ _ (e _ _ _ _ (e _ _ _ _ (n _ _ _ (by simp)))), e _ _ _ _ (e _ _ _ _ (n _ _ _ (by simp))), e _ _ _ _ (n _ _ _ (by simp)), n _ _ _ (by simp)⟩
theorem qAJ {fn : Func} {p : Tmp} (h : fn.results = #[.cell p 4]) (tmps : Array Value) (w : World) (ad : Addr) (b : Bool) (hp : tmps.getD p undef = .pointer (some ad)) (hc : w.cell? ad = some (.bool b)) : (results fn tmps).run Tryz.prog w = .ok (.bool b) w := by
 have hp' : tmps[p]?.getD undef = .pointer (some ad) := by simpa using hp
 have hu : Tryz.prog.underlying 4 = some .bool := by kernel_rfl
 simp [results, h, hp', asAddr]
 go_simp
theorem qBO {w : World} {a c : Addr} {u v x : Value} (h : w.cell? a = some x) (hne : c ≠ a) : ((w.setCell c v).setCell a u).cell? a = some u :=
 World.cell?_setCell_same _ _ _ (u := x) ((World.cell?_setCell_other _ _ _ _ hne).trans h)
theorem plain_1 {g : Nat} {m : Bool} {st : List Int} {tr : List S160} {S okT : Nat → Prop} {W : World} (n ty bb : Int) (A1 A2 A3 A4 A5 : Option Addr) (n1 c1 n2 c2 n3 c3 n4 c4 n5 c5 : Nat) (res : Int) (H : ShO W g m st tr S okT) (hl : st.length ≤ 2000000) (hfr : ∀ k, W.heap.size ≤ k → S k) (hkt : ∀ k, okT k → k < W.heap.size) :
  Calls Tryz.prog 89 #[.agg #[.slice A1 n1 c1, .int .i64 res, .slice A2 n2 c2, .slice A3 n3 c3], .agg #[.slice A4 n4 c4, .slice A5 n5 c5], .agg #[.int .i64 1, .int .i64 n, .int .i64 ty, .int .u64 bb], .pointer (some ⟨g, 0, none⟩)] W fun e w' => e = .returned (.bool (true)) ∧ ShO w' g m (st ++ [ty]) tr S okT ∧ Fr W w' S := by
 have hgl : g < W.heap.size := H.lt
 obtain ⟨WB, hWB⟩ : ∃ WB, WB = plW W g #[.slice A1 n1 c1, .int .i64 res, .slice A2 n2 c2, .slice A3 n3 c3] #[.slice A4 n4 c4, .slice A5 n5 c5] #[.int .i64 1, .int .i64 n, .int .i64 ty, .int .u64 bb] #[.slice none 0 0, .slice none 0 0, .slice A2 n2 c2, .slice A2 n2 c2, .slice A5 n5 c5, .slice A5 n5 c5] := ⟨_, rfl⟩
 have hP := qBK W g #[.slice A1 n1 c1, .int .i64 res, .slice A2 n2 c2, .slice A3 n3 c3] #[.slice A4 n4 c4, .slice A5 n5 c5] #[.int .i64 1, .int .i64 n, .int .i64 ty, .int .u64 bb] #[.slice none 0 0, .slice none 0 0, .slice A2 n2 c2, .slice A2 n2 c2, .slice A5 n5 c5, .slice A5 n5 c5]
 have hB := qBs W g #[.slice A1 n1 c1, .int .i64 res, .slice A2 n2 c2, .slice A3 n3 c3] #[.slice A4 n4 c4, .slice A5 n5 c5] #[.int .i64 1, .int .i64 n, .int .i64 ty, .int .u64 bb] #[.slice none 0 0, .slice none 0 0, .slice A2 n2 c2, .slice A2 n2 c2, .slice A5 n5 c5, .slice A5 n5 c5]
 have hsz := qB1 W g #[.slice A1 n1 c1, .int .i64 res, .slice A2 n2 c2, .slice A3 n3 c3] #[.slice A4 n4 c4, .slice A5 n5 c5] #[.int .i64 1, .int .i64 n, .int .i64 ty, .int .u64 bb] #[.slice none 0 0, .slice none 0 0, .slice A2 n2 c2, .slice A2 n2 c2, .slice A5 n5 c5, .slice A5 n5 c5]
 rw [← hWB] at hP hB hsz
 have hH := H.below hB
 obtain ⟨S1, hS1⟩ : ∃ S1, S1 = (fun q => (S q ∧ q < W.heap.size) ∨ WB.heap.size ≤ q) := ⟨_, rfl⟩
 rw [← hS1] at hH
 have hn1 : ∀ q, W.heap.size ≤ q → q < W.heap.size + 6 → ¬ S1 q := by rw [hS1]; intro q h1 h2 h3; rcases h3 with ⟨_, h⟩ | h <;> omega
 have hf1 : ∀ k, WB.heap.size ≤ k → S1 k := by rw [hS1]; intro k hk; exact .inr hk
 have hs1 : ∀ k, S1 k → S k := by rw [hS1]; intro k hk; rcases hk with h | h; exact h.1; exact hfr k (by omega)
 have HE : qAd (∀ w' v st', ShO w' g m st' tr S1 okT → Fr WB w' S1 → ShO (w'.setCell ⟨W.heap.size + 1 + 1 + 1 + 1, 0, none⟩ v) g m st' tr S okT ∧ Fr W (w'.setCell ⟨W.heap.size + 1 + 1 + 1 + 1, 0, none⟩ v) S) :=
  ⟨fun w' v st' h k => ⟨(ShO.far h (hn1 (W.heap.size + 1 + 1 + 1 + 1) (by omega) (by omega)) (fun e => by have := hkt (W.heap.size + 1 + 1 + 1 + 1) e; omega) v).mono hs1 (fun _ h => h), (Fr.set ((Fr.of_below hB).then_ k (fun q hq => .inl (hs1 q hq))) (.inr (show W.heap.size ≤ W.heap.size + 1 + 1 + 1 + 1 by omega)) v)⟩⟩
 have HE0 : qAd (∀ st', ShO WB g m st' tr S1 okT → ShO WB g m st' tr S okT ∧ Fr W WB S) := ⟨fun st' h => ⟨h.mono hs1 (fun _ h => h), Fr.of_below hB⟩⟩
 have HL := am hl
 have HN1 := am hn1
 have HF1 := am hf1
 have HSZ := am hsz
 have HP := am hP
 clear H hl hS1 hn1 hf1 hs1 hB hsz
 go_enter Tryz.func89, Tryz.ntmps89
 go_wp2_with fail
 simp only [plW] at hWB
 rw [← hWB]
 clear hWB
 obtain ⟨u1, u2, hV⟩ := hH
 have HV := am hV
 have eg1 := (qAa hV.1 1).trans rfl
 clear hV
 have xi0 := (qAa HP.out.i 0).trans rfl
 have xi1 := (qAa HP.out.i 1).trans rfl
 have xi2 := (qAa HP.out.i 2).trans rfl
 have xs := (qAa HP.out.s 0).trans rfl
 have yg1 := qA1 (.cells #[.int .i64 (ty)] 3) eg1
 refine wp_region_noPanic ?_
 refine wp_region_held_drew (S := fun W' => W'.cell? ⟨W.heap.size + 1 + 1 + 1, 0, none⟩ = some (.pointer (some ⟨g, 0, none⟩)) ∧ W'.cell? ⟨W.heap.size + 1 + 1, 2, none⟩ = some (.int .i64 ty)) (by kernel_rfl) ⟨xs, xi2⟩ (fun hHeld => ?_)
 refine hT 0 ?_
 refine hT 1 ?_
 refine hT 2 ?_
 refine hT 3 ?_
 refine hT 5 ?_
 refine hT 6 ?_
 refine hT 7 ?_
 refine wpAnyH_ready (rs := [4, 8]) (by kernel_rfl) (by simp) ?_
 refine AllReadyH.cons (o := _) rfl (fun K hK => ?_) ?_
 ·go_simp
  refine hK.out _ _ ⟨xs, xi2⟩ (fun hHeld => ?_)
  clear hK K
  try simp only [Act.put, List.getElem_toArray, List.getElem_cons_zero, List.getElem_cons_succ, List.setIfInBounds_toArray, List.set_cons_zero, List.set_cons_succ]
  refine wpAnyH_ready (rs := [8]) (by kernel_rfl) (by simp) ?_
  refine AllReadyH.cons (o := _) rfl (fun K hK => ?_) ?_
  ·go_simp
   refine hK.out _ _ ⟨qA1 (.cells #[.int .i64 (ty)] 3) xs, qA1 (.cells #[.int .i64 (ty)] 3) xi2⟩ (fun hHeld => ?_)
   clear hK K
   try simp only [Act.put, List.getElem_toArray, List.getElem_cons_zero, List.getElem_cons_succ, List.setIfInBounds_toArray, List.set_cons_zero, List.set_cons_succ]
   refine wpAnyH_ready (rs := [9]) (by kernel_rfl) (by simp) ?_
   refine AllReadyH.cons (o := _) rfl (fun K hK => ?_) ?_
   ·refine qBd HV.out.drew (ty) rfl _ _ rfl rfl rfl HF1.out HL.out ?_
    intro A6 c6 w3 h5 h5b h6 h7
    have hFF := Fr.trans (Fr.of_below (qA4 (Below.refl _ _))) h5b
    have H6 := am h6
    have H7 := am (Fr.trans (Fr.of_below (qA4 (Below.refl _ _))) h7)
    have hP3 := HP.out.fr hFF HN1.out
    have xs' := hFF.cell xs (HN1.out (W.heap.size + 1 + 1 + 1) (by omega) (by omega))
    have xi2' := hFF.cell xi2 (HN1.out (W.heap.size + 1 + 1) (by omega) (by omega))
    have xr := (qAa hP3.r 0).trans rfl
    have xrf := qAb hP3.r 0
    have eg3 := (qAa h5 1).trans rfl
    have ef3 := qAb h5 1
    clear h5 h5b h6 h7 hFF
    refine hK.out _ _ ⟨xs', xi2'⟩ (fun hHeld => ?_)
    clear hK K
    try simp only [Act.put, List.getElem_toArray, List.getElem_cons_zero, List.getElem_cons_succ, List.setIfInBounds_toArray, List.set_cons_zero, List.set_cons_succ]
    refine hT 10 ?_
    refine hT 11 ?_
    refine wpAnyH_ready (rs := [12]) (by kernel_rfl) (by simp) ?_
    refine AllReadyH.cons (o := _) rfl (fun K hK => ?_) ?_
    ·go_simp
     refine hK.out _ _ ⟨qAR xs' _ _ (HN1.out (W.heap.size + 1 + 1 + 1) (by omega) (by omega)) HV.out.2.1, qAR xi2' _ _ (HN1.out (W.heap.size + 1 + 1) (by omega) (by omega)) HV.out.2.1⟩ (fun hHeld => ?_)
     clear hK K
     try simp only [Act.put, List.getElem_toArray, List.getElem_cons_zero, List.getElem_cons_succ, List.setIfInBounds_toArray, List.set_cons_zero, List.set_cons_succ]
     refine wpAnyH_done (by kernel_rfl) ?_ _
     refine NoPanic.normal ?_
     go_wp2
     refine bodyPost_ret (qAJ rfl _ _ ⟨W.heap.size + 1 + 1 + 1 + 1, 0, none⟩ true rfl (qBO xr (by intro e; injection e with e; omega))) rfl ?_
     exact ⟨rfl, HE.out _ _ _ H6.out H7.out⟩
    exact AllReadyH.nil
   exact AllReadyH.nil
  exact AllReadyH.nil
 refine AllReadyH.cons (o := _) rfl (fun K hK => ?_) ?_
 ·go_simp
  refine hK.out _ _ ⟨qA1 (.cells #[.int .i64 (ty)] 3) xs, qA1 (.cells #[.int .i64 (ty)] 3) xi2⟩ (fun hHeld => ?_)
  clear hK K
  try simp only [Act.put, List.getElem_toArray, List.getElem_cons_zero, List.getElem_cons_succ, List.setIfInBounds_toArray, List.set_cons_zero, List.set_cons_succ]
  refine wpAnyH_ready (rs := [4]) (by kernel_rfl) (by simp) ?_
  refine AllReadyH.cons (o := _) rfl (fun K hK => ?_) ?_
  ·go_simp
   refine hK.out _ _ ⟨qA1 (.cells #[.int .i64 (ty)] 3) xs, qA1 (.cells #[.int .i64 (ty)] 3) xi2⟩ (fun hHeld => ?_)
   clear hK K
   try simp only [Act.put, List.getElem_toArray, List.getElem_cons_zero, List.getElem_cons_succ, List.setIfInBounds_toArray, List.set_cons_zero, List.set_cons_succ]
   refine wpAnyH_ready (rs := [9]) (by kernel_rfl) (by simp) ?_
   refine AllReadyH.cons (o := _) rfl (fun K hK => ?_) ?_
   ·refine qBd HV.out.drew (ty) rfl _ _ rfl rfl rfl HF1.out HL.out ?_
    intro A6 c6 w3 h5 h5b h6 h7
    have hFF := Fr.trans (Fr.of_below (qA4 (Below.refl _ _))) h5b
    have H6 := am h6
    have H7 := am (Fr.trans (Fr.of_below (qA4 (Below.refl _ _))) h7)
    have hP3 := HP.out.fr hFF HN1.out
    have xs' := hFF.cell xs (HN1.out (W.heap.size + 1 + 1 + 1) (by omega) (by omega))
    have xi2' := hFF.cell xi2 (HN1.out (W.heap.size + 1 + 1) (by omega) (by omega))
    have xr := (qAa hP3.r 0).trans rfl
    have xrf := qAb hP3.r 0
    have eg3 := (qAa h5 1).trans rfl
    have ef3 := qAb h5 1
    clear h5 h5b h6 h7 hFF
    refine hK.out _ _ ⟨xs', xi2'⟩ (fun hHeld => ?_)
    clear hK K
    try simp only [Act.put, List.getElem_toArray, List.getElem_cons_zero, List.getElem_cons_succ, List.setIfInBounds_toArray, List.set_cons_zero, List.set_cons_succ]
    refine hT 10 ?_
    refine hT 11 ?_
    refine wpAnyH_ready (rs := [12]) (by kernel_rfl) (by simp) ?_
    refine AllReadyH.cons (o := _) rfl (fun K hK => ?_) ?_
    ·go_simp
     refine hK.out _ _ ⟨qAR xs' _ _ (HN1.out (W.heap.size + 1 + 1 + 1) (by omega) (by omega)) HV.out.2.1, qAR xi2' _ _ (HN1.out (W.heap.size + 1 + 1) (by omega) (by omega)) HV.out.2.1⟩ (fun hHeld => ?_)
     clear hK K
     try simp only [Act.put, List.getElem_toArray, List.getElem_cons_zero, List.getElem_cons_succ, List.setIfInBounds_toArray, List.set_cons_zero, List.set_cons_succ]
     refine wpAnyH_done (by kernel_rfl) ?_ _
     refine NoPanic.normal ?_
     go_wp2
     refine bodyPost_ret (qAJ rfl _ _ ⟨W.heap.size + 1 + 1 + 1 + 1, 0, none⟩ true rfl (qBO xr (by intro e; injection e with e; omega))) rfl ?_
     exact ⟨rfl, HE.out _ _ _ H6.out H7.out⟩
    exact AllReadyH.nil
   exact AllReadyH.nil
  exact AllReadyH.nil
 exact AllReadyH.nil
theorem plain_2 {g : Nat} {m : Bool} {st : List Int} {tr : List S160} {S okT : Nat → Prop} {W : World} (n ty bb : Int) (A1 A2 A3 A4 A5 : Option Addr) (n1 c1 n2 c2 n3 c3 n4 c4 n5 c5 : Nat) (res : Int) (ls : List Int) (hC : Kd.C (Kd.int .i64) W A2 n2 ls) (hoff : ∀ ad, A2 = some ad → ∀ i, ¬ S (ad.add i).block) (hn0 : 0 ≤ n) (hn : n < n2) (H : ShO W g m st tr S okT) (hl : st.length ≤ 2000000) (hfr : ∀ k, W.heap.size ≤ k → S k) (hkt : ∀ k, okT k → k < W.heap.size) :
  Calls Tryz.prog 89 #[.agg #[.slice A1 n1 c1, .int .i64 res, .slice A2 n2 c2, .slice A3 n3 c3], .agg #[.slice A4 n4 c4, .slice A5 n5 c5], .agg #[.int .i64 2, .int .i64 n, .int .i64 ty, .int .u64 bb], .pointer (some ⟨g, 0, none⟩)] W fun e w' => e = .returned (.bool (true)) ∧ ShO w' g m (st ++ [ls.getD n.toNat 0]) tr S okT ∧ Fr W w' S := by
 obtain ⟨ad, had, hel0⟩ := qCR hC n.toNat (by omega)
 have hnE0 := hoff ad had n.toNat
 obtain ⟨y, hy⟩ : ∃ y, y = ls.getD n.toNat 0 := ⟨_, rfl⟩
 rw [← hy] at hel0 ⊢
 clear hy
 have hgl : g < W.heap.size := H.lt
 obtain ⟨WB, hWB⟩ : ∃ WB, WB = plW W g #[.slice A1 n1 c1, .int .i64 res, .slice A2 n2 c2, .slice A3 n3 c3] #[.slice A4 n4 c4, .slice A5 n5 c5] #[.int .i64 2, .int .i64 n, .int .i64 ty, .int .u64 bb] #[.slice none 0 0, .slice none 0 0, .slice A2 n2 c2, .slice A2 n2 c2, .slice A5 n5 c5, .slice A5 n5 c5] := ⟨_, rfl⟩
 have hP := qBK W g #[.slice A1 n1 c1, .int .i64 res, .slice A2 n2 c2, .slice A3 n3 c3] #[.slice A4 n4 c4, .slice A5 n5 c5] #[.int .i64 2, .int .i64 n, .int .i64 ty, .int .u64 bb] #[.slice none 0 0, .slice none 0 0, .slice A2 n2 c2, .slice A2 n2 c2, .slice A5 n5 c5, .slice A5 n5 c5]
 have hB := qBs W g #[.slice A1 n1 c1, .int .i64 res, .slice A2 n2 c2, .slice A3 n3 c3] #[.slice A4 n4 c4, .slice A5 n5 c5] #[.int .i64 2, .int .i64 n, .int .i64 ty, .int .u64 bb] #[.slice none 0 0, .slice none 0 0, .slice A2 n2 c2, .slice A2 n2 c2, .slice A5 n5 c5, .slice A5 n5 c5]
 have hsz := qB1 W g #[.slice A1 n1 c1, .int .i64 res, .slice A2 n2 c2, .slice A3 n3 c3] #[.slice A4 n4 c4, .slice A5 n5 c5] #[.int .i64 2, .int .i64 n, .int .i64 ty, .int .u64 bb] #[.slice none 0 0, .slice none 0 0, .slice A2 n2 c2, .slice A2 n2 c2, .slice A5 n5 c5, .slice A5 n5 c5]
 rw [← hWB] at hP hB hsz
 have hH := H.below hB
 obtain ⟨S1, hS1⟩ : ∃ S1, S1 = (fun q => (S q ∧ q < W.heap.size) ∨ WB.heap.size ≤ q) := ⟨_, rfl⟩
 rw [← hS1] at hH
 have hn1 : ∀ q, W.heap.size ≤ q → q < W.heap.size + 6 → ¬ S1 q := by rw [hS1]; intro q h1 h2 h3; rcases h3 with ⟨_, h⟩ | h <;> omega
 have hf1 : ∀ k, WB.heap.size ≤ k → S1 k := by rw [hS1]; intro k hk; exact .inr hk
 have hs1 : ∀ k, S1 k → S k := by rw [hS1]; intro k hk; rcases hk with h | h; exact h.1; exact hfr k (by omega)
 have hel : WB.cell? (ad.add n.toNat) = some (.int .i64 y) := (hB.cell (World.block_lt_of_cell? _ _ hel0)).trans hel0
 have hnE : ¬ S1 (ad.add n.toNat).block := by rw [hS1]; intro h; rcases h with h | h; exact hnE0 h.1; have := World.block_lt_of_cell? _ _ hel0; omega
 have HE : qAd (∀ w' v st', ShO w' g m st' tr S1 okT → Fr WB w' S1 → ShO (w'.setCell ⟨W.heap.size + 1 + 1 + 1 + 1, 0, none⟩ v) g m st' tr S okT ∧ Fr W (w'.setCell ⟨W.heap.size + 1 + 1 + 1 + 1, 0, none⟩ v) S) :=
  ⟨fun w' v st' h k => ⟨(ShO.far h (hn1 (W.heap.size + 1 + 1 + 1 + 1) (by omega) (by omega)) (fun e => by have := hkt (W.heap.size + 1 + 1 + 1 + 1) e; omega) v).mono hs1 (fun _ h => h), (Fr.set ((Fr.of_below hB).then_ k (fun q hq => .inl (hs1 q hq))) (.inr (show W.heap.size ≤ W.heap.size + 1 + 1 + 1 + 1 by omega)) v)⟩⟩
 have HE0 : qAd (∀ st', ShO WB g m st' tr S1 okT → ShO WB g m st' tr S okT ∧ Fr W WB S) := ⟨fun st' h => ⟨h.mono hs1 (fun _ h => h), Fr.of_below hB⟩⟩
 have HL := am hl
 have HN1 := am hn1
 have HF1 := am hf1
 have HSZ := am hsz
 have HP := am hP
 clear H hl hS1 hn1 hf1 hs1 hB hsz
 clear hC hoff
 subst had
 go_enter Tryz.func89, Tryz.ntmps89
 go_wp2_with fail
 simp only [plW] at hWB
 rw [← hWB]
 clear hWB
 obtain ⟨u1, u2, hV⟩ := hH
 have HV := am hV
 have eg1 := (qAa hV.1 1).trans rfl
 clear hV
 have xi0 := (qAa HP.out.i 0).trans rfl
 have xi1 := (qAa HP.out.i 1).trans rfl
 have xi2 := (qAa HP.out.i 2).trans rfl
 have xs := (qAa HP.out.s 0).trans rfl
 have xl := (qAa HP.out.l 2).trans rfl
 have hd : decide (n ≥ (n2 : Int)) = false := decide_eq_false (by omega)
 go_region_held3 (fun W' => W'.cell? ⟨W.heap.size + 1 + 1, 0, none⟩ = some (.int .i64 2) ∧ W'.cell? ⟨W.heap.size + 1 + 1, 1, none⟩ = some (.int .i64 n) ∧ W'.cell? ⟨W.heap.size + 1 + 1 + 1 + 1 + 1, 2, none⟩ = some (.slice (some ad) n2 c2))
  (first | exact ⟨xi0, xi1, xl⟩) (fail)
 go_wp2_with fail
 have yg1 := qA1 (.cells #[.int .i64 (y)] 3) eg1
 refine wp_region_noPanic ?_
 refine wp_region_held_drew (S := fun W' => W'.cell? ⟨W.heap.size + 1 + 1 + 1, 0, none⟩ = some (.pointer (some ⟨g, 0, none⟩)) ∧ W'.cell? ⟨W.heap.size + 1 + 1, 0, none⟩ = some (.int .i64 2) ∧ W'.cell? ⟨W.heap.size + 1 + 1, 1, none⟩ = some (.int .i64 n) ∧ W'.cell? ⟨W.heap.size + 1 + 1 + 1 + 1 + 1, 2, none⟩ = some (.slice (some ad) n2 c2) ∧ W'.cell? (ad.add n.toNat) = some (.int .i64 y)) (by kernel_rfl) ⟨xs, xi0, xi1, xl, hel⟩ (fun hHeld => ?_)
 refine hT 0 ?_
 refine hT 1 ?_
 refine hT 2 ?_
 refine hT 3 ?_
 refine hT 5 ?_
 refine hT 6 ?_
 refine hT 7 ?_
 refine hT 8 ?_
 refine hT 9 ?_
 refine hT 10 ?_
 refine hT 11 ?_
 refine hT 12 ?_
 refine wpAnyH_ready (rs := [4, 13]) (by kernel_rfl) (by simp) ?_
 refine AllReadyH.cons (o := _) rfl (fun K hK => ?_) ?_
 ·go_simp
  refine hK.out _ _ ⟨xs, xi0, xi1, xl, hel⟩ (fun hHeld => ?_)
  clear hK K
  try simp only [Act.put, List.getElem_toArray, List.getElem_cons_zero, List.getElem_cons_succ, List.setIfInBounds_toArray, List.set_cons_zero, List.set_cons_succ]
  refine wpAnyH_ready (rs := [13]) (by kernel_rfl) (by simp) ?_
  refine AllReadyH.cons (o := _) rfl (fun K hK => ?_) ?_
  ·go_simp
   refine hK.out _ _ ⟨qA1 (.cells #[.int .i64 (y)] 3) xs, qA1 (.cells #[.int .i64 (y)] 3) xi0, qA1 (.cells #[.int .i64 (y)] 3) xi1, qA1 (.cells #[.int .i64 (y)] 3) xl, qA1 (.cells #[.int .i64 (y)] 3) hel⟩ (fun hHeld => ?_)
   clear hK K
   try simp only [Act.put, List.getElem_toArray, List.getElem_cons_zero, List.getElem_cons_succ, List.setIfInBounds_toArray, List.set_cons_zero, List.set_cons_succ]
   refine wpAnyH_ready (rs := [14]) (by kernel_rfl) (by simp) ?_
   refine AllReadyH.cons (o := _) rfl (fun K hK => ?_) ?_
   ·refine qBd HV.out.drew.drew (y) rfl _ _ rfl rfl rfl HF1.out HL.out ?_
    intro A6 c6 w3 h5 h5b h6 h7
    have hFF := Fr.trans (Fr.of_below (qA4 (qA4 (Below.refl _ _)))) h5b
    have H6 := am h6
    have H7 := am (Fr.trans (Fr.of_below (qA4 (qA4 (Below.refl _ _)))) h7)
    have hP3 := HP.out.fr hFF HN1.out
    have xs' := hFF.cell xs (HN1.out (W.heap.size + 1 + 1 + 1) (by omega) (by omega))
    have xi0' := hFF.cell xi0 (HN1.out (W.heap.size + 1 + 1) (by omega) (by omega))
    have xi1' := hFF.cell xi1 (HN1.out (W.heap.size + 1 + 1) (by omega) (by omega))
    have xl' := hFF.cell xl (HN1.out (W.heap.size + 1 + 1 + 1 + 1 + 1) (by omega) (by omega))
    have hel' := hFF.cell hel hnE
    have xr := (qAa hP3.r 0).trans rfl
    have xrf := qAb hP3.r 0
    have eg3 := (qAa h5 1).trans rfl
    have ef3 := qAb h5 1
    clear h5 h5b h6 h7 hFF
    refine hK.out _ _ ⟨xs', xi0', xi1', xl', hel'⟩ (fun hHeld => ?_)
    clear hK K
    try simp only [Act.put, List.getElem_toArray, List.getElem_cons_zero, List.getElem_cons_succ, List.setIfInBounds_toArray, List.set_cons_zero, List.set_cons_succ]
    refine hT 15 ?_
    refine hT 16 ?_
    refine wpAnyH_ready (rs := [17]) (by kernel_rfl) (by simp) ?_
    refine AllReadyH.cons (o := _) rfl (fun K hK => ?_) ?_
    ·go_simp
     refine hK.out _ _ ⟨qAR xs' _ _ (HN1.out (W.heap.size + 1 + 1 + 1) (by omega) (by omega)) HV.out.2.1, qAR xi0' _ _ (HN1.out (W.heap.size + 1 + 1) (by omega) (by omega)) HV.out.2.1, qAR xi1' _ _ (HN1.out (W.heap.size + 1 + 1) (by omega) (by omega)) HV.out.2.1, qAR xl' _ _ (HN1.out (W.heap.size + 1 + 1 + 1 + 1 + 1) (by omega) (by omega)) HV.out.2.1, qAR hel' _ _ hnE HV.out.2.1⟩ (fun hHeld => ?_)
     clear hK K
     try simp only [Act.put, List.getElem_toArray, List.getElem_cons_zero, List.getElem_cons_succ, List.setIfInBounds_toArray, List.set_cons_zero, List.set_cons_succ]
     refine wpAnyH_done (by kernel_rfl) ?_ _
     refine NoPanic.normal ?_
     go_wp2
     refine bodyPost_ret (qAJ rfl _ _ ⟨W.heap.size + 1 + 1 + 1 + 1, 0, none⟩ true rfl (qBO xr (by intro e; injection e with e; omega))) rfl ?_
     exact ⟨rfl, HE.out _ _ _ H6.out H7.out⟩
    exact AllReadyH.nil
   exact AllReadyH.nil
  exact AllReadyH.nil
 refine AllReadyH.cons (o := _) rfl (fun K hK => ?_) ?_
 ·go_simp
  refine hK.out _ _ ⟨qA1 (.cells #[.int .i64 (y)] 3) xs, qA1 (.cells #[.int .i64 (y)] 3) xi0, qA1 (.cells #[.int .i64 (y)] 3) xi1, qA1 (.cells #[.int .i64 (y)] 3) xl, qA1 (.cells #[.int .i64 (y)] 3) hel⟩ (fun hHeld => ?_)
  clear hK K
  try simp only [Act.put, List.getElem_toArray, List.getElem_cons_zero, List.getElem_cons_succ, List.setIfInBounds_toArray, List.set_cons_zero, List.set_cons_succ]
  refine wpAnyH_ready (rs := [4]) (by kernel_rfl) (by simp) ?_
  refine AllReadyH.cons (o := _) rfl (fun K hK => ?_) ?_
  ·go_simp
   refine hK.out _ _ ⟨qA1 (.cells #[.int .i64 (y)] 3) xs, qA1 (.cells #[.int .i64 (y)] 3) xi0, qA1 (.cells #[.int .i64 (y)] 3) xi1, qA1 (.cells #[.int .i64 (y)] 3) xl, qA1 (.cells #[.int .i64 (y)] 3) hel⟩ (fun hHeld => ?_)
   clear hK K
   try simp only [Act.put, List.getElem_toArray, List.getElem_cons_zero, List.getElem_cons_succ, List.setIfInBounds_toArray, List.set_cons_zero, List.set_cons_succ]
   refine wpAnyH_ready (rs := [14]) (by kernel_rfl) (by simp) ?_
   refine AllReadyH.cons (o := _) rfl (fun K hK => ?_) ?_
   ·refine qBd HV.out.drew.drew (y) rfl _ _ rfl rfl rfl HF1.out HL.out ?_
    intro A6 c6 w3 h5 h5b h6 h7
    have hFF := Fr.trans (Fr.of_below (qA4 (qA4 (Below.refl _ _)))) h5b
    have H6 := am h6
    have H7 := am (Fr.trans (Fr.of_below (qA4 (qA4 (Below.refl _ _)))) h7)
    have hP3 := HP.out.fr hFF HN1.out
    have xs' := hFF.cell xs (HN1.out (W.heap.size + 1 + 1 + 1) (by omega) (by omega))
    have xi0' := hFF.cell xi0 (HN1.out (W.heap.size + 1 + 1) (by omega) (by omega))
    have xi1' := hFF.cell xi1 (HN1.out (W.heap.size + 1 + 1) (by omega) (by omega))
    have xl' := hFF.cell xl (HN1.out (W.heap.size + 1 + 1 + 1 + 1 + 1) (by omega) (by omega))
    have hel' := hFF.cell hel hnE
    have xr := (qAa hP3.r 0).trans rfl
    have xrf := qAb hP3.r 0
    have eg3 := (qAa h5 1).trans rfl
    have ef3 := qAb h5 1
    clear h5 h5b h6 h7 hFF
    refine hK.out _ _ ⟨xs', xi0', xi1', xl', hel'⟩ (fun hHeld => ?_)
    clear hK K
    try simp only [Act.put, List.getElem_toArray, List.getElem_cons_zero, List.getElem_cons_succ, List.setIfInBounds_toArray, List.set_cons_zero, List.set_cons_succ]
    refine hT 15 ?_
    refine hT 16 ?_
    refine wpAnyH_ready (rs := [17]) (by kernel_rfl) (by simp) ?_
    refine AllReadyH.cons (o := _) rfl (fun K hK => ?_) ?_
    ·go_simp
     refine hK.out _ _ ⟨qAR xs' _ _ (HN1.out (W.heap.size + 1 + 1 + 1) (by omega) (by omega)) HV.out.2.1, qAR xi0' _ _ (HN1.out (W.heap.size + 1 + 1) (by omega) (by omega)) HV.out.2.1, qAR xi1' _ _ (HN1.out (W.heap.size + 1 + 1) (by omega) (by omega)) HV.out.2.1, qAR xl' _ _ (HN1.out (W.heap.size + 1 + 1 + 1 + 1 + 1) (by omega) (by omega)) HV.out.2.1, qAR hel' _ _ hnE HV.out.2.1⟩ (fun hHeld => ?_)
     clear hK K
     try simp only [Act.put, List.getElem_toArray, List.getElem_cons_zero, List.getElem_cons_succ, List.setIfInBounds_toArray, List.set_cons_zero, List.set_cons_succ]
     refine wpAnyH_done (by kernel_rfl) ?_ _
     refine NoPanic.normal ?_
     go_wp2
     refine bodyPost_ret (qAJ rfl _ _ ⟨W.heap.size + 1 + 1 + 1 + 1, 0, none⟩ true rfl (qBO xr (by intro e; injection e with e; omega))) rfl ?_
     exact ⟨rfl, HE.out _ _ _ H6.out H7.out⟩
    exact AllReadyH.nil
   exact AllReadyH.nil
  exact AllReadyH.nil
 exact AllReadyH.nil
theorem plain_2_bad {g : Nat} {m : Bool} {st : List Int} {tr : List S160} {S okT : Nat → Prop} {W : World} (n ty bb : Int) (A1 A2 A3 A4 A5 : Option Addr) (n1 c1 n2 c2 n3 c3 n4 c4 n5 c5 : Nat) (res : Int) (hn : n2 ≤ n) (H : ShO W g m st tr S okT) (hl : st.length ≤ 2000000) (hfr : ∀ k, W.heap.size ≤ k → S k) (hkt : ∀ k, okT k → k < W.heap.size) :
  Calls Tryz.prog 89 #[.agg #[.slice A1 n1 c1, .int .i64 res, .slice A2 n2 c2, .slice A3 n3 c3], .agg #[.slice A4 n4 c4, .slice A5 n5 c5], .agg #[.int .i64 2, .int .i64 n, .int .i64 ty, .int .u64 bb], .pointer (some ⟨g, 0, none⟩)] W fun e w' => e = .returned (.bool (false)) ∧ ShO w' g m (st) tr S okT ∧ Fr W w' S := by
 have hgl : g < W.heap.size := H.lt
 obtain ⟨WB, hWB⟩ : ∃ WB, WB = plW W g #[.slice A1 n1 c1, .int .i64 res, .slice A2 n2 c2, .slice A3 n3 c3] #[.slice A4 n4 c4, .slice A5 n5 c5] #[.int .i64 2, .int .i64 n, .int .i64 ty, .int .u64 bb] #[.slice none 0 0, .slice none 0 0, .slice A2 n2 c2, .slice A2 n2 c2, .slice A5 n5 c5, .slice A5 n5 c5] := ⟨_, rfl⟩
 have hP := qBK W g #[.slice A1 n1 c1, .int .i64 res, .slice A2 n2 c2, .slice A3 n3 c3] #[.slice A4 n4 c4, .slice A5 n5 c5] #[.int .i64 2, .int .i64 n, .int .i64 ty, .int .u64 bb] #[.slice none 0 0, .slice none 0 0, .slice A2 n2 c2, .slice A2 n2 c2, .slice A5 n5 c5, .slice A5 n5 c5]
 have hB := qBs W g #[.slice A1 n1 c1, .int .i64 res, .slice A2 n2 c2, .slice A3 n3 c3] #[.slice A4 n4 c4, .slice A5 n5 c5] #[.int .i64 2, .int .i64 n, .int .i64 ty, .int .u64 bb] #[.slice none 0 0, .slice none 0 0, .slice A2 n2 c2, .slice A2 n2 c2, .slice A5 n5 c5, .slice A5 n5 c5]
 have hsz := qB1 W g #[.slice A1 n1 c1, .int .i64 res, .slice A2 n2 c2, .slice A3 n3 c3] #[.slice A4 n4 c4, .slice A5 n5 c5] #[.int .i64 2, .int .i64 n, .int .i64 ty, .int .u64 bb] #[.slice none 0 0, .slice none 0 0, .slice A2 n2 c2, .slice A2 n2 c2, .slice A5 n5 c5, .slice A5 n5 c5]
 rw [← hWB] at hP hB hsz
 have hH := H.below hB
 obtain ⟨S1, hS1⟩ : ∃ S1, S1 = (fun q => (S q ∧ q < W.heap.size) ∨ WB.heap.size ≤ q) := ⟨_, rfl⟩
 rw [← hS1] at hH
 have hn1 : ∀ q, W.heap.size ≤ q → q < W.heap.size + 6 → ¬ S1 q := by rw [hS1]; intro q h1 h2 h3; rcases h3 with ⟨_, h⟩ | h <;> omega
 have hf1 : ∀ k, WB.heap.size ≤ k → S1 k := by rw [hS1]; intro k hk; exact .inr hk
 have hs1 : ∀ k, S1 k → S k := by rw [hS1]; intro k hk; rcases hk with h | h; exact h.1; exact hfr k (by omega)
 have HE : qAd (∀ w' v st', ShO w' g m st' tr S1 okT → Fr WB w' S1 → ShO (w'.setCell ⟨W.heap.size + 1 + 1 + 1 + 1, 0, none⟩ v) g m st' tr S okT ∧ Fr W (w'.setCell ⟨W.heap.size + 1 + 1 + 1 + 1, 0, none⟩ v) S) :=
  ⟨fun w' v st' h k => ⟨(ShO.far h (hn1 (W.heap.size + 1 + 1 + 1 + 1) (by omega) (by omega)) (fun e => by have := hkt (W.heap.size + 1 + 1 + 1 + 1) e; omega) v).mono hs1 (fun _ h => h), (Fr.set ((Fr.of_below hB).then_ k (fun q hq => .inl (hs1 q hq))) (.inr (show W.heap.size ≤ W.heap.size + 1 + 1 + 1 + 1 by omega)) v)⟩⟩
 have HE0 : qAd (∀ st', ShO WB g m st' tr S1 okT → ShO WB g m st' tr S okT ∧ Fr W WB S) := ⟨fun st' h => ⟨h.mono hs1 (fun _ h => h), Fr.of_below hB⟩⟩
 have HL := am hl
 have HN1 := am hn1
 have HF1 := am hf1
 have HSZ := am hsz
 have HP := am hP
 clear H hl hS1 hn1 hf1 hs1 hB hsz
 have HH := am hH
 go_enter Tryz.func89, Tryz.ntmps89
 go_wp2_with fail
 simp only [plW] at hWB
 rw [← hWB]
 clear hWB
 have xi0 := (qAa HP.out.i 0).trans rfl
 have xi1 := (qAa HP.out.i 1).trans rfl
 have xi2 := (qAa HP.out.i 2).trans rfl
 have xs := (qAa HP.out.s 0).trans rfl
 have xr := (qAa HP.out.r 0).trans rfl
 have xrf := qAb HP.out.r 0
 have xl := (qAa HP.out.l 2).trans rfl
 have hd : decide (n ≥ (n2 : Int)) = true := decide_eq_true (by omega)
 go_region_held3 (fun W' => W'.cell? ⟨W.heap.size + 1 + 1, 0, none⟩ = some (.int .i64 2) ∧ W'.cell? ⟨W.heap.size + 1 + 1, 1, none⟩ = some (.int .i64 n) ∧ W'.cell? ⟨W.heap.size + 1 + 1 + 1 + 1 + 1, 2, none⟩ = some (.slice A2 n2 c2))
  (first | exact ⟨xi0, xi1, xl⟩) (fail)
 go_wp2_with fail
 refine bodyPost_ret (qAJ rfl _ _ ⟨W.heap.size + 1 + 1 + 1 + 1, 0, none⟩ false rfl (World.cell?_setCell_same _ _ _ (u := .bool false) xr)) rfl ?_
 exact ⟨rfl, HE.out WB.drew _ _ HH.out.drew (Fr.of_below (qA4 (Below.refl _ _)))⟩
theorem plain_3 {g : Nat} {m : Bool} {st : List Int} {tr : List S160} {S okT : Nat → Prop} {W : World} (n ty bb : Int) (A1 A2 A3 A4 A5 : Option Addr) (n1 c1 n2 c2 n3 c3 n4 c4 n5 c5 : Nat) (res : Int) (ls : List Int) (hC : Kd.C (Kd.int .i64) W A2 n2 ls) (hoff : ∀ ad, A2 = some ad → ∀ i, ¬ S (ad.add i).block) (hn0 : 0 ≤ n) (hn : n < n2) (H : ShO W g m st tr S okT) (hl : st.length ≤ 2000000) (hfr : ∀ k, W.heap.size ≤ k → S k) (hkt : ∀ k, okT k → k < W.heap.size) :
  Calls Tryz.prog 89 #[.agg #[.slice A1 n1 c1, .int .i64 res, .slice A2 n2 c2, .slice A3 n3 c3], .agg #[.slice A4 n4 c4, .slice A5 n5 c5], .agg #[.int .i64 3, .int .i64 n, .int .i64 ty, .int .u64 bb], .pointer (some ⟨g, 0, none⟩)] W fun e w' => e = .returned (.bool (qBt (ls.getD n.toNat 0) st)) ∧ ShO w' g m (st.dropLast) tr S okT ∧ Fr W w' S := by
 obtain ⟨ad, had, hel0⟩ := qCR hC n.toNat (by omega)
 have hnE0 := hoff ad had n.toNat
 have hEl : (ad.add n.toNat).block < W.heap.size := World.block_lt_of_cell? _ _ hel0
 obtain ⟨y, hy⟩ : ∃ y, y = ls.getD n.toNat 0 := ⟨_, rfl⟩
 rw [← hy] at hel0 ⊢
 clear hy
 have hgl : g < W.heap.size := H.lt
 obtain ⟨WB, hWB⟩ : ∃ WB, WB = plW W g #[.slice A1 n1 c1, .int .i64 res, .slice A2 n2 c2, .slice A3 n3 c3] #[.slice A4 n4 c4, .slice A5 n5 c5] #[.int .i64 3, .int .i64 n, .int .i64 ty, .int .u64 bb] #[.slice none 0 0, .slice none 0 0, .slice A2 n2 c2, .slice A2 n2 c2, .slice A5 n5 c5, .slice A5 n5 c5] := ⟨_, rfl⟩
 have hP := qBK W g #[.slice A1 n1 c1, .int .i64 res, .slice A2 n2 c2, .slice A3 n3 c3] #[.slice A4 n4 c4, .slice A5 n5 c5] #[.int .i64 3, .int .i64 n, .int .i64 ty, .int .u64 bb] #[.slice none 0 0, .slice none 0 0, .slice A2 n2 c2, .slice A2 n2 c2, .slice A5 n5 c5, .slice A5 n5 c5]
 have hB := qBs W g #[.slice A1 n1 c1, .int .i64 res, .slice A2 n2 c2, .slice A3 n3 c3] #[.slice A4 n4 c4, .slice A5 n5 c5] #[.int .i64 3, .int .i64 n, .int .i64 ty, .int .u64 bb] #[.slice none 0 0, .slice none 0 0, .slice A2 n2 c2, .slice A2 n2 c2, .slice A5 n5 c5, .slice A5 n5 c5]
 have hsz := qB1 W g #[.slice A1 n1 c1, .int .i64 res, .slice A2 n2 c2, .slice A3 n3 c3] #[.slice A4 n4 c4, .slice A5 n5 c5] #[.int .i64 3, .int .i64 n, .int .i64 ty, .int .u64 bb] #[.slice none 0 0, .slice none 0 0, .slice A2 n2 c2, .slice A2 n2 c2, .slice A5 n5 c5, .slice A5 n5 c5]
 rw [← hWB] at hP hB hsz
 have hH := H.below hB
 obtain ⟨S1, hS1⟩ : ∃ S1, S1 = (fun q => (S q ∧ q < W.heap.size) ∨ WB.heap.size ≤ q) := ⟨_, rfl⟩
 rw [← hS1] at hH
 have hn1 : ∀ q, W.heap.size ≤ q → q < W.heap.size + 6 → ¬ S1 q := by rw [hS1]; intro q h1 h2 h3; rcases h3 with ⟨_, h⟩ | h <;> omega
 have hf1 : ∀ k, WB.heap.size ≤ k → S1 k := by rw [hS1]; intro k hk; exact .inr hk
 have hs1 : ∀ k, S1 k → S k := by rw [hS1]; intro k hk; rcases hk with h | h; exact h.1; exact hfr k (by omega)
 have hel : WB.cell? (ad.add n.toNat) = some (.int .i64 y) := (hB.cell hEl).trans hel0
 have hnE : ¬ S1 (ad.add n.toNat).block := by rw [hS1]; intro h; rcases h with h | h; exact hnE0 h.1; omega
 have HE : qAd (∀ w' v st', ShO w' g m st' tr S1 okT → Fr WB w' S1 → ShO (w'.setCell ⟨W.heap.size + 1 + 1 + 1 + 1, 0, none⟩ v) g m st' tr S okT ∧ Fr W (w'.setCell ⟨W.heap.size + 1 + 1 + 1 + 1, 0, none⟩ v) S) :=
  ⟨fun w' v st' h k => ⟨(ShO.far h (hn1 (W.heap.size + 1 + 1 + 1 + 1) (by omega) (by omega)) (fun e => by have := hkt (W.heap.size + 1 + 1 + 1 + 1) e; omega) v).mono hs1 (fun _ h => h), (Fr.set ((Fr.of_below hB).then_ k (fun q hq => .inl (hs1 q hq))) (.inr (show W.heap.size ≤ W.heap.size + 1 + 1 + 1 + 1 by omega)) v)⟩⟩
 have HE0 : qAd (∀ st', ShO WB g m st' tr S1 okT → ShO WB g m st' tr S okT ∧ Fr W WB S) := ⟨fun st' h => ⟨h.mono hs1 (fun _ h => h), Fr.of_below hB⟩⟩
 have HL := am hl
 have HN1 := am hn1
 have HF1 := am hf1
 have HSZ := am hsz
 have HP := am hP
 clear H hl hS1 hn1 hf1 hs1 hB hsz
 have HT := qDW y hH.drew HL.out
 obtain ⟨tb, htb⟩ : ∃ tb, tb = qBt y st := ⟨_, rfl⟩
 rw [← htb] at HT ⊢
 have HT := am HT
 clear htb hC hoff
 subst had
 go_enter Tryz.func89, Tryz.ntmps89
 go_wp2_with fail
 simp only [plW] at hWB
 rw [← hWB]
 clear hWB
 have xi0 := (qAa HP.out.i 0).trans rfl
 have xi1 := (qAa HP.out.i 1).trans rfl
 have xi2 := (qAa HP.out.i 2).trans rfl
 have xs := (qAa HP.out.s 0).trans rfl
 have xl := (qAa HP.out.l 3).trans rfl
 have hd : decide (n < (n2 : Int)) = true := decide_eq_true (by omega)
 go_region_held3 (fun W' => W'.cell? ⟨W.heap.size + 1 + 1 + 1, 0, none⟩ = some (.pointer (some ⟨g, 0, none⟩)) ∧ W'.cell? ⟨W.heap.size + 1 + 1, 0, none⟩ = some (.int .i64 3) ∧ W'.cell? ⟨W.heap.size + 1 + 1, 1, none⟩ = some (.int .i64 n) ∧ W'.cell? ⟨W.heap.size + 1 + 1 + 1 + 1 + 1, 3, none⟩ = some (.slice (some ad) n2 c2) ∧ W'.cell? (ad.add n.toNat) = some (.int .i64 y))
  (first | exact ⟨xs, xi0, xi1, xl, hel⟩ | exact ⟨xs', xi0', xi1', xl', hel'⟩ | exact ⟨qAI xs' _ _ (by intro e; simp at e), qAI xi0' _ _ (by intro e; simp at e), qAI xi1' _ _ (by intro e; simp at e), qAI xl' _ _ (by intro e; simp at e), qAI hel' _ _ (by intro e; have e' : (ad.add n.toNat).block = W.heap.size + 1 + 1 + 1 + 1 := e; omega)⟩)
  (first
    | (go_at_call 88;
       refine HT.out.mono ?_;
       rintro e w1 ⟨rfl, hS1, hb0⟩;
       have hb1 := Fr.trans (Fr.of_below (qA4 (Below.refl _ _))) hb0;
       have HS1 := am hS1;
       have HB1 := am hb1;
       have hPP := HP.out.fr hb1 HN1.out;
       have xr := (qAa hPP.r 0).trans rfl;
       have xrf := qAb hPP.r 0;
       have xs' := hb1.cell xs (HN1.out (W.heap.size + 1 + 1 + 1) (by omega) (by omega));
       have xi0' := hb1.cell xi0 (HN1.out (W.heap.size + 1 + 1) (by omega) (by omega));
       have xi1' := hb1.cell xi1 (HN1.out (W.heap.size + 1 + 1) (by omega) (by omega));
       have xl' := hb1.cell xl (HN1.out (W.heap.size + 1 + 1 + 1 + 1 + 1) (by omega) (by omega));
       have hel' := hb1.cell hel hnE;
       clear hS1 hb0 hb1 hPP))
 go_wp2_with fail
 refine bodyPost_ret (qAJ rfl _ _ ⟨W.heap.size + 1 + 1 + 1 + 1, 0, none⟩ tb rfl (World.cell?_setCell_same _ _ _ (u := .bool false) xr)) rfl ?_
 exact ⟨rfl, HE.out _ _ _ HS1.out HB1.out⟩
theorem plain_3_bad {g : Nat} {m : Bool} {st : List Int} {tr : List S160} {S okT : Nat → Prop} {W : World} (n ty bb : Int) (A1 A2 A3 A4 A5 : Option Addr) (n1 c1 n2 c2 n3 c3 n4 c4 n5 c5 : Nat) (res : Int) (hn : n2 ≤ n) (H : ShO W g m st tr S okT) (hl : st.length ≤ 2000000) (hfr : ∀ k, W.heap.size ≤ k → S k) (hkt : ∀ k, okT k → k < W.heap.size) :
  Calls Tryz.prog 89 #[.agg #[.slice A1 n1 c1, .int .i64 res, .slice A2 n2 c2, .slice A3 n3 c3], .agg #[.slice A4 n4 c4, .slice A5 n5 c5], .agg #[.int .i64 3, .int .i64 n, .int .i64 ty, .int .u64 bb], .pointer (some ⟨g, 0, none⟩)] W fun e w' => e = .returned (.bool (false)) ∧ ShO w' g m (st) tr S okT ∧ Fr W w' S := by
 have hgl : g < W.heap.size := H.lt
 obtain ⟨WB, hWB⟩ : ∃ WB, WB = plW W g #[.slice A1 n1 c1, .int .i64 res, .slice A2 n2 c2, .slice A3 n3 c3] #[.slice A4 n4 c4, .slice A5 n5 c5] #[.int .i64 3, .int .i64 n, .int .i64 ty, .int .u64 bb] #[.slice none 0 0, .slice none 0 0, .slice A2 n2 c2, .slice A2 n2 c2, .slice A5 n5 c5, .slice A5 n5 c5] := ⟨_, rfl⟩
 have hP := qBK W g #[.slice A1 n1 c1, .int .i64 res, .slice A2 n2 c2, .slice A3 n3 c3] #[.slice A4 n4 c4, .slice A5 n5 c5] #[.int .i64 3, .int .i64 n, .int .i64 ty, .int .u64 bb] #[.slice none 0 0, .slice none 0 0, .slice A2 n2 c2, .slice A2 n2 c2, .slice A5 n5 c5, .slice A5 n5 c5]
 have hB := qBs W g #[.slice A1 n1 c1, .int .i64 res, .slice A2 n2 c2, .slice A3 n3 c3] #[.slice A4 n4 c4, .slice A5 n5 c5] #[.int .i64 3, .int .i64 n, .int .i64 ty, .int .u64 bb] #[.slice none 0 0, .slice none 0 0, .slice A2 n2 c2, .slice A2 n2 c2, .slice A5 n5 c5, .slice A5 n5 c5]
 have hsz := qB1 W g #[.slice A1 n1 c1, .int .i64 res, .slice A2 n2 c2, .slice A3 n3 c3] #[.slice A4 n4 c4, .slice A5 n5 c5] #[.int .i64 3, .int .i64 n, .int .i64 ty, .int .u64 bb] #[.slice none 0 0, .slice none 0 0, .slice A2 n2 c2, .slice A2 n2 c2, .slice A5 n5 c5, .slice A5 n5 c5]
 rw [← hWB] at hP hB hsz
 have hH := H.below hB
 obtain ⟨S1, hS1⟩ : ∃ S1, S1 = (fun q => (S q ∧ q < W.heap.size) ∨ WB.heap.size ≤ q) := ⟨_, rfl⟩
 rw [← hS1] at hH
 have hn1 : ∀ q, W.heap.size ≤ q → q < W.heap.size + 6 → ¬ S1 q := by rw [hS1]; intro q h1 h2 h3; rcases h3 with ⟨_, h⟩ | h <;> omega
 have hf1 : ∀ k, WB.heap.size ≤ k → S1 k := by rw [hS1]; intro k hk; exact .inr hk
 have hs1 : ∀ k, S1 k → S k := by rw [hS1]; intro k hk; rcases hk with h | h; exact h.1; exact hfr k (by omega)
 have HE : qAd (∀ w' v st', ShO w' g m st' tr S1 okT → Fr WB w' S1 → ShO (w'.setCell ⟨W.heap.size + 1 + 1 + 1 + 1, 0, none⟩ v) g m st' tr S okT ∧ Fr W (w'.setCell ⟨W.heap.size + 1 + 1 + 1 + 1, 0, none⟩ v) S) :=
  ⟨fun w' v st' h k => ⟨(ShO.far h (hn1 (W.heap.size + 1 + 1 + 1 + 1) (by omega) (by omega)) (fun e => by have := hkt (W.heap.size + 1 + 1 + 1 + 1) e; omega) v).mono hs1 (fun _ h => h), (Fr.set ((Fr.of_below hB).then_ k (fun q hq => .inl (hs1 q hq))) (.inr (show W.heap.size ≤ W.heap.size + 1 + 1 + 1 + 1 by omega)) v)⟩⟩
 have HE0 : qAd (∀ st', ShO WB g m st' tr S1 okT → ShO WB g m st' tr S okT ∧ Fr W WB S) := ⟨fun st' h => ⟨h.mono hs1 (fun _ h => h), Fr.of_below hB⟩⟩
 have HL := am hl
 have HN1 := am hn1
 have HF1 := am hf1
 have HSZ := am hsz
 have HP := am hP
 clear H hl hS1 hn1 hf1 hs1 hB hsz
 have HH := am hH
 go_enter Tryz.func89, Tryz.ntmps89
 go_wp2_with fail
 simp only [plW] at hWB
 rw [← hWB]
 clear hWB
 have xi0 := (qAa HP.out.i 0).trans rfl
 have xi1 := (qAa HP.out.i 1).trans rfl
 have xi2 := (qAa HP.out.i 2).trans rfl
 have xs := (qAa HP.out.s 0).trans rfl
 have xr := (qAa HP.out.r 0).trans rfl
 have xrf := qAb HP.out.r 0
 have xl := (qAa HP.out.l 3).trans rfl
 have hd : decide (n < (n2 : Int)) = false := decide_eq_false (by omega)
 refine wp_region_noPanic ?_
 refine wp_region_held_drew (S := fun W' => W'.cell? ⟨W.heap.size + 1 + 1, 0, none⟩ = some (.int .i64 3) ∧ W'.cell? ⟨W.heap.size + 1 + 1, 1, none⟩ = some (.int .i64 n) ∧ W'.cell? ⟨W.heap.size + 1 + 1 + 1 + 1 + 1, 3, none⟩ = some (.slice A2 n2 c2)) (by kernel_rfl) ⟨xi0, xi1, xl⟩ (fun hHeld => ?_)
 refine hT 0 ?_
 refine hT 1 ?_
 refine hT 2 ?_
 refine hT 3 ?_
 refine hT 4 ?_
 refine hT 5 ?_
 refine hT 6 ?_
 refine hT 7 ?_
 refine hT 8 ?_
 refine hO 9 ?_
 refine hO 10 ?_
 refine hO 11 ?_
 refine hO 12 ?_
 refine hO 13 ?_
 refine hO 14 ?_
 refine hO 15 ?_
 refine hO 16 ?_
 refine hO 17 ?_
 refine hO 18 ?_
 refine hT 19 ?_
 refine wpAnyH_ready (rs := [20]) (by kernel_rfl) (by simp) ?_
 refine AllReadyH.cons (o := _) rfl (fun K hK => ?_) ?_
 ·go_simp
  refine hK.out _ _ ⟨qAI xi0 _ _ (by intro e; simp at e), qAI xi1 _ _ (by intro e; simp at e), qAI xl _ _ (by intro e; simp at e)⟩ (fun hHeld => ?_)
  clear hK K
  try simp only [Act.put, List.getElem_toArray, List.getElem_cons_zero, List.getElem_cons_succ, List.setIfInBounds_toArray, List.set_cons_zero, List.set_cons_succ]
  refine wpAnyH_done (by kernel_rfl) ?_ _
  refine NoPanic.normal ?_
  go_wp2_with fail
  refine bodyPost_ret (qAJ rfl _ _ ⟨W.heap.size + 1 + 1 + 1 + 1, 0, none⟩ false rfl (World.cell?_setCell_same _ _ _ (u := .bool false) xr)) rfl ?_
  exact ⟨rfl, HE.out WB.drew _ _ HH.out.drew (Fr.of_below (qA4 (Below.refl _ _)))⟩
 exact AllReadyH.nil
theorem plain_4 {g : Nat} {m : Bool} {st : List Int} {tr : List S160} {S okT : Nat → Prop} {W : World} (n ty bb : Int) (A1 A2 A3 A4 A5 : Option Addr) (n1 c1 n2 c2 n3 c3 n4 c4 n5 c5 : Nat) (res : Int) (ls : List Int) (hC : Kd.C (Kd.int .i64) W A5 n5 ls) (hoff : ∀ ad, A5 = some ad → ∀ i, ¬ S (ad.add i).block) (hn0 : 0 ≤ n) (hn : n < n5) (H : ShO W g m st tr S okT) (hl : st.length ≤ 2000000) (hfr : ∀ k, W.heap.size ≤ k → S k) (hkt : ∀ k, okT k → k < W.heap.size) :
  Calls Tryz.prog 89 #[.agg #[.slice A1 n1 c1, .int .i64 res, .slice A2 n2 c2, .slice A3 n3 c3], .agg #[.slice A4 n4 c4, .slice A5 n5 c5], .agg #[.int .i64 4, .int .i64 n, .int .i64 ty, .int .u64 bb], .pointer (some ⟨g, 0, none⟩)] W fun e w' => e = .returned (.bool (true)) ∧ ShO w' g m (st ++ [ls.getD n.toNat 0]) tr S okT ∧ Fr W w' S := by
 obtain ⟨ad, had, hel0⟩ := qCR hC n.toNat (by omega)
 have hnE0 := hoff ad had n.toNat
 obtain ⟨y, hy⟩ : ∃ y, y = ls.getD n.toNat 0 := ⟨_, rfl⟩
 rw [← hy] at hel0 ⊢
 clear hy
 have hgl : g < W.heap.size := H.lt
 obtain ⟨WB, hWB⟩ : ∃ WB, WB = plW W g #[.slice A1 n1 c1, .int .i64 res, .slice A2 n2 c2, .slice A3 n3 c3] #[.slice A4 n4 c4, .slice A5 n5 c5] #[.int .i64 4, .int .i64 n, .int .i64 ty, .int .u64 bb] #[.slice none 0 0, .slice none 0 0, .slice A2 n2 c2, .slice A2 n2 c2, .slice A5 n5 c5, .slice A5 n5 c5] := ⟨_, rfl⟩
 have hP := qBK W g #[.slice A1 n1 c1, .int .i64 res, .slice A2 n2 c2, .slice A3 n3 c3] #[.slice A4 n4 c4, .slice A5 n5 c5] #[.int .i64 4, .int .i64 n, .int .i64 ty, .int .u64 bb] #[.slice none 0 0, .slice none 0 0, .slice A2 n2 c2, .slice A2 n2 c2, .slice A5 n5 c5, .slice A5 n5 c5]
 have hB := qBs W g #[.slice A1 n1 c1, .int .i64 res, .slice A2 n2 c2, .slice A3 n3 c3] #[.slice A4 n4 c4, .slice A5 n5 c5] #[.int .i64 4, .int .i64 n, .int .i64 ty, .int .u64 bb] #[.slice none 0 0, .slice none 0 0, .slice A2 n2 c2, .slice A2 n2 c2, .slice A5 n5 c5, .slice A5 n5 c5]
 have hsz := qB1 W g #[.slice A1 n1 c1, .int .i64 res, .slice A2 n2 c2, .slice A3 n3 c3] #[.slice A4 n4 c4, .slice A5 n5 c5] #[.int .i64 4, .int .i64 n, .int .i64 ty, .int .u64 bb] #[.slice none 0 0, .slice none 0 0, .slice A2 n2 c2, .slice A2 n2 c2, .slice A5 n5 c5, .slice A5 n5 c5]
 rw [← hWB] at hP hB hsz
 have hH := H.below hB
 obtain ⟨S1, hS1⟩ : ∃ S1, S1 = (fun q => (S q ∧ q < W.heap.size) ∨ WB.heap.size ≤ q) := ⟨_, rfl⟩
 rw [← hS1] at hH
 have hn1 : ∀ q, W.heap.size ≤ q → q < W.heap.size + 6 → ¬ S1 q := by rw [hS1]; intro q h1 h2 h3; rcases h3 with ⟨_, h⟩ | h <;> omega
 have hf1 : ∀ k, WB.heap.size ≤ k → S1 k := by rw [hS1]; intro k hk; exact .inr hk
 have hs1 : ∀ k, S1 k → S k := by rw [hS1]; intro k hk; rcases hk with h | h; exact h.1; exact hfr k (by omega)
 have hel : WB.cell? (ad.add n.toNat) = some (.int .i64 y) := (hB.cell (World.block_lt_of_cell? _ _ hel0)).trans hel0
 have hnE : ¬ S1 (ad.add n.toNat).block := by rw [hS1]; intro h; rcases h with h | h; exact hnE0 h.1; have := World.block_lt_of_cell? _ _ hel0; omega
 have HE : qAd (∀ w' v st', ShO w' g m st' tr S1 okT → Fr WB w' S1 → ShO (w'.setCell ⟨W.heap.size + 1 + 1 + 1 + 1, 0, none⟩ v) g m st' tr S okT ∧ Fr W (w'.setCell ⟨W.heap.size + 1 + 1 + 1 + 1, 0, none⟩ v) S) :=
  ⟨fun w' v st' h k => ⟨(ShO.far h (hn1 (W.heap.size + 1 + 1 + 1 + 1) (by omega) (by omega)) (fun e => by have := hkt (W.heap.size + 1 + 1 + 1 + 1) e; omega) v).mono hs1 (fun _ h => h), (Fr.set ((Fr.of_below hB).then_ k (fun q hq => .inl (hs1 q hq))) (.inr (show W.heap.size ≤ W.heap.size + 1 + 1 + 1 + 1 by omega)) v)⟩⟩
 have HE0 : qAd (∀ st', ShO WB g m st' tr S1 okT → ShO WB g m st' tr S okT ∧ Fr W WB S) := ⟨fun st' h => ⟨h.mono hs1 (fun _ h => h), Fr.of_below hB⟩⟩
 have HL := am hl
 have HN1 := am hn1
 have HF1 := am hf1
 have HSZ := am hsz
 have HP := am hP
 clear H hl hS1 hn1 hf1 hs1 hB hsz
 clear hC hoff
 subst had
 go_enter Tryz.func89, Tryz.ntmps89
 go_wp2_with fail
 simp only [plW] at hWB
 rw [← hWB]
 clear hWB
 obtain ⟨u1, u2, hV⟩ := hH
 have HV := am hV
 have eg1 := (qAa hV.1 1).trans rfl
 clear hV
 have xi0 := (qAa HP.out.i 0).trans rfl
 have xi1 := (qAa HP.out.i 1).trans rfl
 have xi2 := (qAa HP.out.i 2).trans rfl
 have xs := (qAa HP.out.s 0).trans rfl
 have xl := (qAa HP.out.l 4).trans rfl
 have hd : decide (n ≥ (n5 : Int)) = false := decide_eq_false (by omega)
 go_region_held3 (fun W' => W'.cell? ⟨W.heap.size + 1 + 1, 0, none⟩ = some (.int .i64 4) ∧ W'.cell? ⟨W.heap.size + 1 + 1, 1, none⟩ = some (.int .i64 n) ∧ W'.cell? ⟨W.heap.size + 1 + 1 + 1 + 1 + 1, 4, none⟩ = some (.slice (some ad) n5 c5))
  (first | exact ⟨xi0, xi1, xl⟩) (fail)
 go_wp2_with fail
 have yg1 := qA1 (.cells #[.int .i64 (y)] 3) eg1
 refine wp_region_noPanic ?_
 refine wp_region_held_drew (S := fun W' => W'.cell? ⟨W.heap.size + 1 + 1 + 1, 0, none⟩ = some (.pointer (some ⟨g, 0, none⟩)) ∧ W'.cell? ⟨W.heap.size + 1 + 1, 0, none⟩ = some (.int .i64 4) ∧ W'.cell? ⟨W.heap.size + 1 + 1, 1, none⟩ = some (.int .i64 n) ∧ W'.cell? ⟨W.heap.size + 1 + 1 + 1 + 1 + 1, 4, none⟩ = some (.slice (some ad) n5 c5) ∧ W'.cell? (ad.add n.toNat) = some (.int .i64 y)) (by kernel_rfl) ⟨xs, xi0, xi1, xl, hel⟩ (fun hHeld => ?_)
 refine hT 0 ?_
 refine hT 1 ?_
 refine hT 2 ?_
 refine hT 3 ?_
 refine hT 5 ?_
 refine hT 6 ?_
 refine hT 7 ?_
 refine hT 8 ?_
 refine hT 9 ?_
 refine hT 10 ?_
 refine hT 11 ?_
 refine hT 12 ?_
 refine wpAnyH_ready (rs := [4, 13]) (by kernel_rfl) (by simp) ?_
 refine AllReadyH.cons (o := _) rfl (fun K hK => ?_) ?_
 ·go_simp
  refine hK.out _ _ ⟨xs, xi0, xi1, xl, hel⟩ (fun hHeld => ?_)
  clear hK K
  try simp only [Act.put, List.getElem_toArray, List.getElem_cons_zero, List.getElem_cons_succ, List.setIfInBounds_toArray, List.set_cons_zero, List.set_cons_succ]
  refine wpAnyH_ready (rs := [13]) (by kernel_rfl) (by simp) ?_
  refine AllReadyH.cons (o := _) rfl (fun K hK => ?_) ?_
  ·go_simp
   refine hK.out _ _ ⟨qA1 (.cells #[.int .i64 (y)] 3) xs, qA1 (.cells #[.int .i64 (y)] 3) xi0, qA1 (.cells #[.int .i64 (y)] 3) xi1, qA1 (.cells #[.int .i64 (y)] 3) xl, qA1 (.cells #[.int .i64 (y)] 3) hel⟩ (fun hHeld => ?_)
   clear hK K
   try simp only [Act.put, List.getElem_toArray, List.getElem_cons_zero, List.getElem_cons_succ, List.setIfInBounds_toArray, List.set_cons_zero, List.set_cons_succ]
   refine wpAnyH_ready (rs := [14]) (by kernel_rfl) (by simp) ?_
   refine AllReadyH.cons (o := _) rfl (fun K hK => ?_) ?_
   ·refine qBd HV.out.drew.drew (y) rfl _ _ rfl rfl rfl HF1.out HL.out ?_
    intro A6 c6 w3 h5 h5b h6 h7
    have hFF := Fr.trans (Fr.of_below (qA4 (qA4 (Below.refl _ _)))) h5b
    have H6 := am h6
    have H7 := am (Fr.trans (Fr.of_below (qA4 (qA4 (Below.refl _ _)))) h7)
    have hP3 := HP.out.fr hFF HN1.out
    have xs' := hFF.cell xs (HN1.out (W.heap.size + 1 + 1 + 1) (by omega) (by omega))
    have xi0' := hFF.cell xi0 (HN1.out (W.heap.size + 1 + 1) (by omega) (by omega))
    have xi1' := hFF.cell xi1 (HN1.out (W.heap.size + 1 + 1) (by omega) (by omega))
    have xl' := hFF.cell xl (HN1.out (W.heap.size + 1 + 1 + 1 + 1 + 1) (by omega) (by omega))
    have hel' := hFF.cell hel hnE
    have xr := (qAa hP3.r 0).trans rfl
    have xrf := qAb hP3.r 0
    have eg3 := (qAa h5 1).trans rfl
    have ef3 := qAb h5 1
    clear h5 h5b h6 h7 hFF
    refine hK.out _ _ ⟨xs', xi0', xi1', xl', hel'⟩ (fun hHeld => ?_)
    clear hK K
    try simp only [Act.put, List.getElem_toArray, List.getElem_cons_zero, List.getElem_cons_succ, List.setIfInBounds_toArray, List.set_cons_zero, List.set_cons_succ]
    refine hT 15 ?_
    refine hT 16 ?_
    refine wpAnyH_ready (rs := [17]) (by kernel_rfl) (by simp) ?_
    refine AllReadyH.cons (o := _) rfl (fun K hK => ?_) ?_
    ·go_simp
     refine hK.out _ _ ⟨qAR xs' _ _ (HN1.out (W.heap.size + 1 + 1 + 1) (by omega) (by omega)) HV.out.2.1, qAR xi0' _ _ (HN1.out (W.heap.size + 1 + 1) (by omega) (by omega)) HV.out.2.1, qAR xi1' _ _ (HN1.out (W.heap.size + 1 + 1) (by omega) (by omega)) HV.out.2.1, qAR xl' _ _ (HN1.out (W.heap.size + 1 + 1 + 1 + 1 + 1) (by omega) (by omega)) HV.out.2.1, qAR hel' _ _ hnE HV.out.2.1⟩ (fun hHeld => ?_)
     clear hK K
     try simp only [Act.put, List.getElem_toArray, List.getElem_cons_zero, List.getElem_cons_succ, List.setIfInBounds_toArray, List.set_cons_zero, List.set_cons_succ]
     refine wpAnyH_done (by kernel_rfl) ?_ _
     refine NoPanic.normal ?_
     go_wp2
     refine bodyPost_ret (qAJ rfl _ _ ⟨W.heap.size + 1 + 1 + 1 + 1, 0, none⟩ true rfl (qBO xr (by intro e; injection e with e; omega))) rfl ?_
     exact ⟨rfl, HE.out _ _ _ H6.out H7.out⟩
    exact AllReadyH.nil
   exact AllReadyH.nil
  exact AllReadyH.nil
 refine AllReadyH.cons (o := _) rfl (fun K hK => ?_) ?_
 ·go_simp
  refine hK.out _ _ ⟨qA1 (.cells #[.int .i64 (y)] 3) xs, qA1 (.cells #[.int .i64 (y)] 3) xi0, qA1 (.cells #[.int .i64 (y)] 3) xi1, qA1 (.cells #[.int .i64 (y)] 3) xl, qA1 (.cells #[.int .i64 (y)] 3) hel⟩ (fun hHeld => ?_)
  clear hK K
  try simp only [Act.put, List.getElem_toArray, List.getElem_cons_zero, List.getElem_cons_succ, List.setIfInBounds_toArray, List.set_cons_zero, List.set_cons_succ]
  refine wpAnyH_ready (rs := [4]) (by kernel_rfl) (by simp) ?_
  refine AllReadyH.cons (o := _) rfl (fun K hK => ?_) ?_
  ·go_simp
   refine hK.out _ _ ⟨qA1 (.cells #[.int .i64 (y)] 3) xs, qA1 (.cells #[.int .i64 (y)] 3) xi0, qA1 (.cells #[.int .i64 (y)] 3) xi1, qA1 (.cells #[.int .i64 (y)] 3) xl, qA1 (.cells #[.int .i64 (y)] 3) hel⟩ (fun hHeld => ?_)
   clear hK K
   try simp only [Act.put, List.getElem_toArray, List.getElem_cons_zero, List.getElem_cons_succ, List.setIfInBounds_toArray, List.set_cons_zero, List.set_cons_succ]
   refine wpAnyH_ready (rs := [14]) (by kernel_rfl) (by simp) ?_
   refine AllReadyH.cons (o := _) rfl (fun K hK => ?_) ?_
   ·refine qBd HV.out.drew.drew (y) rfl _ _ rfl rfl rfl HF1.out HL.out ?_
    intro A6 c6 w3 h5 h5b h6 h7
    have hFF := Fr.trans (Fr.of_below (qA4 (qA4 (Below.refl _ _)))) h5b
    have H6 := am h6
    have H7 := am (Fr.trans (Fr.of_below (qA4 (qA4 (Below.refl _ _)))) h7)
    have hP3 := HP.out.fr hFF HN1.out
    have xs' := hFF.cell xs (HN1.out (W.heap.size + 1 + 1 + 1) (by omega) (by omega))
    have xi0' := hFF.cell xi0 (HN1.out (W.heap.size + 1 + 1) (by omega) (by omega))
    have xi1' := hFF.cell xi1 (HN1.out (W.heap.size + 1 + 1) (by omega) (by omega))
    have xl' := hFF.cell xl (HN1.out (W.heap.size + 1 + 1 + 1 + 1 + 1) (by omega) (by omega))
    have hel' := hFF.cell hel hnE
    have xr := (qAa hP3.r 0).trans rfl
    have xrf := qAb hP3.r 0
    have eg3 := (qAa h5 1).trans rfl
    have ef3 := qAb h5 1
    clear h5 h5b h6 h7 hFF
    refine hK.out _ _ ⟨xs', xi0', xi1', xl', hel'⟩ (fun hHeld => ?_)
    clear hK K
    try simp only [Act.put, List.getElem_toArray, List.getElem_cons_zero, List.getElem_cons_succ, List.setIfInBounds_toArray, List.set_cons_zero, List.set_cons_succ]
    refine hT 15 ?_
    refine hT 16 ?_
    refine wpAnyH_ready (rs := [17]) (by kernel_rfl) (by simp) ?_
    refine AllReadyH.cons (o := _) rfl (fun K hK => ?_) ?_
    ·go_simp
     refine hK.out _ _ ⟨qAR xs' _ _ (HN1.out (W.heap.size + 1 + 1 + 1) (by omega) (by omega)) HV.out.2.1, qAR xi0' _ _ (HN1.out (W.heap.size + 1 + 1) (by omega) (by omega)) HV.out.2.1, qAR xi1' _ _ (HN1.out (W.heap.size + 1 + 1) (by omega) (by omega)) HV.out.2.1, qAR xl' _ _ (HN1.out (W.heap.size + 1 + 1 + 1 + 1 + 1) (by omega) (by omega)) HV.out.2.1, qAR hel' _ _ hnE HV.out.2.1⟩ (fun hHeld => ?_)
     clear hK K
     try simp only [Act.put, List.getElem_toArray, List.getElem_cons_zero, List.getElem_cons_succ, List.setIfInBounds_toArray, List.set_cons_zero, List.set_cons_succ]
     refine wpAnyH_done (by kernel_rfl) ?_ _
     refine NoPanic.normal ?_
     go_wp2
     refine bodyPost_ret (qAJ rfl _ _ ⟨W.heap.size + 1 + 1 + 1 + 1, 0, none⟩ true rfl (qBO xr (by intro e; injection e with e; omega))) rfl ?_
     exact ⟨rfl, HE.out _ _ _ H6.out H7.out⟩
    exact AllReadyH.nil
   exact AllReadyH.nil
  exact AllReadyH.nil
 exact AllReadyH.nil
theorem plain_4_bad {g : Nat} {m : Bool} {st : List Int} {tr : List S160} {S okT : Nat → Prop} {W : World} (n ty bb : Int) (A1 A2 A3 A4 A5 : Option Addr) (n1 c1 n2 c2 n3 c3 n4 c4 n5 c5 : Nat) (res : Int) (hn : n5 ≤ n) (H : ShO W g m st tr S okT) (hl : st.length ≤ 2000000) (hfr : ∀ k, W.heap.size ≤ k → S k) (hkt : ∀ k, okT k → k < W.heap.size) :
  Calls Tryz.prog 89 #[.agg #[.slice A1 n1 c1, .int .i64 res, .slice A2 n2 c2, .slice A3 n3 c3], .agg #[.slice A4 n4 c4, .slice A5 n5 c5], .agg #[.int .i64 4, .int .i64 n, .int .i64 ty, .int .u64 bb], .pointer (some ⟨g, 0, none⟩)] W fun e w' => e = .returned (.bool (false)) ∧ ShO w' g m (st) tr S okT ∧ Fr W w' S := by
 have hgl : g < W.heap.size := H.lt
 obtain ⟨WB, hWB⟩ : ∃ WB, WB = plW W g #[.slice A1 n1 c1, .int .i64 res, .slice A2 n2 c2, .slice A3 n3 c3] #[.slice A4 n4 c4, .slice A5 n5 c5] #[.int .i64 4, .int .i64 n, .int .i64 ty, .int .u64 bb] #[.slice none 0 0, .slice none 0 0, .slice A2 n2 c2, .slice A2 n2 c2, .slice A5 n5 c5, .slice A5 n5 c5] := ⟨_, rfl⟩
 have hP := qBK W g #[.slice A1 n1 c1, .int .i64 res, .slice A2 n2 c2, .slice A3 n3 c3] #[.slice A4 n4 c4, .slice A5 n5 c5] #[.int .i64 4, .int .i64 n, .int .i64 ty, .int .u64 bb] #[.slice none 0 0, .slice none 0 0, .slice A2 n2 c2, .slice A2 n2 c2, .slice A5 n5 c5, .slice A5 n5 c5]
 have hB := qBs W g #[.slice A1 n1 c1, .int .i64 res, .slice A2 n2 c2, .slice A3 n3 c3] #[.slice A4 n4 c4, .slice A5 n5 c5] #[.int .i64 4, .int .i64 n, .int .i64 ty, .int .u64 bb] #[.slice none 0 0, .slice none 0 0, .slice A2 n2 c2, .slice A2 n2 c2, .slice A5 n5 c5, .slice A5 n5 c5]
 have hsz := qB1 W g #[.slice A1 n1 c1, .int .i64 res, .slice A2 n2 c2, .slice A3 n3 c3] #[.slice A4 n4 c4, .slice A5 n5 c5] #[.int .i64 4, .int .i64 n, .int .i64 ty, .int .u64 bb] #[.slice none 0 0, .slice none 0 0, .slice A2 n2 c2, .slice A2 n2 c2, .slice A5 n5 c5, .slice A5 n5 c5]
 rw [← hWB] at hP hB hsz
 have hH := H.below hB
 obtain ⟨S1, hS1⟩ : ∃ S1, S1 = (fun q => (S q ∧ q < W.heap.size) ∨ WB.heap.size ≤ q) := ⟨_, rfl⟩
 rw [← hS1] at hH
 have hn1 : ∀ q, W.heap.size ≤ q → q < W.heap.size + 6 → ¬ S1 q := by rw [hS1]; intro q h1 h2 h3; rcases h3 with ⟨_, h⟩ | h <;> omega
 have hf1 : ∀ k, WB.heap.size ≤ k → S1 k := by rw [hS1]; intro k hk; exact .inr hk
 have hs1 : ∀ k, S1 k → S k := by rw [hS1]; intro k hk; rcases hk with h | h; exact h.1; exact hfr k (by omega)
 have HE : qAd (∀ w' v st', ShO w' g m st' tr S1 okT → Fr WB w' S1 → ShO (w'.setCell ⟨W.heap.size + 1 + 1 + 1 + 1, 0, none⟩ v) g m st' tr S okT ∧ Fr W (w'.setCell ⟨W.heap.size + 1 + 1 + 1 + 1, 0, none⟩ v) S) :=
  ⟨fun w' v st' h k => ⟨(ShO.far h (hn1 (W.heap.size + 1 + 1 + 1 + 1) (by omega) (by omega)) (fun e => by have := hkt (W.heap.size + 1 + 1 + 1 + 1) e; omega) v).mono hs1 (fun _ h => h), (Fr.set ((Fr.of_below hB).then_ k (fun q hq => .inl (hs1 q hq))) (.inr (show W.heap.size ≤ W.heap.size + 1 + 1 + 1 + 1 by omega)) v)⟩⟩
 have HE0 : qAd (∀ st', ShO WB g m st' tr S1 okT → ShO WB g m st' tr S okT ∧ Fr W WB S) := ⟨fun st' h => ⟨h.mono hs1 (fun _ h => h), Fr.of_below hB⟩⟩
 have HL := am hl
 have HN1 := am hn1
 have HF1 := am hf1
 have HSZ := am hsz
 have HP := am hP
 clear H hl hS1 hn1 hf1 hs1 hB hsz
 have HH := am hH
 go_enter Tryz.func89, Tryz.ntmps89
 go_wp2_with fail
 simp only [plW] at hWB
 rw [← hWB]
 clear hWB
 have xi0 := (qAa HP.out.i 0).trans rfl
 have xi1 := (qAa HP.out.i 1).trans rfl
 have xi2 := (qAa HP.out.i 2).trans rfl
 have xs := (qAa HP.out.s 0).trans rfl
 have xr := (qAa HP.out.r 0).trans rfl
 have xrf := qAb HP.out.r 0
 have xl := (qAa HP.out.l 4).trans rfl
 have hd : decide (n ≥ (n5 : Int)) = true := decide_eq_true (by omega)
 go_region_held3 (fun W' => W'.cell? ⟨W.heap.size + 1 + 1, 0, none⟩ = some (.int .i64 4) ∧ W'.cell? ⟨W.heap.size + 1 + 1, 1, none⟩ = some (.int .i64 n) ∧ W'.cell? ⟨W.heap.size + 1 + 1 + 1 + 1 + 1, 4, none⟩ = some (.slice A5 n5 c5))
  (first | exact ⟨xi0, xi1, xl⟩) (fail)
 go_wp2_with fail
 refine bodyPost_ret (qAJ rfl _ _ ⟨W.heap.size + 1 + 1 + 1 + 1, 0, none⟩ false rfl (World.cell?_setCell_same _ _ _ (u := .bool false) xr)) rfl ?_
 exact ⟨rfl, HE.out WB.drew _ _ HH.out.drew (Fr.of_below (qA4 (Below.refl _ _)))⟩
theorem plain_5 {g : Nat} {m : Bool} {st : List Int} {tr : List S160} {S okT : Nat → Prop} {W : World} (n ty bb : Int) (A1 A2 A3 A4 A5 : Option Addr) (n1 c1 n2 c2 n3 c3 n4 c4 n5 c5 : Nat) (res : Int) (ls : List Int) (hC : Kd.C (Kd.int .i64) W A5 n5 ls) (hoff : ∀ ad, A5 = some ad → ∀ i, ¬ S (ad.add i).block) (hn0 : 0 ≤ n) (hn : n < n5) (H : ShO W g m st tr S okT) (hl : st.length ≤ 2000000) (hfr : ∀ k, W.heap.size ≤ k → S k) (hkt : ∀ k, okT k → k < W.heap.size) :
  Calls Tryz.prog 89 #[.agg #[.slice A1 n1 c1, .int .i64 res, .slice A2 n2 c2, .slice A3 n3 c3], .agg #[.slice A4 n4 c4, .slice A5 n5 c5], .agg #[.int .i64 5, .int .i64 n, .int .i64 ty, .int .u64 bb], .pointer (some ⟨g, 0, none⟩)] W fun e w' => e = .returned (.bool (qBt (ls.getD n.toNat 0) st)) ∧ ShO w' g m (st.dropLast) tr S okT ∧ Fr W w' S := by
 obtain ⟨ad, had, hel0⟩ := qCR hC n.toNat (by omega)
 have hnE0 := hoff ad had n.toNat
 have hEl : (ad.add n.toNat).block < W.heap.size := World.block_lt_of_cell? _ _ hel0
 obtain ⟨y, hy⟩ : ∃ y, y = ls.getD n.toNat 0 := ⟨_, rfl⟩
 rw [← hy] at hel0 ⊢
 clear hy
 have hgl : g < W.heap.size := H.lt
 obtain ⟨WB, hWB⟩ : ∃ WB, WB = plW W g #[.slice A1 n1 c1, .int .i64 res, .slice A2 n2 c2, .slice A3 n3 c3] #[.slice A4 n4 c4, .slice A5 n5 c5] #[.int .i64 5, .int .i64 n, .int .i64 ty, .int .u64 bb] #[.slice none 0 0, .slice none 0 0, .slice A2 n2 c2, .slice A2 n2 c2, .slice A5 n5 c5, .slice A5 n5 c5] := ⟨_, rfl⟩
 have hP := qBK W g #[.slice A1 n1 c1, .int .i64 res, .slice A2 n2 c2, .slice A3 n3 c3] #[.slice A4 n4 c4, .slice A5 n5 c5] #[.int .i64 5, .int .i64 n, .int .i64 ty, .int .u64 bb] #[.slice none 0 0, .slice none 0 0, .slice A2 n2 c2, .slice A2 n2 c2, .slice A5 n5 c5, .slice A5 n5 c5]
 have hB := qBs W g #[.slice A1 n1 c1, .int .i64 res, .slice A2 n2 c2, .slice A3 n3 c3] #[.slice A4 n4 c4, .slice A5 n5 c5] #[.int .i64 5, .int .i64 n, .int .i64 ty, .int .u64 bb] #[.slice none 0 0, .slice none 0 0, .slice A2 n2 c2, .slice A2 n2 c2, .slice A5 n5 c5, .slice A5 n5 c5]
 have hsz := qB1 W g #[.slice A1 n1 c1, .int .i64 res, .slice A2 n2 c2, .slice A3 n3 c3] #[.slice A4 n4 c4, .slice A5 n5 c5] #[.int .i64 5, .int .i64 n, .int .i64 ty, .int .u64 bb] #[.slice none 0 0, .slice none 0 0, .slice A2 n2 c2, .slice A2 n2 c2, .slice A5 n5 c5, .slice A5 n5 c5]
 rw [← hWB] at hP hB hsz
 have hH := H.below hB
 obtain ⟨S1, hS1⟩ : ∃ S1, S1 = (fun q => (S q ∧ q < W.heap.size) ∨ WB.heap.size ≤ q) := ⟨_, rfl⟩
 rw [← hS1] at hH
 have hn1 : ∀ q, W.heap.size ≤ q → q < W.heap.size + 6 → ¬ S1 q := by rw [hS1]; intro q h1 h2 h3; rcases h3 with ⟨_, h⟩ | h <;> omega
 have hf1 : ∀ k, WB.heap.size ≤ k → S1 k := by rw [hS1]; intro k hk; exact .inr hk
 have hs1 : ∀ k, S1 k → S k := by rw [hS1]; intro k hk; rcases hk with h | h; exact h.1; exact hfr k (by omega)
 have hel : WB.cell? (ad.add n.toNat) = some (.int .i64 y) := (hB.cell hEl).trans hel0
 have hnE : ¬ S1 (ad.add n.toNat).block := by rw [hS1]; intro h; rcases h with h | h; exact hnE0 h.1; omega
 have HE : qAd (∀ w' v st', ShO w' g m st' tr S1 okT → Fr WB w' S1 → ShO (w'.setCell ⟨W.heap.size + 1 + 1 + 1 + 1, 0, none⟩ v) g m st' tr S okT ∧ Fr W (w'.setCell ⟨W.heap.size + 1 + 1 + 1 + 1, 0, none⟩ v) S) :=
  ⟨fun w' v st' h k => ⟨(ShO.far h (hn1 (W.heap.size + 1 + 1 + 1 + 1) (by omega) (by omega)) (fun e => by have := hkt (W.heap.size + 1 + 1 + 1 + 1) e; omega) v).mono hs1 (fun _ h => h), (Fr.set ((Fr.of_below hB).then_ k (fun q hq => .inl (hs1 q hq))) (.inr (show W.heap.size ≤ W.heap.size + 1 + 1 + 1 + 1 by omega)) v)⟩⟩
 have HE0 : qAd (∀ st', ShO WB g m st' tr S1 okT → ShO WB g m st' tr S okT ∧ Fr W WB S) := ⟨fun st' h => ⟨h.mono hs1 (fun _ h => h), Fr.of_below hB⟩⟩
 have HL := am hl
 have HN1 := am hn1
 have HF1 := am hf1
 have HSZ := am hsz
 have HP := am hP
 clear H hl hS1 hn1 hf1 hs1 hB hsz
 have HT := qDW y hH.drew HL.out
 obtain ⟨tb, htb⟩ : ∃ tb, tb = qBt y st := ⟨_, rfl⟩
 rw [← htb] at HT ⊢
 have HT := am HT
 clear htb hC hoff
 subst had
 go_enter Tryz.func89, Tryz.ntmps89
 go_wp2_with fail
 simp only [plW] at hWB
 rw [← hWB]
 clear hWB
 have xi0 := (qAa HP.out.i 0).trans rfl
 have xi1 := (qAa HP.out.i 1).trans rfl
 have xi2 := (qAa HP.out.i 2).trans rfl
 have xs := (qAa HP.out.s 0).trans rfl
 have xl := (qAa HP.out.l 5).trans rfl
 have hd : decide (n < (n5 : Int)) = true := decide_eq_true (by omega)
 go_region_held3 (fun W' => W'.cell? ⟨W.heap.size + 1 + 1 + 1, 0, none⟩ = some (.pointer (some ⟨g, 0, none⟩)) ∧ W'.cell? ⟨W.heap.size + 1 + 1, 0, none⟩ = some (.int .i64 5) ∧ W'.cell? ⟨W.heap.size + 1 + 1, 1, none⟩ = some (.int .i64 n) ∧ W'.cell? ⟨W.heap.size + 1 + 1 + 1 + 1 + 1, 5, none⟩ = some (.slice (some ad) n5 c5) ∧ W'.cell? (ad.add n.toNat) = some (.int .i64 y))
  (first | exact ⟨xs, xi0, xi1, xl, hel⟩ | exact ⟨xs', xi0', xi1', xl', hel'⟩ | exact ⟨qAI xs' _ _ (by intro e; simp at e), qAI xi0' _ _ (by intro e; simp at e), qAI xi1' _ _ (by intro e; simp at e), qAI xl' _ _ (by intro e; simp at e), qAI hel' _ _ (by intro e; have e' : (ad.add n.toNat).block = W.heap.size + 1 + 1 + 1 + 1 := e; omega)⟩)
  (first
    | (go_at_call 88;
       refine HT.out.mono ?_;
       rintro e w1 ⟨rfl, hS1, hb0⟩;
       have hb1 := Fr.trans (Fr.of_below (qA4 (Below.refl _ _))) hb0;
       have HS1 := am hS1;
       have HB1 := am hb1;
       have hPP := HP.out.fr hb1 HN1.out;
       have xr := (qAa hPP.r 0).trans rfl;
       have xrf := qAb hPP.r 0;
       have xs' := hb1.cell xs (HN1.out (W.heap.size + 1 + 1 + 1) (by omega) (by omega));
       have xi0' := hb1.cell xi0 (HN1.out (W.heap.size + 1 + 1) (by omega) (by omega));
       have xi1' := hb1.cell xi1 (HN1.out (W.heap.size + 1 + 1) (by omega) (by omega));
       have xl' := hb1.cell xl (HN1.out (W.heap.size + 1 + 1 + 1 + 1 + 1) (by omega) (by omega));
       have hel' := hb1.cell hel hnE;
       clear hS1 hb0 hb1 hPP))
 go_wp2_with fail
 refine bodyPost_ret (qAJ rfl _ _ ⟨W.heap.size + 1 + 1 + 1 + 1, 0, none⟩ tb rfl (World.cell?_setCell_same _ _ _ (u := .bool false) xr)) rfl ?_
 exact ⟨rfl, HE.out _ _ _ HS1.out HB1.out⟩
theorem plain_5_bad {g : Nat} {m : Bool} {st : List Int} {tr : List S160} {S okT : Nat → Prop} {W : World} (n ty bb : Int) (A1 A2 A3 A4 A5 : Option Addr) (n1 c1 n2 c2 n3 c3 n4 c4 n5 c5 : Nat) (res : Int) (hn : n5 ≤ n) (H : ShO W g m st tr S okT) (hl : st.length ≤ 2000000) (hfr : ∀ k, W.heap.size ≤ k → S k) (hkt : ∀ k, okT k → k < W.heap.size) :
  Calls Tryz.prog 89 #[.agg #[.slice A1 n1 c1, .int .i64 res, .slice A2 n2 c2, .slice A3 n3 c3], .agg #[.slice A4 n4 c4, .slice A5 n5 c5], .agg #[.int .i64 5, .int .i64 n, .int .i64 ty, .int .u64 bb], .pointer (some ⟨g, 0, none⟩)] W fun e w' => e = .returned (.bool (false)) ∧ ShO w' g m (st) tr S okT ∧ Fr W w' S := by
 have hgl : g < W.heap.size := H.lt
 obtain ⟨WB, hWB⟩ : ∃ WB, WB = plW W g #[.slice A1 n1 c1, .int .i64 res, .slice A2 n2 c2, .slice A3 n3 c3] #[.slice A4 n4 c4, .slice A5 n5 c5] #[.int .i64 5, .int .i64 n, .int .i64 ty, .int .u64 bb] #[.slice none 0 0, .slice none 0 0, .slice A2 n2 c2, .slice A2 n2 c2, .slice A5 n5 c5, .slice A5 n5 c5] := ⟨_, rfl⟩
 have hP := qBK W g #[.slice A1 n1 c1, .int .i64 res, .slice A2 n2 c2, .slice A3 n3 c3] #[.slice A4 n4 c4, .slice A5 n5 c5] #[.int .i64 5, .int .i64 n, .int .i64 ty, .int .u64 bb] #[.slice none 0 0, .slice none 0 0, .slice A2 n2 c2, .slice A2 n2 c2, .slice A5 n5 c5, .slice A5 n5 c5]
 have hB := qBs W g #[.slice A1 n1 c1, .int .i64 res, .slice A2 n2 c2, .slice A3 n3 c3] #[.slice A4 n4 c4, .slice A5 n5 c5] #[.int .i64 5, .int .i64 n, .int .i64 ty, .int .u64 bb] #[.slice none 0 0, .slice none 0 0, .slice A2 n2 c2, .slice A2 n2 c2, .slice A5 n5 c5, .slice A5 n5 c5]
 have hsz := qB1 W g #[.slice A1 n1 c1, .int .i64 res, .slice A2 n2 c2, .slice A3 n3 c3] #[.slice A4 n4 c4, .slice A5 n5 c5] #[.int .i64 5, .int .i64 n, .int .i64 ty, .int .u64 bb] #[.slice none 0 0, .slice none 0 0, .slice A2 n2 c2, .slice A2 n2 c2, .slice A5 n5 c5, .slice A5 n5 c5]
 rw [← hWB] at hP hB hsz
 have hH := H.below hB
 obtain ⟨S1, hS1⟩ : ∃ S1, S1 = (fun q => (S q ∧ q < W.heap.size) ∨ WB.heap.size ≤ q) := ⟨_, rfl⟩
 rw [← hS1] at hH
 have hn1 : ∀ q, W.heap.size ≤ q → q < W.heap.size + 6 → ¬ S1 q := by rw [hS1]; intro q h1 h2 h3; rcases h3 with ⟨_, h⟩ | h <;> omega
 have hf1 : ∀ k, WB.heap.size ≤ k → S1 k := by rw [hS1]; intro k hk; exact .inr hk
 have hs1 : ∀ k, S1 k → S k := by rw [hS1]; intro k hk; rcases hk with h | h; exact h.1; exact hfr k (by omega)
 have HE : qAd (∀ w' v st', ShO w' g m st' tr S1 okT → Fr WB w' S1 → ShO (w'.setCell ⟨W.heap.size + 1 + 1 + 1 + 1, 0, none⟩ v) g m st' tr S okT ∧ Fr W (w'.setCell ⟨W.heap.size + 1 + 1 + 1 + 1, 0, none⟩ v) S) :=
  ⟨fun w' v st' h k => ⟨(ShO.far h (hn1 (W.heap.size + 1 + 1 + 1 + 1) (by omega) (by omega)) (fun e => by have := hkt (W.heap.size + 1 + 1 + 1 + 1) e; omega) v).mono hs1 (fun _ h => h), (Fr.set ((Fr.of_below hB).then_ k (fun q hq => .inl (hs1 q hq))) (.inr (show W.heap.size ≤ W.heap.size + 1 + 1 + 1 + 1 by omega)) v)⟩⟩
 have HE0 : qAd (∀ st', ShO WB g m st' tr S1 okT → ShO WB g m st' tr S okT ∧ Fr W WB S) := ⟨fun st' h => ⟨h.mono hs1 (fun _ h => h), Fr.of_below hB⟩⟩
 have HL := am hl
 have HN1 := am hn1
 have HF1 := am hf1
 have HSZ := am hsz
 have HP := am hP
 clear H hl hS1 hn1 hf1 hs1 hB hsz
 have HH := am hH
 go_enter Tryz.func89, Tryz.ntmps89
 go_wp2_with fail
 simp only [plW] at hWB
 rw [← hWB]
 clear hWB
 have xi0 := (qAa HP.out.i 0).trans rfl
 have xi1 := (qAa HP.out.i 1).trans rfl
 have xi2 := (qAa HP.out.i 2).trans rfl
 have xs := (qAa HP.out.s 0).trans rfl
 have xr := (qAa HP.out.r 0).trans rfl
 have xrf := qAb HP.out.r 0
 have xl := (qAa HP.out.l 5).trans rfl
 have hd : decide (n < (n5 : Int)) = false := decide_eq_false (by omega)
 refine wp_region_noPanic ?_
 refine wp_region_held_drew (S := fun W' => W'.cell? ⟨W.heap.size + 1 + 1, 0, none⟩ = some (.int .i64 5) ∧ W'.cell? ⟨W.heap.size + 1 + 1, 1, none⟩ = some (.int .i64 n) ∧ W'.cell? ⟨W.heap.size + 1 + 1 + 1 + 1 + 1, 5, none⟩ = some (.slice A5 n5 c5)) (by kernel_rfl) ⟨xi0, xi1, xl⟩ (fun hHeld => ?_)
 refine hT 0 ?_
 refine hT 1 ?_
 refine hT 2 ?_
 refine hT 3 ?_
 refine hT 4 ?_
 refine hT 5 ?_
 refine hT 6 ?_
 refine hT 7 ?_
 refine hT 8 ?_
 refine hO 9 ?_
 refine hO 10 ?_
 refine hO 11 ?_
 refine hO 12 ?_
 refine hO 13 ?_
 refine hO 14 ?_
 refine hO 15 ?_
 refine hO 16 ?_
 refine hO 17 ?_
 refine hO 18 ?_
 refine hT 19 ?_
 refine wpAnyH_ready (rs := [20]) (by kernel_rfl) (by simp) ?_
 refine AllReadyH.cons (o := _) rfl (fun K hK => ?_) ?_
 ·go_simp
  refine hK.out _ _ ⟨qAI xi0 _ _ (by intro e; simp at e), qAI xi1 _ _ (by intro e; simp at e), qAI xl _ _ (by intro e; simp at e)⟩ (fun hHeld => ?_)
  clear hK K
  try simp only [Act.put, List.getElem_toArray, List.getElem_cons_zero, List.getElem_cons_succ, List.setIfInBounds_toArray, List.set_cons_zero, List.set_cons_succ]
  refine wpAnyH_done (by kernel_rfl) ?_ _
  refine NoPanic.normal ?_
  go_wp2_with fail
  refine bodyPost_ret (qAJ rfl _ _ ⟨W.heap.size + 1 + 1 + 1 + 1, 0, none⟩ false rfl (World.cell?_setCell_same _ _ _ (u := .bool false) xr)) rfl ?_
  exact ⟨rfl, HE.out WB.drew _ _ HH.out.drew (Fr.of_below (qA4 (Below.refl _ _)))⟩
 exact AllReadyH.nil
theorem plain_6 {g : Nat} {m : Bool} {st : List Int} {tr : List S160} {S okT : Nat → Prop} {W : World} (n ty bb : Int) (A1 A2 A3 A4 A5 : Option Addr) (n1 c1 n2 c2 n3 c3 n4 c4 n5 c5 : Nat) (res : Int) (H : ShO W g m st tr S okT) (hl : st.length ≤ 2000000) (hfr : ∀ k, W.heap.size ≤ k → S k) (hkt : ∀ k, okT k → k < W.heap.size) :
  Calls Tryz.prog 89 #[.agg #[.slice A1 n1 c1, .int .i64 res, .slice A2 n2 c2, .slice A3 n3 c3], .agg #[.slice A4 n4 c4, .slice A5 n5 c5], .agg #[.int .i64 6, .int .i64 n, .int .i64 ty, .int .u64 bb], .pointer (some ⟨g, 0, none⟩)] W fun e w' => e = .returned (.bool ((qDQ 6 n st).1)) ∧ ShO w' g m ((qDQ 6 n st).2) tr S okT ∧ Fr W w' S := by
 have hgl : g < W.heap.size := H.lt
 obtain ⟨WB, hWB⟩ : ∃ WB, WB = plW W g #[.slice A1 n1 c1, .int .i64 res, .slice A2 n2 c2, .slice A3 n3 c3] #[.slice A4 n4 c4, .slice A5 n5 c5] #[.int .i64 6, .int .i64 n, .int .i64 ty, .int .u64 bb] #[.slice none 0 0, .slice none 0 0, .slice A2 n2 c2, .slice A2 n2 c2, .slice A5 n5 c5, .slice A5 n5 c5] := ⟨_, rfl⟩
 have hP := qBK W g #[.slice A1 n1 c1, .int .i64 res, .slice A2 n2 c2, .slice A3 n3 c3] #[.slice A4 n4 c4, .slice A5 n5 c5] #[.int .i64 6, .int .i64 n, .int .i64 ty, .int .u64 bb] #[.slice none 0 0, .slice none 0 0, .slice A2 n2 c2, .slice A2 n2 c2, .slice A5 n5 c5, .slice A5 n5 c5]
 have hB := qBs W g #[.slice A1 n1 c1, .int .i64 res, .slice A2 n2 c2, .slice A3 n3 c3] #[.slice A4 n4 c4, .slice A5 n5 c5] #[.int .i64 6, .int .i64 n, .int .i64 ty, .int .u64 bb] #[.slice none 0 0, .slice none 0 0, .slice A2 n2 c2, .slice A2 n2 c2, .slice A5 n5 c5, .slice A5 n5 c5]
 have hsz := qB1 W g #[.slice A1 n1 c1, .int .i64 res, .slice A2 n2 c2, .slice A3 n3 c3] #[.slice A4 n4 c4, .slice A5 n5 c5] #[.int .i64 6, .int .i64 n, .int .i64 ty, .int .u64 bb] #[.slice none 0 0, .slice none 0 0, .slice A2 n2 c2, .slice A2 n2 c2, .slice A5 n5 c5, .slice A5 n5 c5]
 rw [← hWB] at hP hB hsz
 have hH := H.below hB
 obtain ⟨S1, hS1⟩ : ∃ S1, S1 = (fun q => (S q ∧ q < W.heap.size) ∨ WB.heap.size ≤ q) := ⟨_, rfl⟩
 rw [← hS1] at hH
 have hn1 : ∀ q, W.heap.size ≤ q → q < W.heap.size + 6 → ¬ S1 q := by rw [hS1]; intro q h1 h2 h3; rcases h3 with ⟨_, h⟩ | h <;> omega
 have hf1 : ∀ k, WB.heap.size ≤ k → S1 k := by rw [hS1]; intro k hk; exact .inr hk
 have hs1 : ∀ k, S1 k → S k := by rw [hS1]; intro k hk; rcases hk with h | h; exact h.1; exact hfr k (by omega)
 have HE : qAd (∀ w' v st', ShO w' g m st' tr S1 okT → Fr WB w' S1 → ShO (w'.setCell ⟨W.heap.size + 1 + 1 + 1 + 1, 0, none⟩ v) g m st' tr S okT ∧ Fr W (w'.setCell ⟨W.heap.size + 1 + 1 + 1 + 1, 0, none⟩ v) S) :=
  ⟨fun w' v st' h k => ⟨(ShO.far h (hn1 (W.heap.size + 1 + 1 + 1 + 1) (by omega) (by omega)) (fun e => by have := hkt (W.heap.size + 1 + 1 + 1 + 1) e; omega) v).mono hs1 (fun _ h => h), (Fr.set ((Fr.of_below hB).then_ k (fun q hq => .inl (hs1 q hq))) (.inr (show W.heap.size ≤ W.heap.size + 1 + 1 + 1 + 1 by omega)) v)⟩⟩
 have HE0 : qAd (∀ st', ShO WB g m st' tr S1 okT → ShO WB g m st' tr S okT ∧ Fr W WB S) := ⟨fun st' h => ⟨h.mono hs1 (fun _ h => h), Fr.of_below hB⟩⟩
 have HL := am hl
 have HN1 := am hn1
 have HF1 := am hf1
 have HSZ := am hsz
 have HP := am hP
 clear H hl hS1 hn1 hf1 hs1 hB hsz
 have HT := operate_o 6 n ty bb hH HL.out HF1.out
 obtain ⟨rr, hrr⟩ : ∃ rr, rr = qDQ 6 n st := ⟨_, rfl⟩
 rw [← hrr] at HT ⊢
 have HT := am HT
 clear hrr
 go_enter Tryz.func89, Tryz.ntmps89
 go_wp2_with fail
 simp only [plW] at hWB
 rw [← hWB]
 clear hWB
 have xi0 := (qAa HP.out.i 0).trans rfl
 have xi1 := (qAa HP.out.i 1).trans rfl
 have xi2 := (qAa HP.out.i 2).trans rfl
 have xs := (qAa HP.out.s 0).trans rfl
 go_wp2_with (go_at_call 115; refine HT.out.mono ?_; rintro e w1 ⟨rfl, hS1, hb1⟩; have HS1 := am hS1; have HB1 := am hb1; have xr := (qAa (HP.out.fr hb1 HN1.out).r 0).trans rfl; have xrf := qAb (HP.out.fr hb1 HN1.out).r 0; clear hS1 hb1)
 refine bodyPost_ret (qAJ rfl _ _ ⟨W.heap.size + 1 + 1 + 1 + 1, 0, none⟩ rr.1 rfl (World.cell?_setCell_same _ _ _ (u := .bool false) xr)) rfl ?_
 exact ⟨rfl, HE.out _ _ _ HS1.out HB1.out⟩
theorem plain_7 {g : Nat} {m : Bool} {st : List Int} {tr : List S160} {S okT : Nat → Prop} {W : World} (n ty bb : Int) (A1 A2 A3 A4 A5 : Option Addr) (n1 c1 n2 c2 n3 c3 n4 c4 n5 c5 : Nat) (res : Int) (H : ShO W g m st tr S okT) (hl : st.length ≤ 2000000) (hfr : ∀ k, W.heap.size ≤ k → S k) (hkt : ∀ k, okT k → k < W.heap.size) :
  Calls Tryz.prog 89 #[.agg #[.slice A1 n1 c1, .int .i64 res, .slice A2 n2 c2, .slice A3 n3 c3], .agg #[.slice A4 n4 c4, .slice A5 n5 c5], .agg #[.int .i64 7, .int .i64 n, .int .i64 ty, .int .u64 bb], .pointer (some ⟨g, 0, none⟩)] W fun e w' => e = .returned (.bool ((qDQ 7 n st).1)) ∧ ShO w' g m ((qDQ 7 n st).2) tr S okT ∧ Fr W w' S := by
 have hgl : g < W.heap.size := H.lt
 obtain ⟨WB, hWB⟩ : ∃ WB, WB = plW W g #[.slice A1 n1 c1, .int .i64 res, .slice A2 n2 c2, .slice A3 n3 c3] #[.slice A4 n4 c4, .slice A5 n5 c5] #[.int .i64 7, .int .i64 n, .int .i64 ty, .int .u64 bb] #[.slice none 0 0, .slice none 0 0, .slice A2 n2 c2, .slice A2 n2 c2, .slice A5 n5 c5, .slice A5 n5 c5] := ⟨_, rfl⟩
 have hP := qBK W g #[.slice A1 n1 c1, .int .i64 res, .slice A2 n2 c2, .slice A3 n3 c3] #[.slice A4 n4 c4, .slice A5 n5 c5] #[.int .i64 7, .int .i64 n, .int .i64 ty, .int .u64 bb] #[.slice none 0 0, .slice none 0 0, .slice A2 n2 c2, .slice A2 n2 c2, .slice A5 n5 c5, .slice A5 n5 c5]
 have hB := qBs W g #[.slice A1 n1 c1, .int .i64 res, .slice A2 n2 c2, .slice A3 n3 c3] #[.slice A4 n4 c4, .slice A5 n5 c5] #[.int .i64 7, .int .i64 n, .int .i64 ty, .int .u64 bb] #[.slice none 0 0, .slice none 0 0, .slice A2 n2 c2, .slice A2 n2 c2, .slice A5 n5 c5, .slice A5 n5 c5]
 have hsz := qB1 W g #[.slice A1 n1 c1, .int .i64 res, .slice A2 n2 c2, .slice A3 n3 c3] #[.slice A4 n4 c4, .slice A5 n5 c5] #[.int .i64 7, .int .i64 n, .int .i64 ty, .int .u64 bb] #[.slice none 0 0, .slice none 0 0, .slice A2 n2 c2, .slice A2 n2 c2, .slice A5 n5 c5, .slice A5 n5 c5]
 rw [← hWB] at hP hB hsz
 have hH := H.below hB
 obtain ⟨S1, hS1⟩ : ∃ S1, S1 = (fun q => (S q ∧ q < W.heap.size) ∨ WB.heap.size ≤ q) := ⟨_, rfl⟩
 rw [← hS1] at hH
 have hn1 : ∀ q, W.heap.size ≤ q → q < W.heap.size + 6 → ¬ S1 q := by rw [hS1]; intro q h1 h2 h3; rcases h3 with ⟨_, h⟩ | h <;> omega
 have hf1 : ∀ k, WB.heap.size ≤ k → S1 k := by rw [hS1]; intro k hk; exact .inr hk
 have hs1 : ∀ k, S1 k → S k := by rw [hS1]; intro k hk; rcases hk with h | h; exact h.1; exact hfr k (by omega)
 have HE : qAd (∀ w' v st', ShO w' g m st' tr S1 okT → Fr WB w' S1 → ShO (w'.setCell ⟨W.heap.size + 1 + 1 + 1 + 1, 0, none⟩ v) g m st' tr S okT ∧ Fr W (w'.setCell ⟨W.heap.size + 1 + 1 + 1 + 1, 0, none⟩ v) S) :=
  ⟨fun w' v st' h k => ⟨(ShO.far h (hn1 (W.heap.size + 1 + 1 + 1 + 1) (by omega) (by omega)) (fun e => by have := hkt (W.heap.size + 1 + 1 + 1 + 1) e; omega) v).mono hs1 (fun _ h => h), (Fr.set ((Fr.of_below hB).then_ k (fun q hq => .inl (hs1 q hq))) (.inr (show W.heap.size ≤ W.heap.size + 1 + 1 + 1 + 1 by omega)) v)⟩⟩
 have HE0 : qAd (∀ st', ShO WB g m st' tr S1 okT → ShO WB g m st' tr S okT ∧ Fr W WB S) := ⟨fun st' h => ⟨h.mono hs1 (fun _ h => h), Fr.of_below hB⟩⟩
 have HL := am hl
 have HN1 := am hn1
 have HF1 := am hf1
 have HSZ := am hsz
 have HP := am hP
 clear H hl hS1 hn1 hf1 hs1 hB hsz
 have HT := operate_o 7 n ty bb hH HL.out HF1.out
 obtain ⟨rr, hrr⟩ : ∃ rr, rr = qDQ 7 n st := ⟨_, rfl⟩
 rw [← hrr] at HT ⊢
 have HT := am HT
 clear hrr
 go_enter Tryz.func89, Tryz.ntmps89
 go_wp2_with fail
 simp only [plW] at hWB
 rw [← hWB]
 clear hWB
 have xi0 := (qAa HP.out.i 0).trans rfl
 have xi1 := (qAa HP.out.i 1).trans rfl
 have xi2 := (qAa HP.out.i 2).trans rfl
 have xs := (qAa HP.out.s 0).trans rfl
 go_wp2_with (go_at_call 115; refine HT.out.mono ?_; rintro e w1 ⟨rfl, hS1, hb1⟩; have HS1 := am hS1; have HB1 := am hb1; have xr := (qAa (HP.out.fr hb1 HN1.out).r 0).trans rfl; have xrf := qAb (HP.out.fr hb1 HN1.out).r 0; clear hS1 hb1)
 refine bodyPost_ret (qAJ rfl _ _ ⟨W.heap.size + 1 + 1 + 1 + 1, 0, none⟩ rr.1 rfl (World.cell?_setCell_same _ _ _ (u := .bool false) xr)) rfl ?_
 exact ⟨rfl, HE.out _ _ _ HS1.out HB1.out⟩
theorem plain_10_bad {g : Nat} {m : Bool} {st : List Int} {tr : List S160} {S okT : Nat → Prop} {W : World} (n ty bb : Int) (A1 A2 A3 A4 A5 : Option Addr) (n1 c1 n2 c2 n3 c3 n4 c4 n5 c5 : Nat) (res : Int) (hn : n4 ≤ n) (H : ShO W g m st tr S okT) (hl : st.length ≤ 2000000) (hfr : ∀ k, W.heap.size ≤ k → S k) (hkt : ∀ k, okT k → k < W.heap.size) :
  Calls Tryz.prog 89 #[.agg #[.slice A1 n1 c1, .int .i64 res, .slice A2 n2 c2, .slice A3 n3 c3], .agg #[.slice A4 n4 c4, .slice A5 n5 c5], .agg #[.int .i64 10, .int .i64 n, .int .i64 ty, .int .u64 bb], .pointer (some ⟨g, 0, none⟩)] W fun e w' => e = .returned (.bool (false)) ∧ ShO w' g m (st) tr S okT ∧ Fr W w' S := by
 have hgl : g < W.heap.size := H.lt
 obtain ⟨WB, hWB⟩ : ∃ WB, WB = plW W g #[.slice A1 n1 c1, .int .i64 res, .slice A2 n2 c2, .slice A3 n3 c3] #[.slice A4 n4 c4, .slice A5 n5 c5] #[.int .i64 10, .int .i64 n, .int .i64 ty, .int .u64 bb] #[.slice none 0 0, .slice none 0 0, .slice A2 n2 c2, .slice A2 n2 c2, .slice A5 n5 c5, .slice A5 n5 c5] := ⟨_, rfl⟩
 have hP := qBK W g #[.slice A1 n1 c1, .int .i64 res, .slice A2 n2 c2, .slice A3 n3 c3] #[.slice A4 n4 c4, .slice A5 n5 c5] #[.int .i64 10, .int .i64 n, .int .i64 ty, .int .u64 bb] #[.slice none 0 0, .slice none 0 0, .slice A2 n2 c2, .slice A2 n2 c2, .slice A5 n5 c5, .slice A5 n5 c5]
 have hB := qBs W g #[.slice A1 n1 c1, .int .i64 res, .slice A2 n2 c2, .slice A3 n3 c3] #[.slice A4 n4 c4, .slice A5 n5 c5] #[.int .i64 10, .int .i64 n, .int .i64 ty, .int .u64 bb] #[.slice none 0 0, .slice none 0 0, .slice A2 n2 c2, .slice A2 n2 c2, .slice A5 n5 c5, .slice A5 n5 c5]
 have hsz := qB1 W g #[.slice A1 n1 c1, .int .i64 res, .slice A2 n2 c2, .slice A3 n3 c3] #[.slice A4 n4 c4, .slice A5 n5 c5] #[.int .i64 10, .int .i64 n, .int .i64 ty, .int .u64 bb] #[.slice none 0 0, .slice none 0 0, .slice A2 n2 c2, .slice A2 n2 c2, .slice A5 n5 c5, .slice A5 n5 c5]
 rw [← hWB] at hP hB hsz
 have hH := H.below hB
 obtain ⟨S1, hS1⟩ : ∃ S1, S1 = (fun q => (S q ∧ q < W.heap.size) ∨ WB.heap.size ≤ q) := ⟨_, rfl⟩
 rw [← hS1] at hH
 have hn1 : ∀ q, W.heap.size ≤ q → q < W.heap.size + 6 → ¬ S1 q := by rw [hS1]; intro q h1 h2 h3; rcases h3 with ⟨_, h⟩ | h <;> omega
 have hf1 : ∀ k, WB.heap.size ≤ k → S1 k := by rw [hS1]; intro k hk; exact .inr hk
 have hs1 : ∀ k, S1 k → S k := by rw [hS1]; intro k hk; rcases hk with h | h; exact h.1; exact hfr k (by omega)
 have HE : qAd (∀ w' v st', ShO w' g m st' tr S1 okT → Fr WB w' S1 → ShO (w'.setCell ⟨W.heap.size + 1 + 1 + 1 + 1, 0, none⟩ v) g m st' tr S okT ∧ Fr W (w'.setCell ⟨W.heap.size + 1 + 1 + 1 + 1, 0, none⟩ v) S) :=
  ⟨fun w' v st' h k => ⟨(ShO.far h (hn1 (W.heap.size + 1 + 1 + 1 + 1) (by omega) (by omega)) (fun e => by have := hkt (W.heap.size + 1 + 1 + 1 + 1) e; omega) v).mono hs1 (fun _ h => h), (Fr.set ((Fr.of_below hB).then_ k (fun q hq => .inl (hs1 q hq))) (.inr (show W.heap.size ≤ W.heap.size + 1 + 1 + 1 + 1 by omega)) v)⟩⟩
 have HE0 : qAd (∀ st', ShO WB g m st' tr S1 okT → ShO WB g m st' tr S okT ∧ Fr W WB S) := ⟨fun st' h => ⟨h.mono hs1 (fun _ h => h), Fr.of_below hB⟩⟩
 have HL := am hl
 have HN1 := am hn1
 have HF1 := am hf1
 have HSZ := am hsz
 have HP := am hP
 clear H hl hS1 hn1 hf1 hs1 hB hsz
 have HH := am hH
 have xp0 := (qAa HP.out.p 0).trans rfl
 have xi1 := (qAa HP.out.i 1).trans rfl
 have xr := (qAa HP.out.r 0).trans rfl
 have xrf := qAb HP.out.r 0
 have hd : decide (n ≥ (n4 : Int)) = true := decide_eq_true (by omega)
 simp only [plW] at hWB
 rw [hWB] at xp0 xi1 xr xrf
 go_enter Tryz.func89, Tryz.ntmps89
 go_wp2_with fail
 rw [← hWB] at xr ⊢
 refine bodyPost_ret (qAJ rfl _ _ ⟨W.heap.size + 1 + 1 + 1 + 1, 0, none⟩ false rfl xr) rfl ?_
 exact ⟨rfl, HE0.out _ HH.out⟩
theorem plain_12 {g : Nat} {m : Bool} {st : List Int} {tr : List S160} {S okT : Nat → Prop} {W : World} (n ty bb : Int) (A1 A2 A3 A4 A5 : Option Addr) (n1 c1 n2 c2 n3 c3 n4 c4 n5 c5 : Nat) (res : Int) (H : ShO W g m st tr S okT) (hl : st.length ≤ 2000000) (hfr : ∀ k, W.heap.size ≤ k → S k) (hkt : ∀ k, okT k → k < W.heap.size) :
  Calls Tryz.prog 89 #[.agg #[.slice A1 n1 c1, .int .i64 res, .slice A2 n2 c2, .slice A3 n3 c3], .agg #[.slice A4 n4 c4, .slice A5 n5 c5], .agg #[.int .i64 12, .int .i64 n, .int .i64 ty, .int .u64 bb], .pointer (some ⟨g, 0, none⟩)] W fun e w' => e = .returned (.bool (st.getLast?.isSome)) ∧ ShO w' g m (st.dropLast) tr S okT ∧ Fr W w' S := by
 have hgl : g < W.heap.size := H.lt
 obtain ⟨WB, hWB⟩ : ∃ WB, WB = plW W g #[.slice A1 n1 c1, .int .i64 res, .slice A2 n2 c2, .slice A3 n3 c3] #[.slice A4 n4 c4, .slice A5 n5 c5] #[.int .i64 12, .int .i64 n, .int .i64 ty, .int .u64 bb] #[.slice none 0 0, .slice none 0 0, .slice A2 n2 c2, .slice A2 n2 c2, .slice A5 n5 c5, .slice A5 n5 c5] := ⟨_, rfl⟩
 have hP := qBK W g #[.slice A1 n1 c1, .int .i64 res, .slice A2 n2 c2, .slice A3 n3 c3] #[.slice A4 n4 c4, .slice A5 n5 c5] #[.int .i64 12, .int .i64 n, .int .i64 ty, .int .u64 bb] #[.slice none 0 0, .slice none 0 0, .slice A2 n2 c2, .slice A2 n2 c2, .slice A5 n5 c5, .slice A5 n5 c5]
 have hB := qBs W g #[.slice A1 n1 c1, .int .i64 res, .slice A2 n2 c2, .slice A3 n3 c3] #[.slice A4 n4 c4, .slice A5 n5 c5] #[.int .i64 12, .int .i64 n, .int .i64 ty, .int .u64 bb] #[.slice none 0 0, .slice none 0 0, .slice A2 n2 c2, .slice A2 n2 c2, .slice A5 n5 c5, .slice A5 n5 c5]
 have hsz := qB1 W g #[.slice A1 n1 c1, .int .i64 res, .slice A2 n2 c2, .slice A3 n3 c3] #[.slice A4 n4 c4, .slice A5 n5 c5] #[.int .i64 12, .int .i64 n, .int .i64 ty, .int .u64 bb] #[.slice none 0 0, .slice none 0 0, .slice A2 n2 c2, .slice A2 n2 c2, .slice A5 n5 c5, .slice A5 n5 c5]
 rw [← hWB] at hP hB hsz
 have hH := H.below hB
 obtain ⟨S1, hS1⟩ : ∃ S1, S1 = (fun q => (S q ∧ q < W.heap.size) ∨ WB.heap.size ≤ q) := ⟨_, rfl⟩
 rw [← hS1] at hH
 have hn1 : ∀ q, W.heap.size ≤ q → q < W.heap.size + 6 → ¬ S1 q := by rw [hS1]; intro q h1 h2 h3; rcases h3 with ⟨_, h⟩ | h <;> omega
 have hf1 : ∀ k, WB.heap.size ≤ k → S1 k := by rw [hS1]; intro k hk; exact .inr hk
 have hs1 : ∀ k, S1 k → S k := by rw [hS1]; intro k hk; rcases hk with h | h; exact h.1; exact hfr k (by omega)
 have HE : qAd (∀ w' v st', ShO w' g m st' tr S1 okT → Fr WB w' S1 → ShO (w'.setCell ⟨W.heap.size + 1 + 1 + 1 + 1, 0, none⟩ v) g m st' tr S okT ∧ Fr W (w'.setCell ⟨W.heap.size + 1 + 1 + 1 + 1, 0, none⟩ v) S) :=
  ⟨fun w' v st' h k => ⟨(ShO.far h (hn1 (W.heap.size + 1 + 1 + 1 + 1) (by omega) (by omega)) (fun e => by have := hkt (W.heap.size + 1 + 1 + 1 + 1) e; omega) v).mono hs1 (fun _ h => h), (Fr.set ((Fr.of_below hB).then_ k (fun q hq => .inl (hs1 q hq))) (.inr (show W.heap.size ≤ W.heap.size + 1 + 1 + 1 + 1 by omega)) v)⟩⟩
 have HE0 : qAd (∀ st', ShO WB g m st' tr S1 okT → ShO WB g m st' tr S okT ∧ Fr W WB S) := ⟨fun st' h => ⟨h.mono hs1 (fun _ h => h), Fr.of_below hB⟩⟩
 have HL := am hl
 have HN1 := am hn1
 have HF1 := am hf1
 have HSZ := am hsz
 have HP := am hP
 clear H hl hS1 hn1 hf1 hs1 hB hsz
 have HT := take_o hH HL.out
 unfold topV at HT
 obtain ⟨x, hx⟩ : ∃ x, x = st.getLast?.getD 0 := ⟨_, rfl⟩
 obtain ⟨b, hb⟩ : ∃ b, b = st.getLast?.isSome := ⟨_, rfl⟩
 rw [← hx, ← hb] at HT
 rw [← hb]
 have HT := am HT
 clear hx hb
 go_enter Tryz.func89, Tryz.ntmps89
 go_wp2_with fail
 simp only [plW] at hWB
 rw [← hWB]
 clear hWB
 have xi0 := (qAa HP.out.i 0).trans rfl
 have xi1 := (qAa HP.out.i 1).trans rfl
 have xi2 := (qAa HP.out.i 2).trans rfl
 have xs := (qAa HP.out.s 0).trans rfl
 go_wp2_with (go_at_call 114; refine HT.out.mono ?_; rintro e w1 ⟨rfl, hS1, hb1⟩; have HS1 := am hS1; have HB1 := am hb1; have xr := (qAa (HP.out.fr hb1 HN1.out).r 0).trans rfl; have xrf := qAb (HP.out.fr hb1 HN1.out).r 0; clear hS1 hb1)
 refine bodyPost_ret (qAJ rfl _ _ ⟨W.heap.size + 1 + 1 + 1 + 1, 0, none⟩ b rfl (World.cell?_setCell_same _ _ _ (u := .bool false) xr)) rfl ?_
 exact ⟨rfl, HE.out _ _ _ HS1.out HB1.out⟩
theorem plain_14 {g : Nat} {m : Bool} {st : List Int} {tr : List S160} {S okT : Nat → Prop} {W : World} (n ty bb : Int) (A1 A2 A3 A4 A5 : Option Addr) (n1 c1 n2 c2 n3 c3 n4 c4 n5 c5 : Nat) (res : Int) (H : ShO W g m st tr S okT) (hl : st.length ≤ 2000000) (hfr : ∀ k, W.heap.size ≤ k → S k) (hkt : ∀ k, okT k → k < W.heap.size) :
  Calls Tryz.prog 89 #[.agg #[.slice A1 n1 c1, .int .i64 res, .slice A2 n2 c2, .slice A3 n3 c3], .agg #[.slice A4 n4 c4, .slice A5 n5 c5], .agg #[.int .i64 14, .int .i64 n, .int .i64 ty, .int .u64 bb], .pointer (some ⟨g, 0, none⟩)] W fun e w' => e = .returned (.bool (true)) ∧ ShO w' g m (st ++ [1]) tr S okT ∧ Fr W w' S := by
 have hgl : g < W.heap.size := H.lt
 obtain ⟨WB, hWB⟩ : ∃ WB, WB = plW W g #[.slice A1 n1 c1, .int .i64 res, .slice A2 n2 c2, .slice A3 n3 c3] #[.slice A4 n4 c4, .slice A5 n5 c5] #[.int .i64 14, .int .i64 n, .int .i64 ty, .int .u64 bb] #[.slice none 0 0, .slice none 0 0, .slice A2 n2 c2, .slice A2 n2 c2, .slice A5 n5 c5, .slice A5 n5 c5] := ⟨_, rfl⟩
 have hP := qBK W g #[.slice A1 n1 c1, .int .i64 res, .slice A2 n2 c2, .slice A3 n3 c3] #[.slice A4 n4 c4, .slice A5 n5 c5] #[.int .i64 14, .int .i64 n, .int .i64 ty, .int .u64 bb] #[.slice none 0 0, .slice none 0 0, .slice A2 n2 c2, .slice A2 n2 c2, .slice A5 n5 c5, .slice A5 n5 c5]
 have hB := qBs W g #[.slice A1 n1 c1, .int .i64 res, .slice A2 n2 c2, .slice A3 n3 c3] #[.slice A4 n4 c4, .slice A5 n5 c5] #[.int .i64 14, .int .i64 n, .int .i64 ty, .int .u64 bb] #[.slice none 0 0, .slice none 0 0, .slice A2 n2 c2, .slice A2 n2 c2, .slice A5 n5 c5, .slice A5 n5 c5]
 have hsz := qB1 W g #[.slice A1 n1 c1, .int .i64 res, .slice A2 n2 c2, .slice A3 n3 c3] #[.slice A4 n4 c4, .slice A5 n5 c5] #[.int .i64 14, .int .i64 n, .int .i64 ty, .int .u64 bb] #[.slice none 0 0, .slice none 0 0, .slice A2 n2 c2, .slice A2 n2 c2, .slice A5 n5 c5, .slice A5 n5 c5]
 rw [← hWB] at hP hB hsz
 have hH := H.below hB
 obtain ⟨S1, hS1⟩ : ∃ S1, S1 = (fun q => (S q ∧ q < W.heap.size) ∨ WB.heap.size ≤ q) := ⟨_, rfl⟩
 rw [← hS1] at hH
 have hn1 : ∀ q, W.heap.size ≤ q → q < W.heap.size + 6 → ¬ S1 q := by rw [hS1]; intro q h1 h2 h3; rcases h3 with ⟨_, h⟩ | h <;> omega
 have hf1 : ∀ k, WB.heap.size ≤ k → S1 k := by rw [hS1]; intro k hk; exact .inr hk
 have hs1 : ∀ k, S1 k → S k := by rw [hS1]; intro k hk; rcases hk with h | h; exact h.1; exact hfr k (by omega)
 have HE : qAd (∀ w' v st', ShO w' g m st' tr S1 okT → Fr WB w' S1 → ShO (w'.setCell ⟨W.heap.size + 1 + 1 + 1 + 1, 0, none⟩ v) g m st' tr S okT ∧ Fr W (w'.setCell ⟨W.heap.size + 1 + 1 + 1 + 1, 0, none⟩ v) S) :=
  ⟨fun w' v st' h k => ⟨(ShO.far h (hn1 (W.heap.size + 1 + 1 + 1 + 1) (by omega) (by omega)) (fun e => by have := hkt (W.heap.size + 1 + 1 + 1 + 1) e; omega) v).mono hs1 (fun _ h => h), (Fr.set ((Fr.of_below hB).then_ k (fun q hq => .inl (hs1 q hq))) (.inr (show W.heap.size ≤ W.heap.size + 1 + 1 + 1 + 1 by omega)) v)⟩⟩
 have HE0 : qAd (∀ st', ShO WB g m st' tr S1 okT → ShO WB g m st' tr S okT ∧ Fr W WB S) := ⟨fun st' h => ⟨h.mono hs1 (fun _ h => h), Fr.of_below hB⟩⟩
 have HL := am hl
 have HN1 := am hn1
 have HF1 := am hf1
 have HSZ := am hsz
 have HP := am hP
 clear H hl hS1 hn1 hf1 hs1 hB hsz
 go_enter Tryz.func89, Tryz.ntmps89
 go_wp2_with fail
 simp only [plW] at hWB
 rw [← hWB]
 clear hWB
 obtain ⟨u1, u2, hV⟩ := hH
 have HV := am hV
 have eg1 := (qAa hV.1 1).trans rfl
 clear hV
 have xi0 := (qAa HP.out.i 0).trans rfl
 have xi1 := (qAa HP.out.i 1).trans rfl
 have xi2 := (qAa HP.out.i 2).trans rfl
 have xs := (qAa HP.out.s 0).trans rfl
 have yg1 := qA1 (.cells #[.int .i64 (1)] 3) eg1
 refine wp_region_noPanic ?_
 refine wp_region_held_drew (S := fun W' => W'.cell? ⟨W.heap.size + 1 + 1 + 1, 0, none⟩ = some (.pointer (some ⟨g, 0, none⟩))) (by kernel_rfl) (xs) (fun hHeld => ?_)
 refine hT 0 ?_
 refine hT 1 ?_
 refine hT 2 ?_
 refine hT 3 ?_
 refine wpAnyH_ready (rs := [4, 5]) (by kernel_rfl) (by simp) ?_
 refine AllReadyH.cons (o := _) rfl (fun K hK => ?_) ?_
 ·go_simp
  refine hK.out _ _ (xs) (fun hHeld => ?_)
  clear hK K
  try simp only [Act.put, List.getElem_toArray, List.getElem_cons_zero, List.getElem_cons_succ, List.setIfInBounds_toArray, List.set_cons_zero, List.set_cons_succ]
  refine wpAnyH_ready (rs := [5]) (by kernel_rfl) (by simp) ?_
  refine AllReadyH.cons (o := _) rfl (fun K hK => ?_) ?_
  ·go_simp
   refine hK.out _ _ (qA1 (.cells #[.int .i64 (1)] 3) xs) (fun hHeld => ?_)
   clear hK K
   try simp only [Act.put, List.getElem_toArray, List.getElem_cons_zero, List.getElem_cons_succ, List.setIfInBounds_toArray, List.set_cons_zero, List.set_cons_succ]
   refine wpAnyH_ready (rs := [6]) (by kernel_rfl) (by simp) ?_
   refine AllReadyH.cons (o := _) rfl (fun K hK => ?_) ?_
   ·refine qBd HV.out.drew (1) rfl _ _ rfl rfl rfl HF1.out HL.out ?_
    intro A6 c6 w3 h5 h5b h6 h7
    have hFF := Fr.trans (Fr.of_below (qA4 (Below.refl _ _))) h5b
    have H6 := am h6
    have H7 := am (Fr.trans (Fr.of_below (qA4 (Below.refl _ _))) h7)
    have hP3 := HP.out.fr hFF HN1.out
    have xs' := hFF.cell xs (HN1.out (W.heap.size + 1 + 1 + 1) (by omega) (by omega))
    have xr := (qAa hP3.r 0).trans rfl
    have xrf := qAb hP3.r 0
    have eg3 := (qAa h5 1).trans rfl
    have ef3 := qAb h5 1
    clear h5 h5b h6 h7 hFF
    refine hK.out _ _ (xs') (fun hHeld => ?_)
    clear hK K
    try simp only [Act.put, List.getElem_toArray, List.getElem_cons_zero, List.getElem_cons_succ, List.setIfInBounds_toArray, List.set_cons_zero, List.set_cons_succ]
    refine hT 7 ?_
    refine hT 8 ?_
    refine wpAnyH_ready (rs := [9]) (by kernel_rfl) (by simp) ?_
    refine AllReadyH.cons (o := _) rfl (fun K hK => ?_) ?_
    ·go_simp
     refine hK.out _ _ (qAR xs' _ _ (HN1.out (W.heap.size + 1 + 1 + 1) (by omega) (by omega)) HV.out.2.1) (fun hHeld => ?_)
     clear hK K
     try simp only [Act.put, List.getElem_toArray, List.getElem_cons_zero, List.getElem_cons_succ, List.setIfInBounds_toArray, List.set_cons_zero, List.set_cons_succ]
     refine wpAnyH_done (by kernel_rfl) ?_ _
     refine NoPanic.normal ?_
     go_wp2
     refine bodyPost_ret (qAJ rfl _ _ ⟨W.heap.size + 1 + 1 + 1 + 1, 0, none⟩ true rfl (qBO xr (by intro e; injection e with e; omega))) rfl ?_
     exact ⟨rfl, HE.out _ _ _ H6.out H7.out⟩
    exact AllReadyH.nil
   exact AllReadyH.nil
  exact AllReadyH.nil
 refine AllReadyH.cons (o := _) rfl (fun K hK => ?_) ?_
 ·go_simp
  refine hK.out _ _ (qA1 (.cells #[.int .i64 (1)] 3) xs) (fun hHeld => ?_)
  clear hK K
  try simp only [Act.put, List.getElem_toArray, List.getElem_cons_zero, List.getElem_cons_succ, List.setIfInBounds_toArray, List.set_cons_zero, List.set_cons_succ]
  refine wpAnyH_ready (rs := [4]) (by kernel_rfl) (by simp) ?_
  refine AllReadyH.cons (o := _) rfl (fun K hK => ?_) ?_
  ·go_simp
   refine hK.out _ _ (qA1 (.cells #[.int .i64 (1)] 3) xs) (fun hHeld => ?_)
   clear hK K
   try simp only [Act.put, List.getElem_toArray, List.getElem_cons_zero, List.getElem_cons_succ, List.setIfInBounds_toArray, List.set_cons_zero, List.set_cons_succ]
   refine wpAnyH_ready (rs := [6]) (by kernel_rfl) (by simp) ?_
   refine AllReadyH.cons (o := _) rfl (fun K hK => ?_) ?_
   ·refine qBd HV.out.drew (1) rfl _ _ rfl rfl rfl HF1.out HL.out ?_
    intro A6 c6 w3 h5 h5b h6 h7
    have hFF := Fr.trans (Fr.of_below (qA4 (Below.refl _ _))) h5b
    have H6 := am h6
    have H7 := am (Fr.trans (Fr.of_below (qA4 (Below.refl _ _))) h7)
    have hP3 := HP.out.fr hFF HN1.out
    have xs' := hFF.cell xs (HN1.out (W.heap.size + 1 + 1 + 1) (by omega) (by omega))
    have xr := (qAa hP3.r 0).trans rfl
    have xrf := qAb hP3.r 0
    have eg3 := (qAa h5 1).trans rfl
    have ef3 := qAb h5 1
    clear h5 h5b h6 h7 hFF
    refine hK.out _ _ (xs') (fun hHeld => ?_)
    clear hK K
    try simp only [Act.put, List.getElem_toArray, List.getElem_cons_zero, List.getElem_cons_succ, List.setIfInBounds_toArray, List.set_cons_zero, List.set_cons_succ]
    refine hT 7 ?_
    refine hT 8 ?_
    refine wpAnyH_ready (rs := [9]) (by kernel_rfl) (by simp) ?_
    refine AllReadyH.cons (o := _) rfl (fun K hK => ?_) ?_
    ·go_simp
     refine hK.out _ _ (qAR xs' _ _ (HN1.out (W.heap.size + 1 + 1 + 1) (by omega) (by omega)) HV.out.2.1) (fun hHeld => ?_)
     clear hK K
     try simp only [Act.put, List.getElem_toArray, List.getElem_cons_zero, List.getElem_cons_succ, List.setIfInBounds_toArray, List.set_cons_zero, List.set_cons_succ]
     refine wpAnyH_done (by kernel_rfl) ?_ _
     refine NoPanic.normal ?_
     go_wp2
     refine bodyPost_ret (qAJ rfl _ _ ⟨W.heap.size + 1 + 1 + 1 + 1, 0, none⟩ true rfl (qBO xr (by intro e; injection e with e; omega))) rfl ?_
     exact ⟨rfl, HE.out _ _ _ H6.out H7.out⟩
    exact AllReadyH.nil
   exact AllReadyH.nil
  exact AllReadyH.nil
 exact AllReadyH.nil
theorem plain_17 {g : Nat} {m : Bool} {st : List Int} {tr : List S160} {S okT : Nat → Prop} {W : World} (n ty bb : Int) (A1 A2 A3 A4 A5 : Option Addr) (n1 c1 n2 c2 n3 c3 n4 c4 n5 c5 : Nat) (res : Int) (H : ShO W g m st tr S okT) (hl : st.length ≤ 2000000) (hfr : ∀ k, W.heap.size ≤ k → S k) (hkt : ∀ k, okT k → k < W.heap.size) :
  Calls Tryz.prog 89 #[.agg #[.slice A1 n1 c1, .int .i64 res, .slice A2 n2 c2, .slice A3 n3 c3], .agg #[.slice A4 n4 c4, .slice A5 n5 c5], .agg #[.int .i64 17, .int .i64 n, .int .i64 ty, .int .u64 bb], .pointer (some ⟨g, 0, none⟩)] W fun e w' => e = .returned (.bool (st.getLast?.isSome)) ∧ ShO w' g m (st.dropLast) tr S okT ∧ Fr W w' S := by
 have hgl : g < W.heap.size := H.lt
 obtain ⟨WB, hWB⟩ : ∃ WB, WB = plW W g #[.slice A1 n1 c1, .int .i64 res, .slice A2 n2 c2, .slice A3 n3 c3] #[.slice A4 n4 c4, .slice A5 n5 c5] #[.int .i64 17, .int .i64 n, .int .i64 ty, .int .u64 bb] #[.slice none 0 0, .slice none 0 0, .slice A2 n2 c2, .slice A2 n2 c2, .slice A5 n5 c5, .slice A5 n5 c5] := ⟨_, rfl⟩
 have hP := qBK W g #[.slice A1 n1 c1, .int .i64 res, .slice A2 n2 c2, .slice A3 n3 c3] #[.slice A4 n4 c4, .slice A5 n5 c5] #[.int .i64 17, .int .i64 n, .int .i64 ty, .int .u64 bb] #[.slice none 0 0, .slice none 0 0, .slice A2 n2 c2, .slice A2 n2 c2, .slice A5 n5 c5, .slice A5 n5 c5]
 have hB := qBs W g #[.slice A1 n1 c1, .int .i64 res, .slice A2 n2 c2, .slice A3 n3 c3] #[.slice A4 n4 c4, .slice A5 n5 c5] #[.int .i64 17, .int .i64 n, .int .i64 ty, .int .u64 bb] #[.slice none 0 0, .slice none 0 0, .slice A2 n2 c2, .slice A2 n2 c2, .slice A5 n5 c5, .slice A5 n5 c5]
 have hsz := qB1 W g #[.slice A1 n1 c1, .int .i64 res, .slice A2 n2 c2, .slice A3 n3 c3] #[.slice A4 n4 c4, .slice A5 n5 c5] #[.int .i64 17, .int .i64 n, .int .i64 ty, .int .u64 bb] #[.slice none 0 0, .slice none 0 0, .slice A2 n2 c2, .slice A2 n2 c2, .slice A5 n5 c5, .slice A5 n5 c5]
 rw [← hWB] at hP hB hsz
 have hH := H.below hB
 obtain ⟨S1, hS1⟩ : ∃ S1, S1 = (fun q => (S q ∧ q < W.heap.size) ∨ WB.heap.size ≤ q) := ⟨_, rfl⟩
 rw [← hS1] at hH
 have hn1 : ∀ q, W.heap.size ≤ q → q < W.heap.size + 6 → ¬ S1 q := by rw [hS1]; intro q h1 h2 h3; rcases h3 with ⟨_, h⟩ | h <;> omega
 have hf1 : ∀ k, WB.heap.size ≤ k → S1 k := by rw [hS1]; intro k hk; exact .inr hk
 have hs1 : ∀ k, S1 k → S k := by rw [hS1]; intro k hk; rcases hk with h | h; exact h.1; exact hfr k (by omega)
 have HE : qAd (∀ w' v st', ShO w' g m st' tr S1 okT → Fr WB w' S1 → ShO (w'.setCell ⟨W.heap.size + 1 + 1 + 1 + 1, 0, none⟩ v) g m st' tr S okT ∧ Fr W (w'.setCell ⟨W.heap.size + 1 + 1 + 1 + 1, 0, none⟩ v) S) :=
  ⟨fun w' v st' h k => ⟨(ShO.far h (hn1 (W.heap.size + 1 + 1 + 1 + 1) (by omega) (by omega)) (fun e => by have := hkt (W.heap.size + 1 + 1 + 1 + 1) e; omega) v).mono hs1 (fun _ h => h), (Fr.set ((Fr.of_below hB).then_ k (fun q hq => .inl (hs1 q hq))) (.inr (show W.heap.size ≤ W.heap.size + 1 + 1 + 1 + 1 by omega)) v)⟩⟩
 have HE0 : qAd (∀ st', ShO WB g m st' tr S1 okT → ShO WB g m st' tr S okT ∧ Fr W WB S) := ⟨fun st' h => ⟨h.mono hs1 (fun _ h => h), Fr.of_below hB⟩⟩
 have HL := am hl
 have HN1 := am hn1
 have HF1 := am hf1
 have HSZ := am hsz
 have HP := am hP
 clear H hl hS1 hn1 hf1 hs1 hB hsz
 have HT := take_o hH HL.out
 unfold topV at HT
 obtain ⟨x, hx⟩ : ∃ x, x = st.getLast?.getD 0 := ⟨_, rfl⟩
 obtain ⟨b, hb⟩ : ∃ b, b = st.getLast?.isSome := ⟨_, rfl⟩
 rw [← hx, ← hb] at HT
 rw [← hb]
 have HT := am HT
 clear hx hb
 go_enter Tryz.func89, Tryz.ntmps89
 go_wp2_with fail
 simp only [plW] at hWB
 rw [← hWB]
 clear hWB
 have xi0 := (qAa HP.out.i 0).trans rfl
 have xi1 := (qAa HP.out.i 1).trans rfl
 have xi2 := (qAa HP.out.i 2).trans rfl
 have xs := (qAa HP.out.s 0).trans rfl
 go_wp2_with (go_at_call 114; refine HT.out.mono ?_; rintro e w1 ⟨rfl, hS1, hb1⟩; have HS1 := am hS1; have HB1 := am hb1; have xr := (qAa (HP.out.fr hb1 HN1.out).r 0).trans rfl; have xrf := qAb (HP.out.fr hb1 HN1.out).r 0; clear hS1 hb1)
 refine bodyPost_ret (qAJ rfl _ _ ⟨W.heap.size + 1 + 1 + 1 + 1, 0, none⟩ b rfl (World.cell?_setCell_same _ _ _ (u := .bool false) xr)) rfl ?_
 exact ⟨rfl, HE.out _ _ _ HS1.out HB1.out⟩
end Q
end
section
namespace Q
open Go.RowKit Go.Shelf YA YC YB
attribute [local go_sem] Oper.semAt_some
def qB9 (m k : Nat) : List Nat := (List.range k).map (fun j => m - 1 - j)
theorem qCD (m k : Nat) : qB9 m (k + 1) = qB9 m k ++ [m - 1 - k] := by simp [qB9, List.range_succ]
theorem backs_length (m k : Nat) : (qB9 m k).length = k := by simp [qB9]
def intQ (v : Value) : Int := match v with | .int _ i => i | _ => 0
def KpC (C : Addr → Prop) (W W' : World) : Prop := ∀ a, C a → ∀ v, W.cell? a = some v → W'.cell? a = some v
theorem KpC.refl (C : Addr → Prop) (W : World) : KpC C W W := fun _ _ _ h => h
theorem KpC.t {C : Addr → Prop} {A B D : World} (h : KpC C A B) (k : KpC C B D) : KpC C A D := fun a ha v e => k a ha v (h a ha v e)
theorem KpC.b {C : Addr → Prop} {w : World} (W : World) (l : Nat) (o o' : Obj) (_ : w.heap.size ≤ l) (h : W.heap[l]? = some o) (hc : o.isCells = false) (_ : o.isWalk = false) : KpC C W (W.putObj l o') :=
 fun _ _ _ e => cell_kept e (grownBy_putObj' W l o') (fun r er => by cases er; exact ⟨_, h, hc⟩)
theorem backI1_in (F : Fence) (n : Nat) (hf : F.fn 129) (hro : F.round = none) (hn : 1 ≤ n) (l Bs : Nat) (A : Option Addr) (c : Nat) (ps : List Int) (m : Nat) (hm : m ≤ 2000000) (C : Addr → Prop) (hCb : C ⟨Bs, 0, none⟩) (hCr : ∀ ad, A = some ad → ∀ j, j < m → C (ad.add j)) (J Jx : List Nat → World → Prop)
  (hY : ∀ (pre : List Nat) (x : Nat) (W : World), J pre W → pre.length < m → YieldAt F (n - 1) Tryz.prog l #[.int .i64 (x : Int), .int .i64 (ps.getD x 0)] W fun e W' =>
    (e = .returned (.bool true) ∧ J (pre ++ [x]) W' ∧ KpC C W W') ∨ (e = .returned (.bool false) ∧ Jx (pre ++ [x]) W'))
  (W : World) (hBs : W.cell? ⟨Bs, 0, none⟩ = some (.slice A m c)) (hc : ∀ j, j < m → ∃ ad, A = some ad ∧ W.cell? (ad.add j) = some (.int .i64 (ps.getD j 0))) (h0 : J [] W) :
  CallsIn F n Tryz.prog 129 #[.func (.yield l) #[] #[], .pointer (some ⟨Bs, 0, none⟩)] W fun e W' => (∃ v, e = .returned v) ∧
   ((∃ ys, ys = qB9 m m ∧ J ys W') ∨ (∃ pre, (∃ k, k ≤ m ∧ pre = qB9 m k) ∧ Jx pre W')) := by
 refine callsIn_of_wp Tryz.func129 rfl hf ?_ hro
 simp only [Tryz.ntmps129, List.size_toArray, List.length_cons, List.length_nil, Nat.reduceAdd, Nat.reduceSub, Array.replicate_succ, Array.replicate_zero, List.push_toArray, List.append_toArray, List.nil_append, List.cons_append]
 gi_wp2
 gi_loopw [3] (fun i wr => ∃ (k : Nat) (pre : List Nat), pre = qB9 m k ∧ ((∃ q : Nat, q + 1 + k = m ∧ i = .int .i64 (q : Int)) ∨ (k = m ∧ i = .int .i64 (-1))) ∧ J pre wr ∧ KpC C W wr)
  (fun i _ => (intQ i + 1).toNat)
 case atStart =>
  refine ⟨0, [], rfl, ?_, h0, KpC.refl _ _⟩
  by_cases h : m = 0
  ·right; subst h; exact ⟨rfl, by simp⟩
  left; refine ⟨m - 1, by omega, ?_⟩
  go_num
 case round =>
  obtain ⟨k, pre, hp, hi, hJs, hkp⟩ := hrel
  have hbx := hkp _ hCb _ hBs
  rcases hi with ⟨q, hq, rfl⟩ | ⟨rfl, rfl⟩
  ·have hqm : q < m := by omega
   obtain ⟨ad, hA, hx0⟩ := hc q hqm
   have hy0 := hkp _ (hCr ad hA q hqm) _ hx0
   subst hA
   have hpl : pre.length = k := by rw [hp]; exact backs_length _ _
   obtain ⟨fn, tmps, assign, body, hy, hR⟩ := hY pre q wr hJs (by omega)
   try dsimp only at hy
   obtain ⟨z, hz⟩ : ∃ z, z = ps.getD q 0 := ⟨_, rfl⟩
   rw [← hz] at hy0 hy
   clear hz
   gi_wp2
   refine hR.mono ?_
   rintro e W3 (⟨rfl, hJ3, hk3⟩ | ⟨rfl, hJx3⟩)
   ·gi_wp2
    go_roundw
    case rel =>
     refine ⟨k + 1, pre ++ [q], ?_, ?_, hJ3, hkp.t hk3⟩
     ·rw [qCD, ← hp]; simp; omega
     by_cases h : q = 0
     ·right; subst h; exact ⟨by omega, by simp⟩
     left; exact ⟨q - 1, by omega, by go_num⟩
    case measure => simp [intQ]
   gi_wp2
   refine bodyPost_ret (results_none rfl _ _ _) rfl ?_
   exact ⟨⟨_, rfl⟩, .inr ⟨pre ++ [q], ⟨k + 1, by omega, by rw [qCD, ← hp]; simp; omega⟩, hJx3⟩⟩
  gi_wp2
  go_end0
  exact ⟨⟨_, rfl⟩, .inl ⟨_, hp, hJs⟩⟩
theorem backwardI_in (F : Fence) (n : Nat) (hf : F.fn 116) (hro : F.round = none) (a : Option Addr) (len cap : Nat) (w : World) :
  CallsIn F n Tryz.prog 116 #[.slice a len cap] w fun e w' => e = .returned (.func (.func 129) #[] #[.pointer (some ⟨w.heap.size, 0, none⟩)]) ∧ w' = w.alloc (.cells #[.slice a len cap] 22) := by
 refine callsIn_of_wp Tryz.func116 rfl hf ?_ hro
 simp only [Tryz.ntmps116, List.size_toArray, List.length_cons, List.length_nil, Nat.reduceAdd, Nat.reduceSub, Array.replicate_succ, Array.replicate_zero, List.push_toArray, List.append_toArray, List.nil_append, List.cons_append]
 gi_wp2
 go_ret
 exact ⟨rfl, rfl⟩
theorem backI_stops (F : Fence) (n : Nat) (hf : F.fn 129) (hro : F.round = none) (hn : 1 ≤ n) (Bs : Nat) (A : Option Addr) (c : Nat) (ps : List Int) (m : Nat) (hm : m ≤ 2000000) (C : Addr → Prop) (hCb : C ⟨Bs, 0, none⟩) (hCr : ∀ ad, A = some ad → ∀ j, j < m → C (ad.add j)) (w : World)
  (hBs : w.cell? ⟨Bs, 0, none⟩ = some (.slice A m c)) (hc : ∀ j, j < m → ∃ ad, A = some ad ∧ w.cell? (ad.add j) = some (.int .i64 (ps.getD j 0))) :
  SeqStopsK F n Tryz.prog 129 #[.pointer (some ⟨Bs, 0, none⟩)] (fun x : Nat => #[.int .i64 (x : Int), .int .i64 (ps.getD x 0)]) (KpC C) (fun ys => ys = qB9 m m) (fun pre => ∃ k, k ≤ m ∧ pre = qB9 m k) m w := fun l J Jx W hW _ _ hY h0 =>
 backI1_in F n hf hro hn l Bs A c ps m hm C hCb hCr J Jx hY W ((hW.cell (World.block_lt_of_cell? _ _ hBs)).trans hBs) (fun j hj => by obtain ⟨ad, hA, hx⟩ := hc j hj; exact ⟨ad, hA, (hW.cell (World.block_lt_of_cell? _ _ hx)).trans hx⟩) h0
def qAA : List Int → List Int → Bool × List Int
 | [], st => (true, st)
 | t :: ts, st => if qBt t st = true then qAA ts st.dropLast else (false, st.dropLast)
theorem qDC (t : Int) : ∀ (ts st : List Int), qAA (ts ++ [t]) st = if (qAA ts st).1 = true then (qBt t (qAA ts st).2, (qAA ts st).2.dropLast) else qAA ts st
 | [], st => by
  simp only [List.nil_append, qAA]
  cases qBt t st <;> simp
 | u :: ts, st => by
  by_cases h : qBt u st = true
  ·have e1 : qAA (u :: ts ++ [t]) st = qAA (ts ++ [t]) st.dropLast := by simp [qAA, h]
   have e2 : qAA (u :: ts) st = qAA ts st.dropLast := by simp [qAA, h]
   simp only [e1, e2]
   exact qDC t ts _
  have e1 : qAA (u :: ts ++ [t]) st = (false, st.dropLast) := by simp [qAA, h]
  have e2 : qAA (u :: ts) st = (false, st.dropLast) := by simp [qAA, h]
  rw [e1]
  simp only [e2]
  rw [if_neg (by simp)]
theorem qDD : ∀ (ts us st : List Int), (qAA ts st).1 = false → qAA (ts ++ us) st = qAA ts st
 | [], us, st, h => by simp [qAA] at h
 | t :: ts, us, st, h => by
  by_cases hb : qBt t st = true
  rotate_left
  ·have e1 : qAA (t :: ts ++ us) st = (false, st.dropLast) := by simp [qAA, hb]
   have e2 : qAA (t :: ts) st = (false, st.dropLast) := by simp [qAA, hb]
   rw [e1, e2]
  have e1 : qAA (t :: ts ++ us) st = qAA (ts ++ us) st.dropLast := by simp [qAA, hb]
  have e2 : qAA (t :: ts) st = qAA ts st.dropLast := by simp [qAA, hb]
  rw [e1, e2]
  exact qDD ts us _ (by rw [← e2]; exact h)
def qDs (ps : List Int) (r : Int) (st : List Int) : Bool × List Int :=
 if (qAA ps.reverse st).1 = true then (true, if r = 0 then (qAA ps.reverse st).2 else (qAA ps.reverse st).2 ++ [r]) else (false, (qAA ps.reverse st).2)
theorem qC2 : ∀ (ts st : List Int), (qAA ts st).2.length ≤ st.length
 | [], st => Nat.le_refl _
 | t :: ts, st => by
  simp only [qAA]
  split
  ·exact Nat.le_trans (qC2 ts _) (by simp)
  simp
theorem backs_map (ps : List Int) : ∀ k, k ≤ ps.length → (qB9 ps.length k).map (fun q => ps.getD q 0) = ps.reverse.take k := by
 intro k hk
 apply List.ext_getElem
 ·simp [qB9]; omega
 intro i h1 h2
 simp [qB9] at h1 ⊢
 rw [List.getElem?_eq_getElem (by omega)]
 simp
theorem backs_all (ps : List Int) : (qB9 ps.length ps.length).map (fun q => ps.getD q 0) = ps.reverse := by
 rw [backs_map ps ps.length (Nat.le_refl _), List.take_of_length_le (by simp)]
theorem backs_stop (ps st : List Int) (k : Nat) (hk : k ≤ ps.length) (h : (qAA ((qB9 ps.length k).map (fun q => ps.getD q 0)) st).1 = false) : qAA ps.reverse st = qAA ((qB9 ps.length k).map (fun q => ps.getD q 0)) st := by
 rw [backs_map ps k hk] at h ⊢
 have e : ps.reverse = ps.reverse.take k ++ ps.reverse.drop k := (List.take_append_drop k _).symm
 conv => lhs; rw [e]
 exact qDD _ _ _ h
theorem ShO.grown {W W' : World} {g N : Nat} {m : Bool} {st : List Int} {tr : List S160} {S okT : Nat → Prop} (h : ShO W g m st tr S okT) {row : Option Nat} (hg : W.grownBy W' row) (hr : ∀ r, row = some r → N ≤ r) (hS : ∀ q, S q → q < N) (hk : ∀ q, okT q → q < N) : ShO W' g m st tr S okT := by
 have hne : ∀ q, S q ∨ okT q → some q ≠ row := fun q hq e => by
  have h1 := hr q e.symm
  rcases hq with h | h
  ·have := hS q h; omega
  have := hk q h; omega
 obtain ⟨v1, v2, h0, h1, h2, h3, h4⟩ := h
 exact ⟨v1, v2, (hg.block g (qAZ h0) (hne g (.inl h1))).trans h0, h1, Kd.N_grown h2 hg (fun k hk => hne k (.inl hk.1)), h3, Kd.N_grown h4 hg (fun k hk => hne k hk.1)⟩
theorem ShO.grown2 {W W' : World} {g : Nat} {m : Bool} {st : List Int} {tr : List S160} {S okT : Nat → Prop} (h : ShO W g m st tr S okT) {r : Nat} (hg : W.grownBy W' (some r)) (hS : ¬ S r) (hk : ¬ okT r) : ShO W' g m st tr S okT := by
 have hne : ∀ q, S q ∨ okT q → some q ≠ some r := fun q hq e => by
  injection e with e
  subst e
  rcases hq with h | h
  ·exact hS h
  exact hk h
 obtain ⟨v1, v2, h0, h1, h2, h3, h4⟩ := h
 exact ⟨v1, v2, (hg.block g (qAZ h0) (hne g (.inl h1))).trans h0, h1, Kd.N_grown h2 hg (fun k hk => hne k (.inl hk.1)), h3, Kd.N_grown h4 hg (fun k hk => hne k hk.1)⟩
theorem Fr.grown {W W' W1 : World} {S : Nat → Prop} (h : Fr W1 W S) {row : Option Nat} (hg : W.grownBy W' row) (hr : ∀ r, row = some r → W1.heap.size ≤ r) : Fr W1 W' S :=
 ⟨h.1.grown hg (Nat.zero_le _) (fun _ _ => Nat.zero_le _), Nat.le_trans h.2.1 hg.size, fun i hi hn => (hg.block i (Nat.lt_of_lt_of_le hi h.2.1) (fun e => by have := hr i e.symm; omega)).trans (h.2.2 i hi hn)⟩
theorem Fr.keeps {V V1 : World} {S : Nat → Prop} {N : Nat} (h : Fr V V1 S) (hs : ∀ q, S q → q < N) : KeepsFrom N V V1 :=
 ⟨h.2.1, fun k o hk hko _ => (h.2.2 k (Array.getElem?_eq_some_iff.1 hko).1 (fun e => by have := hs k e; omega)).trans hko⟩
theorem Fr.kpC {V V1 : World} {S : Nat → Prop} {C : Addr → Prop} (h : Fr V V1 S) (hc : ∀ a, C a → ¬ S a.block) : KpC C V V1 := fun a ha v hv => h.cell hv (hc a ha)
theorem ShO.cut {W : World} {g : Nat} {m : Bool} {st : List Int} {tr : List S160} {S okT : Nat → Prop} (h : ShO W g m st tr S okT) : ShO W g m st tr (fun q => S q ∧ q < W.heap.size) (fun q => okT q ∧ q < W.heap.size) := by
 obtain ⟨v1, v2, h0, h1, h2, h3, h4⟩ := h
 have h5 := Kd.N_lt h4
 refine ⟨v1, v2, h0, ⟨h1, qAZ h0⟩, Kd.N_mono (Kd.N_bound h2) (fun q hq => ⟨⟨hq.1.1, hq.2⟩, hq.1.2⟩), fun k hk => ⟨h3 k hk, h5 k hk⟩, Kd.N_mono (Kd.N_bound h4) (fun q hq => ⟨?_, hq.1.2⟩)⟩
 rcases hq.1.1 with h | h
 ·exact .inl ⟨h, hq.2⟩
 exact .inr ⟨h, hq.2⟩
theorem sig_F {W : World} {okF : Nat → Prop} {A : Option Addr} {n : Nat} {fs : List S34} (hF : Kd.F k34 W okF A n fs) (i : Int) (h0 : 0 ≤ i) (h1 : i < n) :
  ∃ ad D d, A = some ad ∧ W.cell? (ad.add (i.toNat * 2)) = some (.slice D (qBu fs i).f0.length d) ∧ W.cell? ⟨(ad.add (i.toNat * 2)).block, (ad.add (i.toNat * 2)).off + 1, none⟩ = some (.int .i64 (qBu fs i).f1) ∧ (qBu fs i).f0.length ≤ d ∧ Kd.F (Kd.int .i64) W okF D (qBu fs i).f0.length (qBu fs i).f0 ∧ okF ad.block := by
 obtain ⟨ad, c, rfl, hcl, hK, hcc0, hok⟩ := Kd.F_get hF z34 i h0 h1
 have hcc : ∀ j u, c[j]? = some u → W.cell? (ad.add (i.toNat * 2 + j)) = some u := hcc0
 obtain ⟨D, d, hcs, hd, _⟩ := k34_open (Kd.FK_now hK)
 subst hcs
 refine ⟨ad, D, d, rfl, hcc 0 _ rfl, by rw [← qBj _ _ 1 (by omega)]; exact hcc 1 _ rfl, hd, fun W' hW => ?_, hok (by decide)⟩
 obtain ⟨D', d', hcs', _, hC'⟩ := k34_open (hK W' hW)
 injection hcs' with e1 _
 injection e1 with e1 _ _
 rw [e1]
 exact hC'
theorem F_cells {W : World} {okF : Nat → Prop} {D : Option Addr} {n : Nat} {ps : List Int} (h : Kd.F (Kd.int .i64) W okF D n ps) {ad : Addr} (hA : D = some ad) (hn : 0 < n) (j : Nat) : okF (ad.add j).block ∧ (ad.add j).block < W.heap.size := by
 have h1 := Kd.F_in h hA hn (by decide)
 obtain ⟨ad', he, hc⟩ := qCR (Kd.F_now h) 0 hn
 rw [hA] at he
 injection he with he
 subst he
 have h2 := World.block_lt_of_cell? _ _ hc
 have hba : ∀ (a : Addr) (i : Nat), (a.add i).block = a.block := fun a i => by unfold Addr.add; split <;> rfl
 rw [hba] at h2 ⊢
 exact ⟨h1, h2⟩
theorem plain_10in {g : Nat} {m : Bool} {st : List Int} {tr : List S160} {S okT okF : Nat → Prop} {W : World} (n ty bb : Int) (A1 A2 A3 A4 A5 : Option Addr) (n1 c1 n2 c2 n3 c3 n4 c4 n5 c5 : Nat) (res : Int) (fs : List S34) (hF : Kd.F k34 W okF A4 n4 fs) (hoff : ∀ q, okF q → ¬ S q) (hn0 : 0 ≤ n) (hn : n < n4) (hpl : (qBu fs n).f0.length ≤ 2000000)
  (H : ShO W g m st tr S okT) (hl : st.length ≤ 2000000) (hfr : ∀ k, W.heap.size ≤ k → S k) (hkt : ∀ k, okT k → k < W.heap.size) :
  CallsIn Fence.wide 9 Tryz.prog 89 #[.agg #[.slice A1 n1 c1, .int .i64 res, .slice A2 n2 c2, .slice A3 n3 c3], .agg #[.slice A4 n4 c4, .slice A5 n5 c5], .agg #[.int .i64 10, .int .i64 n, .int .i64 ty, .int .u64 bb], .pointer (some ⟨g, 0, none⟩)] W fun e w' => e = .returned (.bool (qDs (qBu fs n).f0 (qBu fs n).f1 st).1) ∧ ShO w' g m (qDs (qBu fs n).f0 (qBu fs n).f1 st).2 tr S okT ∧ Fr W w' S := by
 have hd : decide (n ≥ (n4 : Int)) = false := decide_eq_false (by omega)
 obtain ⟨fa, D0, d0, hfa, hf0, hf1, hpc, hFp, hokfa⟩ := sig_F hF n hn0 hn
 subst hfa
 obtain ⟨ps, hps⟩ : ∃ ps, ps = (qBu fs n).f0 := ⟨_, rfl⟩
 obtain ⟨r, hr⟩ : ∃ r, r = (qBu fs n).f1 := ⟨_, rfl⟩
 rw [← hps, ← hr]
 rw [← hps] at hf0 hpc hFp hpl
 rw [← hr] at hf1
 obtain ⟨rr, hrr⟩ : ∃ rr, rr = qDs ps r st := ⟨_, rfl⟩
 rw [← hrr]
 have HRR := am hrr
 clear hrr
 obtain ⟨pk, hpk⟩ : ∃ k, k = ps.length := ⟨_, rfl⟩
 rw [← hpk] at hf0 hpc hFp hpl
 have hpC := Kd.F_now hFp
 have hB := qBs W g #[.slice A1 n1 c1, .int .i64 res, .slice A2 n2 c2, .slice A3 n3 c3] #[.slice (some fa) n4 c4, .slice A5 n5 c5] #[.int .i64 10, .int .i64 n, .int .i64 ty, .int .u64 bb] #[.slice none 0 0, .slice none 0 0, .slice A2 n2 c2, .slice A2 n2 c2, .slice A5 n5 c5, .slice A5 n5 c5]
 have ef0 := (hB.cell (World.block_lt_of_cell? _ _ hf0)).trans hf0
 have ef1 := (hB.cell (World.block_lt_of_cell? _ _ hf1)).trans hf1
 simp only [plW] at ef0 ef1
 have hgl : g < W.heap.size := H.lt
 have hD0 : ∀ ad, D0 = some ad → ∀ j, 0 < pk → ¬ S (ad.add j).block ∧ (ad.add j).block < W.heap.size := fun ad hA j hp => ⟨hoff _ (F_cells hFp hA hp j).1, (F_cells hFp hA hp j).2⟩
 obtain ⟨WL, hWL⟩ : ∃ WL, WL = (plW W g #[.slice A1 n1 c1, .int .i64 res, .slice A2 n2 c2, .slice A3 n3 c3] #[.slice (some fa) n4 c4, .slice A5 n5 c5] #[.int .i64 10, .int .i64 n, .int .i64 ty, .int .u64 bb] #[.slice none 0 0, .slice none 0 0, .slice A2 n2 c2, .slice A2 n2 c2, .slice A5 n5 c5, .slice A5 n5 c5]).alloc (.cells #[.slice D0 pk d0] 22) := ⟨_, rfl⟩
 have hP : PB W.heap.size g #[.slice A1 n1 c1, .int .i64 res, .slice A2 n2 c2, .slice A3 n3 c3] #[.slice (some fa) n4 c4, .slice A5 n5 c5] #[.int .i64 10, .int .i64 n, .int .i64 ty, .int .u64 bb] #[.slice none 0 0, .slice none 0 0, .slice A2 n2 c2, .slice A2 n2 c2, .slice A5 n5 c5, .slice A5 n5 c5] WL := by
  rw [hWL]
  exact (qBK W g _ _ _ _).fr (S := fun _ => False) (Fr.of_below (qAg (Below.refl _ _) _)) (fun _ _ _ h => h)
 have hsz : WL.heap.size = W.heap.size + 7 := by rw [hWL]; simp [qB1]
 have hBL : Below W.heap.size W WL := by rw [hWL]; exact hB.trans ((qAg (Below.refl _ _) _).mono (by rw [qB1]; omega))
 have hbs : WL.cell? ⟨W.heap.size + 1 + 1 + 1 + 1 + 1 + 1, 0, none⟩ = some (.slice D0 pk d0) := by
  rw [hWL]
  have := (qAa (qBb (plW W g #[.slice A1 n1 c1, .int .i64 res, .slice A2 n2 c2, .slice A3 n3 c3] #[.slice (some fa) n4 c4, .slice A5 n5 c5] #[.int .i64 10, .int .i64 n, .int .i64 ty, .int .u64 bb] #[.slice none 0 0, .slice none 0 0, .slice A2 n2 c2, .slice A2 n2 c2, .slice A5 n5 c5, .slice A5 n5 c5]) (.cells #[.slice D0 pk d0] 22)) 0).trans rfl
  rwa [qB1] at this
 have hHL := (H.below hBL).cut
 obtain ⟨S2, hS2⟩ : ∃ S2, S2 = (fun q => ((S q ∧ q < W.heap.size) ∨ WL.heap.size ≤ q) ∧ q < WL.heap.size) := ⟨_, rfl⟩
 obtain ⟨okT2, hk2⟩ : ∃ S2, S2 = (fun q => okT q ∧ q < WL.heap.size) := ⟨_, rfl⟩
 rw [← hS2, ← hk2] at hHL
 have hs2 : ∀ q, S2 q → S q ∧ q < W.heap.size := by rw [hS2]; intro q hq; rcases hq.1 with h | h; exact h; have := hq.2; omega
 have hs2N : ∀ q, S2 q → q < WL.heap.size := fun q hq => by have := (hs2 q hq).2; omega
 have hkN : ∀ q, okT2 q → q < WL.heap.size := by rw [hk2]; exact fun q hq => hq.2
 have HKT : qAd (∀ q, okT2 q → okT q ∧ q < W.heap.size) := ⟨by rw [hk2]; exact fun q hq => ⟨hq.1, hkt q hq.1⟩⟩
 have HE1 := am hf1
 have HH := am H
 have HF := am hF
 have HBL := am hBL
 have HHL := am hHL
 have HS2 := am hs2
 have HS2N := am hs2N
 have HKN := am hkN
 have HPB := am hP
 have HD0 := am hD0
 have HPC : qAd (Kd.C (Kd.int .i64) W D0 pk ps) := ⟨hpC⟩
 have HL := am hl
 clear H hF hf0 hf1 hps hr hB hBL hHL hs2 hs2N hkN hS2 hk2 hP hD0 hpC hl
 have hw1 : Fence.wide.fn 116 := trivial
 have hw2 : Fence.wide.fn 88 := trivial
 have hw3 : Fence.wide.fn 129 := trivial
 have HPK := am hpk
 clear hpk
 refine callsIn_of_wp_marks Tryz.func89 rfl trivial ?_ rfl
 simp only [Tryz.ntmps89, List.size_toArray, List.length_cons, List.length_nil, Nat.reduceAdd, Nat.reduceSub, Array.replicate_succ, Array.replicate_zero, List.push_toArray, List.append_toArray, List.nil_append, List.cons_append]
 gi_wp2_with (gi_at_call 116; refine (backwardI_in Fence.wide 8 trivial rfl _ _ _ _).mono ?_; rintro e w' ⟨rfl, rfl⟩)
 simp only [plW] at hWL
 rw [← hWL]
 clear hWL ef0 ef1
 refine wpIn_rangeFunc_ownG (α := Nat) (w0 := WL) rfl (by decide) (gf := 129) (lb := #[.pointer (some ⟨W.heap.size + 1 + 1 + 1 + 1 + 1 + 1, 0, none⟩)]) rfl hw3 (enters_of Tryz.func129 (by kernel_rfl) rfl)
  (backI_stops Fence.wide 8 hw3 rfl (by decide) (W.heap.size + 1 + 1 + 1 + 1 + 1 + 1) D0 d0 ps pk hpl (fun a => a = ⟨W.heap.size + 1 + 1 + 1 + 1 + 1 + 1, 0, none⟩ ∨ ∃ ad j, D0 = some ad ∧ 0 < pk ∧ a = ad.add j) (.inl rfl) ?hCr WL hbs ?hcells) KpC.t (fun W l o o' => KpC.b (w := WL) W l o o') (Below.refl _ _) (fun _ => rfl)
  (fun pre V => (qAA (pre.map (fun q => ps.getD q 0)) st).1 = true ∧ ShO V g m (qAA (pre.map (fun q => ps.getD q 0)) st).2 tr S2 okT2 ∧ Fr WL V S2)
  (fun c pre V => c = .ret ∧ (qAA (pre.map (fun q => ps.getD q 0)) st).1 = false ∧ ShO V g m (qAA (pre.map (fun q => ps.getD q 0)) st).2 tr S2 okT2 ∧ Fr WL V (fun q => S2 q ∨ q = W.heap.size + 1 + 1 + 1 + 1) ∧ V.cell? ⟨W.heap.size + 1 + 1 + 1 + 1, 0, none⟩ = some (.bool false))
  ?hI ?hIx ⟨rfl, HHL.out, Fr.refl _ _⟩ ?a1 ?assign ?body ?done ?stop
 case assign =>
  intro l y W K hK
  gi_wp2
  exact hK
 case hCr => exact fun ad hA j hj => .inr ⟨ad, j, hA, by omega, rfl⟩
 case hcells =>
  intro j hj
  obtain ⟨ad, had, hcell⟩ := qCR HPC.out j hj
  exact ⟨ad, had, (HBL.out.cell (World.block_lt_of_cell? _ _ hcell)).trans hcell⟩
 case hI =>
  rintro pre V V' row ⟨h1, h2, h3⟩ hg hr'
  exact ⟨h1, h2.grown hg (fun q e => (hr' q e).1) HS2N.out HKN.out, h3.grown hg (fun q e => (hr' q e).1)⟩
 case hIx =>
  rintro c pre V V' row ⟨h0, h1, h2, h3, h4⟩ hg hr'
  exact ⟨h0, h1, h2.grown hg (fun q e => (hr' q e).1) HS2N.out HKN.out, h3.grown hg (fun q e => (hr' q e).1), qCE hg h4 (fun e => by have := (hr' _ e.symm).1; simp at this; omega)⟩
 case body =>
  rintro l pre y V ⟨h1, h2, h3⟩ hlen
  have hP3 := HPB.out.fr h3 (fun q ha hb hq => by have := (HS2.out q hq).2; omega)
  have xs := (qAa hP3.s 0).trans rfl
  have xr := (qAa hP3.r 0).trans rfl
  have xrf := qAb hP3.r 0
  obtain ⟨z, hz⟩ : ∃ z, z = ps[y]?.getD 0 := ⟨_, rfl⟩
  have hsn := qDC z (pre.map (fun q => ps.getD q 0)) st
  rw [if_pos h1] at hsn
  have hmap : (pre ++ [y]).map (fun q => ps.getD q 0) = pre.map (fun q => ps.getD q 0) ++ [z] := by simp [hz, List.getD_eq_getElem?_getD]
  have hlen2 := qC2 (pre.map (fun q => ps.getD q 0)) st
  obtain ⟨st', hst'⟩ : ∃ s, s = (qAA (pre.map (fun q => ps.getD q 0)) st).2 := ⟨_, rfl⟩
  rw [← hst'] at h2 hsn hlen2
  have HT := qDW z h2 (Nat.le_trans hlen2 HL.out)
  obtain ⟨tb, htb⟩ : ∃ b, b = qBt z st' := ⟨_, rfl⟩
  rw [← htb] at HT hsn
  rw [← hz]
  have HT := am HT
  have H3 := am h3
  have HSN := am hsn
  have HMP := am hmap
  have HP3 := am hP3
  clear hz h1 h2 h3 hP3 htb hlen2 hst' hsn hmap
  gi_wp2_with (gi_at_call 88; refine (CallsIn.inRound l (callsIn_wide.2 HT.out)).mono ?_; rintro e V1 ⟨rfl, hS1, hF1⟩; have HS1 := am hS1; have HF1 := am hF1; have hP4 := HP3.out.fr hF1 (fun q ha hb hq => by have := (HS2.out q hq).2; omega); have xr1 := (qAa hP4.r 0).trans rfl; have xrf1 := qAb hP4.r 0; clear hS1 hF1 hP4)
  ·rename_i hb
   have e1 : tb = false := by simpa using hb
   subst e1
   refine ⟨(HF1.out.keeps HS2N.out).trans (Fr.keeps (S := fun q => q = W.heap.size + 1 + 1 + 1 + 1) (Fr.set (S := fun q => q = W.heap.size + 1 + 1 + 1 + 1) (Fr.refl _ _) (.inl rfl) _) (fun q hq => by rw [hq]; omega)), rfl, ?_, ?_, ?_, World.cell?_setCell_same _ _ _ xr1⟩
   ·rw [HMP.out, HSN.out]
   ·rw [HMP.out, HSN.out]
    exact ShO.far HS1.out (fun h => by have := (HS2.out _ h).2; simp at this; omega) (fun h => by have := (HKT.out _ h).2; simp at this; omega) _
   exact Fr.set (((H3.out.trans HF1.out)).mono (fun q hq => .inl hq)) (.inl (.inr rfl)) _
  rename_i hb
  have e1 : tb = true := by simpa using hb
  subst e1
  refine ⟨HF1.out.keeps HS2N.out, HF1.out.kpC ?_, ?_, ?_, H3.out.trans HF1.out⟩
  ·rintro a (rfl | ⟨ad, j, hA, hp, rfl⟩) hq
   ·have := (HS2.out _ hq).2; simp at this; omega
   exact (HD0.out ad hA j hp).1 (HS2.out _ hq).1
  ·rw [HMP.out, HSN.out]
  rw [HMP.out, HSN.out]
  exact HS1.out
 case stop =>
  rintro D c pre V hD ⟨k, hk, rfl⟩ ⟨rfl, h1, h2, h3, h4⟩ hK
  have hrr := HRR.out
  unfold qDs at hrr
  rw [HPK.out] at hk h1 h2
  rw [backs_stop ps st k hk h1, if_neg (by rw [h1]; simp)] at hrr
  gi_wp2
  have hg := grownBy_putObj' V D (.deferred none)
  have h4' := qCE hg h4 (fun e => by injection e with e; simp at e; omega)
  refine ⟨by simp, .inl ⟨_, _, rfl, run_takeDeferred hK, ?_⟩⟩
  refine ⟨_, qAJ rfl _ _ ⟨W.heap.size + 1 + 1 + 1 + 1, 0, none⟩ false rfl h4', ?_⟩
  refine ⟨by rw [hrr], ?_, (Fr.of_below HBL.out).then_ (Fr.grown h3 hg (fun q e => by injection e with e; omega)) (fun q hq => ?_)⟩
  ·rw [hrr]
   exact (ShO.grown h2 hg (fun q e => by injection e with e; omega) HS2N.out HKN.out).mono (fun q hq => (HS2.out q hq).1) (fun q hq => (HKT.out q hq).1)
  rcases hq with h | h
  ·exact .inl (HS2.out q h).1
  exact .inr (by omega)
 case done =>
  rintro D ys V hD rfl ⟨h1, h2, h3⟩ hK
  have hP3 := HPB.out.fr h3 (fun q ha hb hq => by have := (HS2.out q hq).2; omega)
  have xr := (qAa hP3.r 0).trans rfl
  have xrf := qAb hP3.r 0
  have xp := (qAa hP3.p 0).trans rfl
  have xi1 := (qAa hP3.i 1).trans rfl
  have hba : ∀ (a : Addr) (i : Nat), (a.add i).block = a.block := fun a i => by unfold Addr.add; split <;> rfl
  have ef1 := h3.cell ((HBL.out.cell (World.block_lt_of_cell? _ _ HE1.out)).trans HE1.out) (fun hq => hoff _ hokfa (by have := (HS2.out _ hq).1; rwa [hba] at this))
  have HP3 := am hP3
  have H1 := am h1
  have H2 := am h2
  have H3 := am h3
  have HK := am hK
  clear h1 h2 h3 hP3 hba
  gi_wp2
  ·rename_i hr0
   obtain ⟨S3, hS3⟩ : ∃ S3, S3 = (fun q => S2 q ∨ V.heap.size ≤ q) := ⟨_, rfl⟩
   have hVW := H3.out.size
   have hDV : D < V.heap.size := (Array.getElem?_eq_some_iff.1 HK.out).1
   have HND : qAd (¬ S3 D) := ⟨by rw [hS3]; intro h; rcases h with h | h; have := (HS2.out _ h).2; omega; omega⟩
   have HN1 : qAd (∀ q, W.heap.size ≤ q → q < W.heap.size + 6 → ¬ S3 q) := ⟨by rw [hS3]; intro q h1 h2 h3; rcases h3 with h | h; have := (HS2.out _ h).2; omega; omega⟩
   have HF1 : qAd (∀ k, V.heap.size ≤ k → S3 k) := ⟨by rw [hS3]; intro k hk; exact .inr hk⟩
   have HS3 : qAd (∀ q, S3 q → S q) := ⟨by rw [hS3]; intro q hq; rcases hq with h | h; exact (HS2.out q h).1; exact hfr q (by omega)⟩
   have hH3 : ShO V g m (qAA ((qB9 pk pk).map (fun q => ps.getD q 0)) st).2 tr S3 okT2 := H2.out.mono (by rw [hS3]; exact fun q hq => .inl hq) (fun _ h => h)
   have hbk : (qB9 pk pk).map (fun q => ps.getD q 0) = ps.reverse := by rw [HPK.out]; exact backs_all ps
   have h1 := H1.out
   rw [hbk] at hH3 h1
   have hcs : qDs ps r st = (true, (qAA ps.reverse st).2 ++ [r]) := by unfold qDs; rw [if_pos h1, if_neg (by simpa using hr0)]
   have hlen2 := qC2 ps.reverse st
   obtain ⟨st', hst'⟩ : ∃ s, s = (qAA ps.reverse st).2 := ⟨_, rfl⟩
   rw [← hst'] at hH3 hcs hlen2
   have HL := am (Nat.le_trans hlen2 HL.out)
   obtain ⟨u1, u2, hV⟩ := hH3
   have HV := am hV
   have eg1 := (qAa hV.1 1).trans rfl
   have xs := (qAa HP3.out.s 0).trans rfl
   have HP := HP3
   clear hV hS3 hbk h1 hst' hlen2
   refine wpIn_wide.2 ?_
   have yg1 := qA1 (.cells #[.int .i64 (r)] 3) eg1
   refine wp_region_noPanic ?_
   refine wp_region_held_drew (S := fun W' => W'.cell? ⟨W.heap.size + 1 + 1 + 1, 0, none⟩ = some (.pointer (some ⟨g, 0, none⟩))) (by kernel_rfl) (xs) (fun hHeld => ?_)
   refine hT 0 ?_
   refine hT 1 ?_
   refine hT 2 ?_
   refine hT 3 ?_
   refine hT 5 ?_
   refine wpAnyH_ready (rs := [4, 6]) (by kernel_rfl) (by simp) ?_
   refine AllReadyH.cons (o := _) rfl (fun K hK => ?_) ?_
   ·go_simp
    refine hK.out _ _ (xs) (fun hHeld => ?_)
    clear hK K
    try simp only [Act.put, List.getElem_toArray, List.getElem_cons_zero, List.getElem_cons_succ, List.setIfInBounds_toArray, List.set_cons_zero, List.set_cons_succ]
    refine wpAnyH_ready (rs := [6]) (by kernel_rfl) (by simp) ?_
    refine AllReadyH.cons (o := _) rfl (fun K hK => ?_) ?_
    ·go_simp
     refine hK.out _ _ (qA1 (.cells #[.int .i64 (r)] 3) xs) (fun hHeld => ?_)
     clear hK K
     try simp only [Act.put, List.getElem_toArray, List.getElem_cons_zero, List.getElem_cons_succ, List.setIfInBounds_toArray, List.set_cons_zero, List.set_cons_succ]
     refine wpAnyH_ready (rs := [7]) (by kernel_rfl) (by simp) ?_
     refine AllReadyH.cons (o := _) rfl (fun K hK => ?_) ?_
     ·refine qBd HV.out.drew (r) rfl _ _ rfl rfl rfl HF1.out HL.out ?_
      intro A6 c6 w3 h5 h5b h6 h7
      have hFF := Fr.trans (Fr.of_below (qA4 (Below.refl _ _))) h5b
      have H6 := am h6
      have H7 := am (Fr.trans (Fr.of_below (qA4 (Below.refl _ _))) h7)
      have hP3 := HP.out.fr hFF HN1.out
      have xs' := hFF.cell xs (HN1.out (W.heap.size + 1 + 1 + 1) (by omega) (by omega))
      have xr := (qAa hP3.r 0).trans rfl
      have xrf := qAb hP3.r 0
      have eg3 := (qAa h5 1).trans rfl
      have ef3 := qAb h5 1
      have hD3 := hFF.blk HK.out HND.out
      clear h5 h5b h6 h7 hFF
      refine hK.out _ _ (xs') (fun hHeld => ?_)
      clear hK K
      try simp only [Act.put, List.getElem_toArray, List.getElem_cons_zero, List.getElem_cons_succ, List.setIfInBounds_toArray, List.set_cons_zero, List.set_cons_succ]
      refine hT 8 ?_
      refine hT 9 ?_
      refine wpAnyH_ready (rs := [10]) (by kernel_rfl) (by simp) ?_
      refine AllReadyH.cons (o := _) rfl (fun K hK => ?_) ?_
      ·go_simp
       refine hK.out _ _ (qAR xs' _ _ (HN1.out (W.heap.size + 1 + 1 + 1) (by omega) (by omega)) HV.out.2.1) (fun hHeld => ?_)
       clear hK K
       try simp only [Act.put, List.getElem_toArray, List.getElem_cons_zero, List.getElem_cons_succ, List.setIfInBounds_toArray, List.set_cons_zero, List.set_cons_succ]
       refine wpAnyH_done (by kernel_rfl) ?_ _
       refine NoPanic.normal ?_
       gi_wp2
       have hKD := hD3
       refine ⟨by simp, .inl ⟨_, _, rfl, run_takeDeferred ((Below.heap_setCell _ _ _ D (by simp; omega)).trans ((Below.heap_setCell _ _ _ D (by simp; omega)).trans hD3)), ?_⟩⟩
       refine ⟨_, qAJ rfl _ _ ⟨W.heap.size + 1 + 1 + 1 + 1, 0, none⟩ true rfl (qCE (grownBy_putObj' _ D (.deferred none)) (qBO xr (by intro e; injection e with e; omega)) (fun e => by injection e with e; simp at e; omega)), ?_⟩
       have hrr := HRR.out
       refine ⟨by rw [hrr, hcs], ?_, ?_⟩
       ·rw [hrr, hcs]
        refine (ShO.grown2 (ShO.far H6.out (HN1.out (W.heap.size + 1 + 1 + 1 + 1) (by omega) (by omega)) (fun h => by have := (HKT.out _ h).2; simp at this; omega) _) (grownBy_putObj' _ D (.deferred none)) HND.out (fun h => by have := (HKT.out _ h).2; omega)).mono HS3.out (fun q hq => (HKT.out q hq).1)
       exact Fr.grown (Fr.set (((Fr.of_below HBL.out).then_ H3.out (fun q hq => .inl (HS2.out q hq).1)).then_ H7.out (fun q hq => .inl (HS3.out q hq))) (.inr (show W.heap.size ≤ W.heap.size + 1 + 1 + 1 + 1 by omega)) _) (grownBy_putObj' _ D (.deferred none)) (fun q e => by injection e with e; omega)
      exact AllReadyH.nil
     exact AllReadyH.nil
    exact AllReadyH.nil
   refine AllReadyH.cons (o := _) rfl (fun K hK => ?_) ?_
   ·go_simp
    refine hK.out _ _ (qA1 (.cells #[.int .i64 (r)] 3) xs) (fun hHeld => ?_)
    clear hK K
    try simp only [Act.put, List.getElem_toArray, List.getElem_cons_zero, List.getElem_cons_succ, List.setIfInBounds_toArray, List.set_cons_zero, List.set_cons_succ]
    refine wpAnyH_ready (rs := [4]) (by kernel_rfl) (by simp) ?_
    refine AllReadyH.cons (o := _) rfl (fun K hK => ?_) ?_
    ·go_simp
     refine hK.out _ _ (qA1 (.cells #[.int .i64 (r)] 3) xs) (fun hHeld => ?_)
     clear hK K
     try simp only [Act.put, List.getElem_toArray, List.getElem_cons_zero, List.getElem_cons_succ, List.setIfInBounds_toArray, List.set_cons_zero, List.set_cons_succ]
     refine wpAnyH_ready (rs := [7]) (by kernel_rfl) (by simp) ?_
     refine AllReadyH.cons (o := _) rfl (fun K hK => ?_) ?_
     ·refine qBd HV.out.drew (r) rfl _ _ rfl rfl rfl HF1.out HL.out ?_
      intro A6 c6 w3 h5 h5b h6 h7
      have hFF := Fr.trans (Fr.of_below (qA4 (Below.refl _ _))) h5b
      have H6 := am h6
      have H7 := am (Fr.trans (Fr.of_below (qA4 (Below.refl _ _))) h7)
      have hP3 := HP.out.fr hFF HN1.out
      have xs' := hFF.cell xs (HN1.out (W.heap.size + 1 + 1 + 1) (by omega) (by omega))
      have xr := (qAa hP3.r 0).trans rfl
      have xrf := qAb hP3.r 0
      have eg3 := (qAa h5 1).trans rfl
      have ef3 := qAb h5 1
      have hD3 := hFF.blk HK.out HND.out
      clear h5 h5b h6 h7 hFF
      refine hK.out _ _ (xs') (fun hHeld => ?_)
      clear hK K
      try simp only [Act.put, List.getElem_toArray, List.getElem_cons_zero, List.getElem_cons_succ, List.setIfInBounds_toArray, List.set_cons_zero, List.set_cons_succ]
      refine hT 8 ?_
      refine hT 9 ?_
      refine wpAnyH_ready (rs := [10]) (by kernel_rfl) (by simp) ?_
      refine AllReadyH.cons (o := _) rfl (fun K hK => ?_) ?_
      ·go_simp
       refine hK.out _ _ (qAR xs' _ _ (HN1.out (W.heap.size + 1 + 1 + 1) (by omega) (by omega)) HV.out.2.1) (fun hHeld => ?_)
       clear hK K
       try simp only [Act.put, List.getElem_toArray, List.getElem_cons_zero, List.getElem_cons_succ, List.setIfInBounds_toArray, List.set_cons_zero, List.set_cons_succ]
       refine wpAnyH_done (by kernel_rfl) ?_ _
       refine NoPanic.normal ?_
       gi_wp2
       have hKD := hD3
       refine ⟨by simp, .inl ⟨_, _, rfl, run_takeDeferred ((Below.heap_setCell _ _ _ D (by simp; omega)).trans ((Below.heap_setCell _ _ _ D (by simp; omega)).trans hD3)), ?_⟩⟩
       refine ⟨_, qAJ rfl _ _ ⟨W.heap.size + 1 + 1 + 1 + 1, 0, none⟩ true rfl (qCE (grownBy_putObj' _ D (.deferred none)) (qBO xr (by intro e; injection e with e; omega)) (fun e => by injection e with e; simp at e; omega)), ?_⟩
       have hrr := HRR.out
       refine ⟨by rw [hrr, hcs], ?_, ?_⟩
       ·rw [hrr, hcs]
        refine (ShO.grown2 (ShO.far H6.out (HN1.out (W.heap.size + 1 + 1 + 1 + 1) (by omega) (by omega)) (fun h => by have := (HKT.out _ h).2; simp at this; omega) _) (grownBy_putObj' _ D (.deferred none)) HND.out (fun h => by have := (HKT.out _ h).2; omega)).mono HS3.out (fun q hq => (HKT.out q hq).1)
       exact Fr.grown (Fr.set (((Fr.of_below HBL.out).then_ H3.out (fun q hq => .inl (HS2.out q hq).1)).then_ H7.out (fun q hq => .inl (HS3.out q hq))) (.inr (show W.heap.size ≤ W.heap.size + 1 + 1 + 1 + 1 by omega)) _) (grownBy_putObj' _ D (.deferred none)) (fun q e => by injection e with e; omega)
      exact AllReadyH.nil
     exact AllReadyH.nil
    exact AllReadyH.nil
   exact AllReadyH.nil
  rename_i hr0
  have hr1 : r = 0 := by simpa using hr0
  have hbk : (qB9 pk pk).map (fun q => ps.getD q 0) = ps.reverse := by rw [HPK.out]; exact backs_all ps
  have h1 := H1.out
  have h2 := H2.out
  rw [hbk] at h1 h2
  have hcs : qDs ps r st = (true, (qAA ps.reverse st).2) := by unfold qDs; rw [if_pos h1, if_pos hr1]
  have hrr := HRR.out
  have hDV : D < V.heap.size := (Array.getElem?_eq_some_iff.1 HK.out).1
  refine ⟨by simp, .inl ⟨_, _, rfl, run_takeDeferred ((Below.heap_setCell _ _ _ D (by simp; omega)).trans HK.out), ?_⟩⟩
  refine ⟨_, qAJ rfl _ _ ⟨W.heap.size + 1 + 1 + 1 + 1, 0, none⟩ true rfl (qCE (grownBy_putObj' _ D (.deferred none)) (World.cell?_setCell_same _ _ _ (u := .bool false) xr) (fun e => by injection e with e; simp at e; omega)), ?_⟩
  refine ⟨by rw [hrr, hcs], ?_, ?_⟩
  ·rw [hrr, hcs]
   refine (ShO.grown2 (ShO.far h2 (fun h => by have := (HS2.out _ h).2; simp at this; omega) (fun h => by have := (HKT.out _ h).2; simp at this; omega) _) (grownBy_putObj' _ D (.deferred none)) (fun h => by have := (HS2.out _ h).2; omega) (fun h => by have := (HKT.out _ h).2; omega)).mono (fun q hq => (HS2.out q hq).1) (fun q hq => (HKT.out q hq).1)
  exact Fr.grown (Fr.set ((Fr.of_below HBL.out).then_ H3.out (fun q hq => .inl (HS2.out q hq).1)) (.inr (show W.heap.size ≤ W.heap.size + 1 + 1 + 1 + 1 by omega)) _) (grownBy_putObj' _ D (.deferred none)) (fun q e => by injection e with e; omega)
theorem plain_10 {g : Nat} {m : Bool} {st : List Int} {tr : List S160} {S okT okF : Nat → Prop} {W : World} (n ty bb : Int) (A1 A2 A3 A4 A5 : Option Addr) (n1 c1 n2 c2 n3 c3 n4 c4 n5 c5 : Nat) (res : Int) (fs : List S34) (hF : Kd.F k34 W okF A4 n4 fs) (hoff : ∀ q, okF q → ¬ S q) (hn0 : 0 ≤ n) (hn : n < n4) (hpl : (qBu fs n).f0.length ≤ 2000000)
  (H : ShO W g m st tr S okT) (hl : st.length ≤ 2000000) (hfr : ∀ k, W.heap.size ≤ k → S k) (hkt : ∀ k, okT k → k < W.heap.size) :
  Calls Tryz.prog 89 #[.agg #[.slice A1 n1 c1, .int .i64 res, .slice A2 n2 c2, .slice A3 n3 c3], .agg #[.slice A4 n4 c4, .slice A5 n5 c5], .agg #[.int .i64 10, .int .i64 n, .int .i64 ty, .int .u64 bb], .pointer (some ⟨g, 0, none⟩)] W fun e w' => e = .returned (.bool (qDs (qBu fs n).f0 (qBu fs n).f1 st).1) ∧ ShO w' g m (qDs (qBu fs n).f0 (qBu fs n).f1 st).2 tr S okT ∧ Fr W w' S :=
 callsIn_wide.1 (plain_10in n ty bb A1 A2 A3 A4 A5 n1 c1 n2 c2 n3 c3 n4 c4 n5 c5 res fs hF hoff hn0 hn hpl H hl hfr hkt)
end Q
end
section
namespace Q
open Go.RowKit YA YC YB
def qBc (ls vs : List Int) (fs : List S34) (op n ty : Int) (st : List Int) : Bool × List Int :=
 if op = 1 then (true, st ++ [ty])
 else if op = 2 then (if n < ls.length then (true, st ++ [ls.getD n.toNat 0]) else (false, st))
 else if op = 3 then (if n < ls.length then (qBt (ls.getD n.toNat 0) st, st.dropLast) else (false, st))
 else if op = 4 then (if n < vs.length then (true, st ++ [vs.getD n.toNat 0]) else (false, st))
 else if op = 5 then (if n < vs.length then (qBt (vs.getD n.toNat 0) st, st.dropLast) else (false, st))
 else if op = 6 ∨ op = 7 then qDQ op n st
 else if op = 10 then (if n < fs.length then qDs (qBu fs n).f0 (qBu fs n).f1 st else (false, st))
 else if op = 14 then (true, st ++ [1])
 else (st.getLast?.isSome, st.dropLast)
def plainOp (op : Int) : Prop := op = 1 ∨ op = 2 ∨ op = 3 ∨ op = 4 ∨ op = 5 ∨ op = 6 ∨ op = 7 ∨ op = 10 ∨ op = 12 ∨ op = 14 ∨ op = 17
theorem plain_any {g : Nat} {m : Bool} {st : List Int} {tr : List S160} {S okT okF : Nat → Prop} {W : World} (op n ty bb : Int) (A1 A2 A3 A4 A5 : Option Addr) (n1 c1 n3 c3 c2 c4 c5 : Nat) (res : Int) (ls vs : List Int) (fs : List S34)
  (hop : plainOp op) (hn0 : 0 ≤ n) (hL : Kd.F (Kd.int .i64) W okF A2 ls.length ls) (hV : Kd.F (Kd.int .i64) W okF A5 vs.length vs) (hF : Kd.F k34 W okF A4 fs.length fs) (hoff : ∀ q, okF q → ¬ S q) (hpl : ∀ x ∈ fs, x.f0.length ≤ 2000000)
  (H : ShO W g m st tr S okT) (hl : st.length ≤ 2000000) (hfr : ∀ k, W.heap.size ≤ k → S k) (hkt : ∀ k, okT k → k < W.heap.size) :
  Calls Tryz.prog 89 #[.agg #[.slice A1 n1 c1, .int .i64 res, .slice A2 ls.length c2, .slice A3 n3 c3], .agg #[.slice A4 fs.length c4, .slice A5 vs.length c5], .agg #[.int .i64 op, .int .i64 n, .int .i64 ty, .int .u64 bb], .pointer (some ⟨g, 0, none⟩)] W fun e w' => e = .returned (.bool (qBc ls vs fs op n ty st).1) ∧ ShO w' g m (qBc ls vs fs op n ty st).2 tr S okT ∧ Fr W w' S := by
 have off : ∀ {A : Option Addr} {xs : List Int}, Kd.F (Kd.int .i64) W okF A xs.length xs → 0 < xs.length → ∀ ad, A = some ad → ∀ i, ¬ S (ad.add i).block := fun h hp ad hA i => hoff _ (F_cells h hA hp i).1
 rcases hop with rfl | rfl | rfl | rfl | rfl | rfl | rfl | rfl | rfl | rfl | rfl
 ·exact plain_1 n ty bb A1 A2 A3 A4 A5 n1 c1 ls.length c2 n3 c3 fs.length c4 vs.length c5 res H hl hfr hkt
 ·by_cases hn : n < ls.length
  ·rw [show qBc ls vs fs 2 n ty st = (true, st ++ [ls.getD n.toNat 0]) by simp [qBc, hn]]
   exact plain_2 n ty bb A1 A2 A3 A4 A5 n1 c1 ls.length c2 n3 c3 fs.length c4 vs.length c5 res ls (Kd.F_now hL) (off hL (by omega)) hn0 hn H hl hfr hkt
  ·rw [show qBc ls vs fs 2 n ty st = (false, st) by simp [qBc, hn]]
   exact plain_2_bad n ty bb A1 A2 A3 A4 A5 n1 c1 ls.length c2 n3 c3 fs.length c4 vs.length c5 res (by omega) H hl hfr hkt
 ·by_cases hn : n < ls.length
  ·rw [show qBc ls vs fs 3 n ty st = (qBt (ls.getD n.toNat 0) st, st.dropLast) by simp [qBc, hn]]
   exact plain_3 n ty bb A1 A2 A3 A4 A5 n1 c1 ls.length c2 n3 c3 fs.length c4 vs.length c5 res ls (Kd.F_now hL) (off hL (by omega)) hn0 hn H hl hfr hkt
  ·rw [show qBc ls vs fs 3 n ty st = (false, st) by simp [qBc, hn]]
   exact plain_3_bad n ty bb A1 A2 A3 A4 A5 n1 c1 ls.length c2 n3 c3 fs.length c4 vs.length c5 res (by omega) H hl hfr hkt
 ·by_cases hn : n < vs.length
  ·rw [show qBc ls vs fs 4 n ty st = (true, st ++ [vs.getD n.toNat 0]) by simp [qBc, hn]]
   exact plain_4 n ty bb A1 A2 A3 A4 A5 n1 c1 ls.length c2 n3 c3 fs.length c4 vs.length c5 res vs (Kd.F_now hV) (off hV (by omega)) hn0 hn H hl hfr hkt
  ·rw [show qBc ls vs fs 4 n ty st = (false, st) by simp [qBc, hn]]
   exact plain_4_bad n ty bb A1 A2 A3 A4 A5 n1 c1 ls.length c2 n3 c3 fs.length c4 vs.length c5 res (by omega) H hl hfr hkt
 ·by_cases hn : n < vs.length
  ·rw [show qBc ls vs fs 5 n ty st = (qBt (vs.getD n.toNat 0) st, st.dropLast) by simp [qBc, hn]]
   exact plain_5 n ty bb A1 A2 A3 A4 A5 n1 c1 ls.length c2 n3 c3 fs.length c4 vs.length c5 res vs (Kd.F_now hV) (off hV (by omega)) hn0 hn H hl hfr hkt
  ·rw [show qBc ls vs fs 5 n ty st = (false, st) by simp [qBc, hn]]
   exact plain_5_bad n ty bb A1 A2 A3 A4 A5 n1 c1 ls.length c2 n3 c3 fs.length c4 vs.length c5 res (by omega) H hl hfr hkt
 ·exact plain_6 n ty bb A1 A2 A3 A4 A5 n1 c1 ls.length c2 n3 c3 fs.length c4 vs.length c5 res H hl hfr hkt
 ·exact plain_7 n ty bb A1 A2 A3 A4 A5 n1 c1 ls.length c2 n3 c3 fs.length c4 vs.length c5 res H hl hfr hkt
 ·by_cases hn : n < fs.length
  ·rw [show qBc ls vs fs 10 n ty st = qDs (qBu fs n).f0 (qBu fs n).f1 st by simp [qBc, hn]]
   have hm : qBu fs n ∈ fs := by
    unfold qBu
    rw [List.getD_eq_getElem?_getD, List.getElem?_eq_getElem (by omega)]
    exact List.getElem_mem _
   exact plain_10 n ty bb A1 A2 A3 A4 A5 n1 c1 ls.length c2 n3 c3 fs.length c4 vs.length c5 res fs hF hoff hn0 hn (hpl _ hm) H hl hfr hkt
  ·rw [show qBc ls vs fs 10 n ty st = (false, st) by simp [qBc, hn]]
   exact plain_10_bad n ty bb A1 A2 A3 A4 A5 n1 c1 ls.length c2 n3 c3 fs.length c4 vs.length c5 res (by omega) H hl hfr hkt
 ·exact plain_12 n ty bb A1 A2 A3 A4 A5 n1 c1 ls.length c2 n3 c3 fs.length c4 vs.length c5 res H hl hfr hkt
 ·exact plain_14 n ty bb A1 A2 A3 A4 A5 n1 c1 ls.length c2 n3 c3 fs.length c4 vs.length c5 res H hl hfr hkt
 ·exact plain_17 n ty bb A1 A2 A3 A4 A5 n1 c1 ls.length c2 n3 c3 fs.length c4 vs.length c5 res H hl hfr hkt
def afW (W : World) (fv pv : Array Value) (at_ : Int) (sv : Array Value) : World := (((W.alloc (.cells fv 37)).alloc (.cells pv 41)).alloc (.cells #[.int .i64 at_] 3)).alloc (.cells sv 113)
theorem qB0 (W : World) (fv pv : Array Value) (at_ : Int) (sv : Array Value) : (afW W fv pv at_ sv).heap.size = W.heap.size + 4 := by simp [afW]
theorem qB4 (W : World) (fv pv : Array Value) (at_ : Int) (sv : Array Value) : Below W.heap.size W (afW W fv pv at_ sv) :=
 ((((Below.refl _ _).alloc (by simp) _).alloc (by simp) _).alloc (by simp; omega) _).alloc (by simp; omega) _
structure AB (b : Nat) (fv pv : Array Value) (at_ : Int) (W : World) : Prop where
 f : W.heap[b]? = some (.cells fv 37 (0, 0))
 p : W.heap[b + 1]? = some (.cells pv 41 (0, 0))
 a : W.heap[b + 1 + 1]? = some (.cells #[.int .i64 at_] 3 (0, 0))
theorem qC8 (W : World) (fv pv : Array Value) (at_ : Int) (sv : Array Value) : AB W.heap.size fv pv at_ (afW W fv pv at_ sv) ∧ (afW W fv pv at_ sv).heap[W.heap.size + 1 + 1 + 1]? = some (.cells sv 113 (0, 0)) := by
 have e : ∀ (V : World) (o o' : Obj) (k : Nat), V.heap[k]? = some o → (V.alloc o').heap[k]? = some o := fun V o o' k h => qAk h (qAg (Below.refl _ _) _)
 have n : ∀ (V : World) (o : Obj) (k : Nat), V.heap.size = k → (V.alloc o).heap[k]? = some o := fun V o k hk => hk ▸ qBb V o
 exact ⟨⟨e _ _ _ _ (e _ _ _ _ (e _ _ _ _ (n _ _ _ (by simp)))), e _ _ _ _ (e _ _ _ _ (n _ _ _ (by simp))), e _ _ _ _ (n _ _ _ (by simp))⟩, n _ _ _ (by simp)⟩
theorem qCm {W : World} {m : Bool} {st : List Int} {tr : List S160} {v1 v2 : Value} {fv pv : Array Value} {at_ : Int} {S okT : Nat → Prop} (h1 : Kd.N (Kd.int .i64) 3 W 0 S v1 st) (h2 : ∀ k, v2.ownBlock = some k → S k) (h3 : Kd.N k160 160 W 0 (fun q => (S q ∨ okT q) ∧ some q ≠ v1.ownBlock) v2 tr) :
  ShV (afW W fv pv at_ #[.bool m, v1, v2]) (W.heap.size + 1 + 1 + 1) m st tr (fun q => (S q ∧ q < W.heap.size) ∨ W.heap.size + 1 + 1 + 1 ≤ q) (fun q => okT q ∧ q < W.heap.size) v1 v2 := by
 have hB := qB4 W fv pv at_ #[.bool m, v1, v2]
 refine ⟨(qC8 W fv pv at_ _).2, .inr (Nat.le_refl _), ?_, fun k hk => .inl ⟨h2 k hk, Kd.N_lt h3 k hk⟩, ?_⟩
 ·exact Kd.N_mono (Kd.N_below (Kd.N_bound h1) hB) (fun q hq => ⟨.inl ⟨hq.1, hq.2⟩, by omega⟩)
 ·refine Kd.N_mono (Kd.N_below (Kd.N_bound h3) hB) (fun q hq => ⟨?_, by omega, hq.1.2⟩)
  rcases hq.1.1 with h | h
  ·exact .inl (.inl ⟨h, hq.2⟩)
  ·exact .inr ⟨h, hq.2⟩
theorem ways_one {w' : World} {r : Nat} {n : Int} {m : Bool} {v1 v2 : Value} {st : List Int} {tr : List S160} {ok1 ok3 okW : Nat → Prop} (hr : w'.heap[r]? = some (.cells #[.int .i64 n, .bool m, v1, v2] 157 (0, 0))) (hok : okW r) (g1 : Kd.N (Kd.int .i64) 3 w' 0 ok1 v1 st) (h1 : ∀ q, ok1 q → okW q) (g3 : Kd.N k160 160 w' 0 ok3 v2 tr) (h3 : ∀ q, ok3 q → okW q) :
  Kd.F k157 w' okW (some ⟨r, 0, none⟩) 1 [⟨n, ⟨m, st, tr⟩⟩] := by
 obtain ⟨A1, c1, rfl⟩ := Kd.N_slice g1
 obtain ⟨A2, c2, rfl⟩ := Kd.N_slice g3
 have l1 := (Kd.N_reads' g1).2.1
 have l2 := (Kd.N_reads' g3).2.1
 intro W' hW
 have q1 := Kd.F_mono (Kd.N_F g1) h1 W' hW
 have q2 := Kd.F_mono (Kd.N_F g3) h3 W' hW
 have hb := (hW r hok (qAZ hr)).trans hr
 refine ⟨rfl, by decide, fun _ => ⟨_, rfl, fun j p hj => ?_⟩⟩
 rcases j with _ | j
 ·simp at hj
  subst hj
  refine ⟨_, ?_, k157_mk W' ⟨n, ⟨m, st, tr⟩⟩ l1 q1 l2 q2, fun i u hi => ?_⟩
  ·rfl
  ·have hc := qAa hb i
   have : (⟨r, 0, none⟩ : Addr).add (0 * k157.sz + i) = ⟨r, i, none⟩ := by simp [Addr.add]; intro h; exact h.symm
   rw [this, hc]
   simpa using hi
 ·simp at hj
theorem after_8 {W : World} (at_ : Int) (A1 A2 A3 A4 A5 : Option Addr) (n1 c1 n2 c2 n3 c3 n4 c4 n5 c5 : Nat) (res : Int) (code : List S51) (hC : Kd.C k51 W A3 n3 code) (h0 : 0 ≤ at_) (h1 : at_ < n3) (hop : (qA0 code at_).f0 = 8)
  {m : Bool} {st : List Int} {tr : List S160} {v1 v2 : Value} {S okT : Nat → Prop} (g1 : Kd.N (Kd.int .i64) 3 W 0 S v1 st) (g2 : ∀ k, v2.ownBlock = some k → S k) (g3 : Kd.N k160 160 W 0 (fun q => (S q ∨ okT q) ∧ some q ≠ v1.ownBlock) v2 tr) :
  Calls Tryz.prog 63 #[.agg #[.slice A1 n1 c1, .int .i64 res, .slice A2 n2 c2, .slice A3 n3 c3], .agg #[.slice A4 n4 c4, .slice A5 n5 c5], .int .i64 at_, .agg #[.bool m, v1, v2]] W fun e w' => ∃ r, e = .returned (.tuple #[.slice (some ⟨r, 0, none⟩) 1 1, .bool true]) ∧ Kd.F k157 w' (fun q => (S q ∨ okT q) ∨ W.heap.size ≤ q) (some ⟨r, 0, none⟩) 1 [⟨(qA0 code at_).f1, ⟨m, st, tr⟩⟩] ∧ Below W.heap.size W w' := by
 obtain ⟨ad, rfl, k0, k1, k2, k3⟩ := qBM hC at_ h0 h1
 obtain ⟨B1, d1, rfl⟩ := Kd.N_slice g1
 obtain ⟨B2, d2, rfl⟩ := Kd.N_slice g3
 obtain ⟨x, hx⟩ : ∃ x, x = qA0 code at_ := ⟨_, rfl⟩
 rw [← hx] at k0 k1 k2 k3 hop
 rw [hop] at k0
 have hB := qB4 W #[.slice A1 n1 c1, .int .i64 res, .slice A2 n2 c2, .slice (some ad) n3 c3] #[.slice A4 n4 c4, .slice A5 n5 c5] at_ #[.bool m, .slice B1 st.length d1, .slice B2 tr.length d2]
 replace k0 := (hB.cell (World.block_lt_of_cell? _ _ k0)).trans k0
 replace k1 := (hB.cell (World.block_lt_of_cell? _ _ k1)).trans k1
 replace k2 := (hB.cell (World.block_lt_of_cell? _ _ k2)).trans k2
 replace k3 := (hB.cell (World.block_lt_of_cell? _ _ k3)).trans k3
 have hlt : (ad.add (at_.toNat * 4)).block < W.heap.size := World.block_lt_of_cell? _ _ (show W.cell? (ad.add (at_.toNat * 4)) = some (.int .i64 8) by obtain ⟨ad', he, q0, _⟩ := qBM hC at_ h0 h1; injection he with he; subst he; rw [← hx, hop] at q0; exact q0)
 simp only [afW] at k0 k1 k2 k3
 obtain ⟨s1, hs1⟩ : ∃ k, k = st.length := ⟨_, rfl⟩
 obtain ⟨s2, hs2⟩ : ∃ k, k = tr.length := ⟨_, rfl⟩
 rw [← hs1, ← hs2] at k0 k1 k2 k3 hB ⊢
 rw [← hs1] at g1 g3
 rw [← hs2] at g2 g3
 have G1 := am g1
 have G3 := am g3
 have HBB := am hB
 clear g1 g3 hC hB hs1 hs2
 go_enter Tryz.func63, Tryz.ntmps63
 go_wp2_with fail
 refine bodyPost_ret (results_tmp2 rfl _ _ _) rfl ?_
 have hB6 := am (((HBB.out.alloc (by rw [qB0]; omega) (.cells #[.int .i64 8, .int .i64 (qA0 code at_).f1, .int .i64 (qA0 code at_).f2.f0, .int .u64 (qA0 code at_).f2.f1] 51)).alloc (by simp [qB0]; omega) (.cells #[.int .i64 (qA0 code at_).f1, .bool m, .slice B1 s1 d1, .slice B2 s2 d2] 157)))
 have hr6 := am (qBb ((afW W #[.slice A1 n1 c1, .int .i64 res, .slice A2 n2 c2, .slice (some ad) n3 c3] #[.slice A4 n4 c4, .slice A5 n5 c5] at_ #[.bool m, .slice B1 s1 d1, .slice B2 s2 d2]).alloc (.cells #[.int .i64 8, .int .i64 (qA0 code at_).f1, .int .i64 (qA0 code at_).f2.f0, .int .u64 (qA0 code at_).f2.f1] 51)) (.cells #[.int .i64 (qA0 code at_).f1, .bool m, .slice B1 s1 d1, .slice B2 s2 d2] 157))
 refine ⟨W.heap.size + 1 + 1 + 1 + 1 + 1, rfl, ?_, hB6.out⟩
 refine ways_one (by have := hr6.out; rw [World.size_alloc, qB0] at this; exact this) (.inr (by omega)) (Kd.N_below (G1.out) hB6.out) (fun q hq => .inl (.inl hq)) (Kd.N_below G3.out hB6.out) (fun q hq => .inl hq.1)
theorem after_13 {W : World} (at_ : Int) (A1 A2 A3 A4 A5 : Option Addr) (n1 c1 n2 c2 n3 c3 n4 c4 n5 c5 : Nat) (res : Int) (code : List S51) (hC : Kd.C k51 W A3 n3 code) (h0 : 0 ≤ at_) (h1 : at_ < n3) (hop : (qA0 code at_).f0 = 13)
  {m : Bool} {st : List Int} {tr : List S160} {v1 v2 : Value} {S okT : Nat → Prop} (g1 : Kd.N (Kd.int .i64) 3 W 0 S v1 st) (g2 : ∀ k, v2.ownBlock = some k → S k) (g3 : Kd.N k160 160 W 0 (fun q => (S q ∨ okT q) ∧ some q ≠ v1.ownBlock) v2 tr) (hl : st.length ≤ 2000000) :
  Calls Tryz.prog 63 #[.agg #[.slice A1 n1 c1, .int .i64 res, .slice A2 n2 c2, .slice A3 n3 c3], .agg #[.slice A4 n4 c4, .slice A5 n5 c5], .int .i64 at_, .agg #[.bool m, v1, v2]] W fun e w' => e = .returned (.tuple #[.slice none 0 0, .bool (qBt 1 st)]) ∧ Fr W w' S := by
 obtain ⟨ad, rfl, k0, k1, k2, k3⟩ := qBM hC at_ h0 h1
 obtain ⟨B1, d1, rfl⟩ := Kd.N_slice g1
 obtain ⟨B2, d2, rfl⟩ := Kd.N_slice g3
 have hV := qCm (m := m) (fv := #[.slice A1 n1 c1, .int .i64 res, .slice A2 n2 c2, .slice (some ad) n3 c3]) (pv := #[.slice A4 n4 c4, .slice A5 n5 c5]) (at_ := at_) g1 g2 g3
 obtain ⟨x, hx⟩ : ∃ x, x = qA0 code at_ := ⟨_, rfl⟩
 rw [← hx] at k0 k1 k2 k3 hop
 rw [hop] at k0
 have hB := qB4 W #[.slice A1 n1 c1, .int .i64 res, .slice A2 n2 c2, .slice (some ad) n3 c3] #[.slice A4 n4 c4, .slice A5 n5 c5] at_ #[.bool m, .slice B1 st.length d1, .slice B2 tr.length d2]
 have hbox := qC8 W #[.slice A1 n1 c1, .int .i64 res, .slice A2 n2 c2, .slice (some ad) n3 c3] #[.slice A4 n4 c4, .slice A5 n5 c5] at_ #[.bool m, .slice B1 st.length d1, .slice B2 tr.length d2]
 replace k0 := (hB.cell (World.block_lt_of_cell? _ _ k0)).trans k0
 replace k1 := (hB.cell (World.block_lt_of_cell? _ _ k1)).trans k1
 replace k2 := (hB.cell (World.block_lt_of_cell? _ _ k2)).trans k2
 replace k3 := (hB.cell (World.block_lt_of_cell? _ _ k3)).trans k3
 simp only [afW] at k0 k1 k2 k3
 obtain ⟨s1, hs1⟩ : ∃ k, k = st.length := ⟨_, rfl⟩
 obtain ⟨s2, hs2⟩ : ∃ k, k = tr.length := ⟨_, rfl⟩
 rw [← hs1, ← hs2] at k0 k1 k2 k3 hB hbox hV ⊢
 have HV := am hV
 have HBB := am hB
 have HBX := am hbox
 have HL := am hl
 clear g1 g2 g3 hC hB hs1 hs2 hV hbox hl
 have HFR : qAd (∀ w' o, Fr ((afW W #[.slice A1 n1 c1, .int .i64 res, .slice A2 n2 c2, .slice (some ad) n3 c3] #[.slice A4 n4 c4, .slice A5 n5 c5] at_ #[.bool m, .slice B1 s1 d1, .slice B2 s2 d2]).alloc o) w' (fun q => (((S q ∧ q < W.heap.size) ∨ W.heap.size + 1 + 1 + 1 ≤ q) ∧ q < (afW W #[.slice A1 n1 c1, .int .i64 res, .slice A2 n2 c2, .slice (some ad) n3 c3] #[.slice A4 n4 c4, .slice A5 n5 c5] at_ #[.bool m, .slice B1 s1 d1, .slice B2 s2 d2]).heap.size) ∨ ((afW W #[.slice A1 n1 c1, .int .i64 res, .slice A2 n2 c2, .slice (some ad) n3 c3] #[.slice A4 n4 c4, .slice A5 n5 c5] at_ #[.bool m, .slice B1 s1 d1, .slice B2 s2 d2]).alloc o).heap.size ≤ q) → Fr W w' S) :=
  ⟨fun w' o h => (Fr.of_below (HBB.out.alloc (by rw [qB0]; omega) o)).then_ h (fun q hq => by
    rcases hq with ⟨⟨h, _⟩ | h, _⟩ | h
    · exact .inl h
    · exact .inr (by omega)
    · exact .inr (by rw [World.size_alloc, qB0] at h; omega))⟩
 go_enter Tryz.func63, Tryz.ntmps63
 go_wp2_with (go_at_call 88; refine (qDW 1 (ShO.below ⟨_, _, HV.out⟩ (qAg (Below.refl _ _) _)) HL.out).mono ?_; rintro e w1 ⟨rfl, hS1, hF1⟩; have HF1 := am (HFR.out _ _ hF1); clear hS1 hF1)
 go_ret2
 exact ⟨rfl, HF1.out⟩
theorem after_11 {W : World} (at_ : Int) (A1 A2 A3 A4 A5 : Option Addr) (n1 c1 n2 c2 n3 c3 n4 c4 n5 c5 : Nat) (res : Int) (code : List S51) (hC : Kd.C k51 W A3 n3 code) (h0 : 0 ≤ at_) (h1 : at_ < n3) (hop : (qA0 code at_).f0 = 11)
  {m : Bool} {st : List Int} {tr : List S160} {v1 v2 : Value} {S okT : Nat → Prop} (g1 : Kd.N (Kd.int .i64) 3 W 0 S v1 st) (g2 : ∀ k, v2.ownBlock = some k → S k) (g3 : Kd.N k160 160 W 0 (fun q => (S q ∨ okT q) ∧ some q ≠ v1.ownBlock) v2 tr) (hl : st.length ≤ 2000000) (hres : (res == 0) = false) :
  Calls Tryz.prog 63 #[.agg #[.slice A1 n1 c1, .int .i64 res, .slice A2 n2 c2, .slice A3 n3 c3], .agg #[.slice A4 n4 c4, .slice A5 n5 c5], .int .i64 at_, .agg #[.bool m, v1, v2]] W fun e w' => e = .returned (.tuple #[.slice none 0 0, .bool (qBt res st)]) ∧ Fr W w' S := by
 obtain ⟨ad, rfl, k0, k1, k2, k3⟩ := qBM hC at_ h0 h1
 obtain ⟨B1, d1, rfl⟩ := Kd.N_slice g1
 obtain ⟨B2, d2, rfl⟩ := Kd.N_slice g3
 have hV := qCm (m := m) (fv := #[.slice A1 n1 c1, .int .i64 res, .slice A2 n2 c2, .slice (some ad) n3 c3]) (pv := #[.slice A4 n4 c4, .slice A5 n5 c5]) (at_ := at_) g1 g2 g3
 obtain ⟨x, hx⟩ : ∃ x, x = qA0 code at_ := ⟨_, rfl⟩
 rw [← hx] at k0 k1 k2 k3 hop
 rw [hop] at k0
 have hB := qB4 W #[.slice A1 n1 c1, .int .i64 res, .slice A2 n2 c2, .slice (some ad) n3 c3] #[.slice A4 n4 c4, .slice A5 n5 c5] at_ #[.bool m, .slice B1 st.length d1, .slice B2 tr.length d2]
 have hbox := qC8 W #[.slice A1 n1 c1, .int .i64 res, .slice A2 n2 c2, .slice (some ad) n3 c3] #[.slice A4 n4 c4, .slice A5 n5 c5] at_ #[.bool m, .slice B1 st.length d1, .slice B2 tr.length d2]
 replace k0 := (hB.cell (World.block_lt_of_cell? _ _ k0)).trans k0
 replace k1 := (hB.cell (World.block_lt_of_cell? _ _ k1)).trans k1
 replace k2 := (hB.cell (World.block_lt_of_cell? _ _ k2)).trans k2
 replace k3 := (hB.cell (World.block_lt_of_cell? _ _ k3)).trans k3
 simp only [afW] at k0 k1 k2 k3
 obtain ⟨s1, hs1⟩ : ∃ k, k = st.length := ⟨_, rfl⟩
 obtain ⟨s2, hs2⟩ : ∃ k, k = tr.length := ⟨_, rfl⟩
 rw [← hs1, ← hs2] at k0 k1 k2 k3 hB hbox hV ⊢
 have HV := am hV
 have HBB := am hB
 have HBX := am hbox
 have HL := am hl
 clear g1 g2 g3 hC hB hs1 hs2 hV hbox hl
 have HFR : qAd (∀ w' o, Fr ((afW W #[.slice A1 n1 c1, .int .i64 res, .slice A2 n2 c2, .slice (some ad) n3 c3] #[.slice A4 n4 c4, .slice A5 n5 c5] at_ #[.bool m, .slice B1 s1 d1, .slice B2 s2 d2]).alloc o) w' (fun q => (((S q ∧ q < W.heap.size) ∨ W.heap.size + 1 + 1 + 1 ≤ q) ∧ q < (afW W #[.slice A1 n1 c1, .int .i64 res, .slice A2 n2 c2, .slice (some ad) n3 c3] #[.slice A4 n4 c4, .slice A5 n5 c5] at_ #[.bool m, .slice B1 s1 d1, .slice B2 s2 d2]).heap.size) ∨ ((afW W #[.slice A1 n1 c1, .int .i64 res, .slice A2 n2 c2, .slice (some ad) n3 c3] #[.slice A4 n4 c4, .slice A5 n5 c5] at_ #[.bool m, .slice B1 s1 d1, .slice B2 s2 d2]).alloc o).heap.size ≤ q) → Fr W w' S) :=
  ⟨fun w' o h => (Fr.of_below (HBB.out.alloc (by rw [qB0]; omega) o)).then_ h (fun q hq => by
    rcases hq with ⟨⟨h, _⟩ | h, _⟩ | h
    · exact .inl h
    · exact .inr (by omega)
    · exact .inr (by rw [World.size_alloc, qB0] at h; omega))⟩
 go_enter Tryz.func63, Tryz.ntmps63
 go_wp2_with (go_at_call 88; refine (qDW res (ShO.below ⟨_, _, HV.out⟩ (qAg (Below.refl _ _) _)) HL.out).mono ?_; rintro e w1 ⟨rfl, hS1, hF1⟩; have HF1 := am (HFR.out _ _ hF1); clear hS1 hF1)
 go_ret2
 exact ⟨rfl, HF1.out⟩
theorem after_11_none {W : World} (at_ : Int) (A1 A2 A3 A4 A5 : Option Addr) (n1 c1 n2 c2 n3 c3 n4 c4 n5 c5 : Nat) (res : Int) (code : List S51) (hC : Kd.C k51 W A3 n3 code) (h0 : 0 ≤ at_) (h1 : at_ < n3) (hop : (qA0 code at_).f0 = 11)
  {m : Bool} {st : List Int} {tr : List S160} {v1 v2 : Value} {S okT : Nat → Prop} (g1 : Kd.N (Kd.int .i64) 3 W 0 S v1 st) (g2 : ∀ k, v2.ownBlock = some k → S k) (g3 : Kd.N k160 160 W 0 (fun q => (S q ∨ okT q) ∧ some q ≠ v1.ownBlock) v2 tr) (hl : st.length ≤ 2000000) (hres : (res == 0) = true) :
  Calls Tryz.prog 63 #[.agg #[.slice A1 n1 c1, .int .i64 res, .slice A2 n2 c2, .slice A3 n3 c3], .agg #[.slice A4 n4 c4, .slice A5 n5 c5], .int .i64 at_, .agg #[.bool m, v1, v2]] W fun e w' => e = .returned (.tuple #[.slice none 0 0, .bool true]) ∧ Fr W w' S := by
 obtain ⟨ad, rfl, k0, k1, k2, k3⟩ := qBM hC at_ h0 h1
 obtain ⟨B1, d1, rfl⟩ := Kd.N_slice g1
 obtain ⟨B2, d2, rfl⟩ := Kd.N_slice g3
 have hV := qCm (m := m) (fv := #[.slice A1 n1 c1, .int .i64 res, .slice A2 n2 c2, .slice (some ad) n3 c3]) (pv := #[.slice A4 n4 c4, .slice A5 n5 c5]) (at_ := at_) g1 g2 g3
 obtain ⟨x, hx⟩ : ∃ x, x = qA0 code at_ := ⟨_, rfl⟩
 rw [← hx] at k0 k1 k2 k3 hop
 rw [hop] at k0
 have hB := qB4 W #[.slice A1 n1 c1, .int .i64 res, .slice A2 n2 c2, .slice (some ad) n3 c3] #[.slice A4 n4 c4, .slice A5 n5 c5] at_ #[.bool m, .slice B1 st.length d1, .slice B2 tr.length d2]
 have hbox := qC8 W #[.slice A1 n1 c1, .int .i64 res, .slice A2 n2 c2, .slice (some ad) n3 c3] #[.slice A4 n4 c4, .slice A5 n5 c5] at_ #[.bool m, .slice B1 st.length d1, .slice B2 tr.length d2]
 replace k0 := (hB.cell (World.block_lt_of_cell? _ _ k0)).trans k0
 replace k1 := (hB.cell (World.block_lt_of_cell? _ _ k1)).trans k1
 replace k2 := (hB.cell (World.block_lt_of_cell? _ _ k2)).trans k2
 replace k3 := (hB.cell (World.block_lt_of_cell? _ _ k3)).trans k3
 simp only [afW] at k0 k1 k2 k3
 obtain ⟨s1, hs1⟩ : ∃ k, k = st.length := ⟨_, rfl⟩
 obtain ⟨s2, hs2⟩ : ∃ k, k = tr.length := ⟨_, rfl⟩
 rw [← hs1, ← hs2] at k0 k1 k2 k3 hB hbox hV ⊢
 have HV := am hV
 have HBB := am hB
 have HBX := am hbox
 have HL := am hl
 clear g1 g2 g3 hC hB hs1 hs2 hV hbox hl
 go_enter Tryz.func63, Tryz.ntmps63
 go_wp2_with fail
 go_ret2
 exact ⟨rfl, Fr.of_below (HBB.out.alloc (by rw [qB0]; omega) _)⟩
theorem N_way {W : World} {n : Int} {m : Bool} {v1 v2 : Value} {st : List Int} {tr : List S160} {ok1 ok3 okW : Nat → Prop} (hok : okW W.heap.size) (g1 : Kd.N (Kd.int .i64) 3 W 0 ok1 v1 st) (h1 : ∀ q, ok1 q → okW q) (g3 : Kd.N k160 160 W 0 ok3 v2 tr) (h3 : ∀ q, ok3 q → okW q) :
  Kd.N k157 157 (W.alloc (.cells #[.int .i64 n, .bool m, v1, v2] 157)) 0 okW (.slice (some ⟨W.heap.size, 0, none⟩) 1 1) [⟨n, ⟨m, st, tr⟩⟩] := by
 have hB := qAg (Below.refl W.heap.size W) (.cells #[.int .i64 n, .bool m, v1, v2] 157)
 have e1 := Kd.N_val g1
 have e3 := Kd.N_val g3
 refine ⟨fun k hk => ?_, [[.int .i64 n, .bool m, v1, v2]], rfl, ⟨fun k hk => hk.symm, [.int .i64 n, .bool m, v1, v2], World.ownsRow_lit W #[.int .i64 n, .bool m, v1, v2] 1 (Nat.zero_le _) (by decide) rfl, ?_⟩, ?_⟩
 ·simp [Value.ownBlock] at hk; rw [← hk]; exact hok
 ·refine ⟨rfl, fun j p hj => ?_⟩
  rcases j with _ | j
  ·simp at hj
   subst hj
   refine ⟨rfl, rfl, fun (u : Value) hu => ?_⟩
   replace hu : u ∈ [Value.int .i64 n, Value.bool m, v1, v2] := hu
   simp only [List.mem_cons, List.not_mem_nil, or_false] at hu
   rcases hu with rfl | rfl | rfl | rfl
   ·rfl
   ·rfl
   ·exact e1.2
   ·exact e3.2
  ·simp at hj
 ·intro j x c hx hc
  rcases j with _ | j
  ·simp at hx hc
   subst hx; subst hc
   obtain ⟨A1, c1, rfl⟩ := Kd.N_slice g1
   obtain ⟨A2, c2, rfl⟩ := Kd.N_slice g3
   intro W' hW
   have q1 := Kd.N_F (Kd.N_below (Kd.N_bound g1) hB) W' (fun k hk hlt => hW k ⟨h1 k hk.1, by simp [Value.ownBlock]; omega⟩ hlt)
   have q2 := Kd.N_F (Kd.N_below (Kd.N_bound g3) hB) W' (fun k hk hlt => hW k ⟨h3 k hk.1, by simp [Value.ownBlock]; omega⟩ hlt)
   exact k157_mk W' ⟨n, ⟨m, st, tr⟩⟩ (Kd.N_reads' g1).2.1 q1 (Kd.N_reads' g3).2.1 q2
  ·simp at hx
theorem qDz {W : World} (b : Nat) (at_ : Int) (hb : W.cell? ⟨b, 0, none⟩ = some (.int .i64 at_)) (h0 : 0 ≤ at_) (h1 : at_ ≤ 2000000) {m : Bool} {v1 v2 : Value} {st : List Int} {tr : List S160} {ok1 ok3 okW : Nat → Prop} (hok : ∀ k, W.heap.size ≤ k → okW k) (g1 : Kd.N (Kd.int .i64) 3 W 0 ok1 v1 st) (i1 : ∀ q, ok1 q → okW q) (g3 : Kd.N k160 160 W 0 ok3 v2 tr) (i3 : ∀ q, ok3 q → okW q) :
  Calls Tryz.prog 87 #[.agg #[.bool m, v1, v2], .pointer (some ⟨b, 0, none⟩)] W fun e w' => ∃ r, W.heap.size ≤ r ∧ e = .returned (.slice (some ⟨r, 0, none⟩) 1 1) ∧ Kd.N k157 157 w' 0 okW (.slice (some ⟨r, 0, none⟩) 1 1) [⟨at_ + 1, ⟨m, st, tr⟩⟩] ∧ Below W.heap.size W w' := by
 have hw : IntKind.i64.wrap (at_ + 1) = at_ + 1 := by simp [IntKind.wrap, IntKind.bits, IntKind.signed]; omega
 have hbl := World.block_lt_of_cell? _ _ hb
 obtain ⟨B1, d1, rfl⟩ := Kd.N_slice g1
 obtain ⟨B2, d2, rfl⟩ := Kd.N_slice g3
 obtain ⟨s1, hs1⟩ : ∃ k, k = st.length := ⟨_, rfl⟩
 obtain ⟨s2, hs2⟩ : ∃ k, k = tr.length := ⟨_, rfl⟩
 rw [← hs1] at g1
 rw [← hs2] at g3
 rw [← hs1, ← hs2]
 have G1 := am g1
 have G3 := am g3
 clear g1 g3 hs1 hs2
 go_enter Tryz.func87, Tryz.ntmps87
 go_wp2
 go_ret
 refine ⟨W.heap.size + 1, by omega, rfl, ?_, ((Below.refl _ _).alloc (Nat.le_refl _) _).alloc (by simp) _⟩
 have hq := N_way (W := W.alloc (.cells #[.bool m, .slice B1 s1 d1, .slice B2 s2 d2] 113)) (n := at_ + 1) (m := m) (okW := okW) (hok _ (by simp)) (Kd.N_alloc G1.out _) i1 (Kd.N_alloc G3.out _) i3
 rw [World.size_alloc] at hq
 exact hq
def qBV (ok : Bool) (ways : List S157) (S okT : Nat → Prop) (W : World) (e : Ending) (w' : World) : Prop :=
 ∃ A n c, e = .returned (.tuple #[.slice A n c, .bool ok]) ∧ (ok = true → Kd.F k157 w' (fun q => (S q ∨ okT q) ∨ W.heap.size ≤ q) A n ways) ∧ Fr W w' S
theorem after_16_bad {W : World} (at_ : Int) (A1 A2 A3 A4 A5 : Option Addr) (n1 c1 n2 c2 n3 c3 n4 c4 n5 c5 : Nat) (res : Int) (code : List S51) (hC : Kd.C k51 W A3 n3 code) (h0 : 0 ≤ at_) (h1 : at_ < n3) (hop : (qA0 code at_).f0 = 16)
  {m : Bool} {st : List Int} {tr : List S160} {v1 v2 : Value} {S okT : Nat → Prop} (g1 : Kd.N (Kd.int .i64) 3 W 0 S v1 st) (g2 : ∀ k, v2.ownBlock = some k → S k) (g3 : Kd.N k160 160 W 0 (fun q => (S q ∨ okT q) ∧ some q ≠ v1.ownBlock) v2 tr) (hl : st.length ≤ 2000000) (htr : tr = []) :
  Calls Tryz.prog 63 #[.agg #[.slice A1 n1 c1, .int .i64 res, .slice A2 n2 c2, .slice A3 n3 c3], .agg #[.slice A4 n4 c4, .slice A5 n5 c5], .int .i64 at_, .agg #[.bool m, v1, v2]] W fun e w' => qBV false [] S okT W e w' := by
 obtain ⟨ad, rfl, k0, k1, k2, k3⟩ := qBM hC at_ h0 h1
 obtain ⟨B1, d1, rfl⟩ := Kd.N_slice g1
 obtain ⟨B2, d2, rfl⟩ := Kd.N_slice g3
 have hV := qCm (m := m) (fv := #[.slice A1 n1 c1, .int .i64 res, .slice A2 n2 c2, .slice (some ad) n3 c3]) (pv := #[.slice A4 n4 c4, .slice A5 n5 c5]) (at_ := at_) g1 g2 g3
 obtain ⟨x, hx⟩ : ∃ x, x = qA0 code at_ := ⟨_, rfl⟩
 rw [← hx] at k0 k1 k2 k3 hop
 rw [hop] at k0
 have hB := qB4 W #[.slice A1 n1 c1, .int .i64 res, .slice A2 n2 c2, .slice (some ad) n3 c3] #[.slice A4 n4 c4, .slice A5 n5 c5] at_ #[.bool m, .slice B1 st.length d1, .slice B2 tr.length d2]
 have hbox := qC8 W #[.slice A1 n1 c1, .int .i64 res, .slice A2 n2 c2, .slice (some ad) n3 c3] #[.slice A4 n4 c4, .slice A5 n5 c5] at_ #[.bool m, .slice B1 st.length d1, .slice B2 tr.length d2]
 replace k0 := (hB.cell (World.block_lt_of_cell? _ _ k0)).trans k0
 replace k1 := (hB.cell (World.block_lt_of_cell? _ _ k1)).trans k1
 replace k2 := (hB.cell (World.block_lt_of_cell? _ _ k2)).trans k2
 replace k3 := (hB.cell (World.block_lt_of_cell? _ _ k3)).trans k3
 simp only [afW] at k0 k1 k2 k3
 obtain ⟨s1, hs1⟩ : ∃ k, k = st.length := ⟨_, rfl⟩
 obtain ⟨s2, hs2⟩ : ∃ k, k = tr.length := ⟨_, rfl⟩
 rw [← hs1, ← hs2] at k0 k1 k2 k3 hB hbox hV ⊢
 have HV := am hV
 have HBB := am hB
 have HBX := am hbox
 have HL := am hl
 have h20 : s2 = 0 := by rw [hs2, htr]; rfl
 subst h20
 clear g1 g2 g3 hC hB hs1 hs2 hV hbox hl
 go_enter Tryz.func63, Tryz.ntmps63
 go_wp2_with fail
 go_ret2
 exact ⟨none, 0, 0, rfl, (fun h => by cases h), Fr.of_below (HBB.out.alloc (by rw [qB0]; omega) _)⟩
theorem after_16 {W : World} (at_ : Int) (A1 A2 A3 A4 A5 : Option Addr) (n1 c1 n2 c2 n3 c3 n4 c4 n5 c5 : Nat) (res : Int) (code : List S51) (hC : Kd.C k51 W A3 n3 code) (h0 : 0 ≤ at_) (h1 : at_ < n3) (hop : (qA0 code at_).f0 = 16)
  {m : Bool} {st : List Int} {tr : List S160} {v1 v2 : Value} {S okT : Nat → Prop} (g1 : Kd.N (Kd.int .i64) 3 W 0 S v1 st) (g2 : ∀ k, v2.ownBlock = some k → S k) (g3 : Kd.N k160 160 W 0 (fun q => (S q ∨ okT q) ∧ some q ≠ v1.ownBlock) v2 tr) (hl : st.length ≤ 2000000) (htr : tr ≠ []) (htl : tr.length ≤ 2000000) (hat : at_ ≤ 2000000) :
  Calls Tryz.prog 63 #[.agg #[.slice A1 n1 c1, .int .i64 res, .slice A2 n2 c2, .slice A3 n3 c3], .agg #[.slice A4 n4 c4, .slice A5 n5 c5], .int .i64 at_, .agg #[.bool m, v1, v2]] W fun e w' => qBV true [⟨at_ + 1, ⟨m, st, tr.dropLast⟩⟩] S okT W e w' := by
 obtain ⟨ad, rfl, k0, k1, k2, k3⟩ := qBM hC at_ h0 h1
 obtain ⟨B1, d1, rfl⟩ := Kd.N_slice g1
 obtain ⟨B2, d2, rfl⟩ := Kd.N_slice g3
 have hV := qCm (m := m) (fv := #[.slice A1 n1 c1, .int .i64 res, .slice A2 n2 c2, .slice (some ad) n3 c3]) (pv := #[.slice A4 n4 c4, .slice A5 n5 c5]) (at_ := at_) g1 g2 g3
 obtain ⟨x, hx⟩ : ∃ x, x = qA0 code at_ := ⟨_, rfl⟩
 rw [← hx] at k0 k1 k2 k3 hop
 rw [hop] at k0
 have hB := qB4 W #[.slice A1 n1 c1, .int .i64 res, .slice A2 n2 c2, .slice (some ad) n3 c3] #[.slice A4 n4 c4, .slice A5 n5 c5] at_ #[.bool m, .slice B1 st.length d1, .slice B2 tr.length d2]
 have hbox := qC8 W #[.slice A1 n1 c1, .int .i64 res, .slice A2 n2 c2, .slice (some ad) n3 c3] #[.slice A4 n4 c4, .slice A5 n5 c5] at_ #[.bool m, .slice B1 st.length d1, .slice B2 tr.length d2]
 replace k0 := (hB.cell (World.block_lt_of_cell? _ _ k0)).trans k0
 replace k1 := (hB.cell (World.block_lt_of_cell? _ _ k1)).trans k1
 replace k2 := (hB.cell (World.block_lt_of_cell? _ _ k2)).trans k2
 replace k3 := (hB.cell (World.block_lt_of_cell? _ _ k3)).trans k3
 simp only [afW] at k0 k1 k2 k3
 obtain ⟨s1, hs1⟩ : ∃ k, k = st.length := ⟨_, rfl⟩
 obtain ⟨s2, hs2⟩ : ∃ k, k = tr.length := ⟨_, rfl⟩
 rw [← hs1, ← hs2] at k0 k1 k2 k3 hB hbox hV ⊢
 have HV := am hV
 have HBB := am hB
 have HBX := am hbox
 have HL := am hl
 have hcd : s2 ≤ d2 := by rw [hs2]; exact (Kd.N_reads' g3).2.1
 have hs2p : 0 < s2 := by rw [hs2]; exact List.length_pos_iff.2 htr
 have hs2l : s2 ≤ 2000000 := by rw [hs2]; exact htl
 have htrl := hs2.symm
 rw [← hs1] at g1 g3
 rw [← hs2] at g3
 have G1 := am g1
 have G3 := am g3
 clear g1 g2 g3 hC hB hs1 hs2 hV hbox hl
 obtain ⟨t2, rfl⟩ : ∃ t2, s2 = t2 + 1 := ⟨s2 - 1, by omega⟩
 have hz : (((t2 + 1 : Nat) : Int) == 0) = false := beq_eq_false_iff_ne.mpr (by omega)
 have hwr : IntKind.i64.wrap (((t2 + 1 : Nat) : Int) - 1) = (t2 : Int) := by simp [IntKind.wrap, IntKind.bits, IntKind.signed]; omega
 have HW := am ((qB4 W #[.slice A1 n1 c1, .int .i64 res, .slice A2 n2 c2, .slice (some ad) n3 c3] #[.slice A4 n4 c4, .slice A5 n5 c5] at_ #[.bool m, .slice B1 s1 d1, .slice B2 t2 d2]).alloc (by rw [qB0]; omega) (.cells #[.int .i64 16, .int .i64 (qA0 code at_).f1, .int .i64 (qA0 code at_).f2.f0, .int .u64 (qA0 code at_).f2.f1] 51))
 go_enter Tryz.func63, Tryz.ntmps63
 go_wp2_with (go_at_call 87; refine (qDz (okW := fun q => (S q ∨ okT q) ∨ W.heap.size ≤ q) (W.heap.size + 1 + 1) at_ (qA1 _ ((qAa (qC8 W _ _ at_ _).1.a 0).trans rfl)) h0 hat (fun k hk => .inr (Nat.le_trans HW.out.size hk)) (Kd.N_below G1.out HW.out) (fun q hq => .inl (.inl hq)) (Kd.N_take (Kd.N_below G3.out HW.out) (m := t2) (by omega)) (fun q hq => .inl hq.1)).mono ?_; rintro e w1 ⟨r, hr, rfl, hN, hb1⟩; have HN1 := am hN; have HB1 := am hb1; clear hN hb1)
 go_ret2
 refine ⟨_, _, _, rfl, fun _ => ?_, Fr.of_below ((HW.out).trans (HB1.out.mono HW.out.size))⟩
 have := Kd.N_F HN1.out
 rwa [show tr.take t2 = tr.dropLast by rw [List.dropLast_eq_take]; congr 1; omega] at this
theorem after_pl {W : World} (at_ : Int) (A1 A2 A3 A4 A5 : Option Addr) (n1 c1 c2 n3 c3 c4 c5 : Nat) (res : Int) (code : List S51) (hC : Kd.C k51 W A3 n3 code) (h0 : 0 ≤ at_) (h1 : at_ < n3) (hop : plainOp (qA0 code at_).f0)
  {m : Bool} {st : List Int} {tr : List S160} {v1 v2 : Value} {S okT : Nat → Prop} (g1 : Kd.N (Kd.int .i64) 3 W 0 S v1 st) (g2 : ∀ k, v2.ownBlock = some k → S k) (g3 : Kd.N k160 160 W 0 (fun q => (S q ∨ okT q) ∧ some q ≠ v1.ownBlock) v2 tr) (hl : st.length ≤ 2000000) {okF : Nat → Prop} {ls vs : List Int} {fs : List S34} (hL : Kd.F (Kd.int .i64) W okF A2 ls.length ls) (hVs : Kd.F (Kd.int .i64) W okF A5 vs.length vs) (hF : Kd.F k34 W okF A4 fs.length fs) (hoff : ∀ q, okF q → ¬ S q) (hpl : ∀ x ∈ fs, x.f0.length ≤ 2000000) (hn0 : 0 ≤ (qA0 code at_).f1) (hat : at_ ≤ 2000000):
  Calls Tryz.prog 63 #[.agg #[.slice A1 n1 c1, .int .i64 res, .slice A2 ls.length c2, .slice A3 n3 c3], .agg #[.slice A4 fs.length c4, .slice A5 vs.length c5], .int .i64 at_, .agg #[.bool m, v1, v2]] W fun e w' => qBV (qBc ls vs fs (qA0 code at_).f0 (qA0 code at_).f1 (qA0 code at_).f2.f0 st).1 [⟨at_ + 1, ⟨m, (qBc ls vs fs (qA0 code at_).f0 (qA0 code at_).f1 (qA0 code at_).f2.f0 st).2, tr⟩⟩] S okT W e w' := by
 obtain ⟨ad, rfl, k0, k1, k2, k3⟩ := qBM hC at_ h0 h1
 obtain ⟨B1, d1, rfl⟩ := Kd.N_slice g1
 obtain ⟨B2, d2, rfl⟩ := Kd.N_slice g3
 have hV := qCm (m := m) (fv := #[.slice A1 n1 c1, .int .i64 res, .slice A2 ls.length c2, .slice (some ad) n3 c3]) (pv := #[.slice A4 fs.length c4, .slice A5 vs.length c5]) (at_ := at_) g1 g2 g3
 obtain ⟨x, hx⟩ : ∃ x, x = qA0 code at_ := ⟨_, rfl⟩
 rw [← hx] at k0 k1 k2 k3 hop hn0 ⊢
 obtain ⟨op, hopv⟩ : ∃ op, op = x.f0 := ⟨_, rfl⟩
 obtain ⟨nn, hnn⟩ : ∃ nn, nn = x.f1 := ⟨_, rfl⟩
 obtain ⟨ty, hty⟩ : ∃ ty, ty = x.f2.f0 := ⟨_, rfl⟩
 obtain ⟨bb, hbb⟩ : ∃ bb, bb = x.f2.f1 := ⟨_, rfl⟩
 rw [← hopv] at k0 hop ⊢
 rw [← hnn] at k1 hn0 ⊢
 rw [← hty] at k2 ⊢
 rw [← hbb] at k3
 have hB := qB4 W #[.slice A1 n1 c1, .int .i64 res, .slice A2 ls.length c2, .slice (some ad) n3 c3] #[.slice A4 fs.length c4, .slice A5 vs.length c5] at_ #[.bool m, .slice B1 st.length d1, .slice B2 tr.length d2]
 have hbox := qC8 W #[.slice A1 n1 c1, .int .i64 res, .slice A2 ls.length c2, .slice (some ad) n3 c3] #[.slice A4 fs.length c4, .slice A5 vs.length c5] at_ #[.bool m, .slice B1 st.length d1, .slice B2 tr.length d2]
 replace k0 := (hB.cell (World.block_lt_of_cell? _ _ k0)).trans k0
 replace k1 := (hB.cell (World.block_lt_of_cell? _ _ k1)).trans k1
 replace k2 := (hB.cell (World.block_lt_of_cell? _ _ k2)).trans k2
 replace k3 := (hB.cell (World.block_lt_of_cell? _ _ k3)).trans k3
 simp only [afW] at k0 k1 k2 k3
 obtain ⟨s1, hs1⟩ : ∃ k, k = st.length := ⟨_, rfl⟩
 obtain ⟨s2, hs2⟩ : ∃ k, k = tr.length := ⟨_, rfl⟩
 rw [← hs1, ← hs2] at k0 k1 k2 k3 hB hbox hV ⊢
 have HV := am hV
 have HBB := am hB
 have HBX := am hbox
 have HL := am hl
 have e8 : (op == 8) = false := by rcases hop with h | h | h | h | h | h | h | h | h | h | h <;> subst h <;> rfl
 have e9 : (op == 9) = false := by rcases hop with h | h | h | h | h | h | h | h | h | h | h <;> subst h <;> rfl
 have e11 : (op == 11) = false := by rcases hop with h | h | h | h | h | h | h | h | h | h | h <;> subst h <;> rfl
 have e13 : (op == 13) = false := by rcases hop with h | h | h | h | h | h | h | h | h | h | h <;> subst h <;> rfl
 have e15 : (op == 15) = false := by rcases hop with h | h | h | h | h | h | h | h | h | h | h <;> subst h <;> rfl
 have e16 : (op == 16) = false := by rcases hop with h | h | h | h | h | h | h | h | h | h | h <;> subst h <;> rfl
 have HW := am ((qB4 W #[.slice A1 n1 c1, .int .i64 res, .slice A2 ls.length c2, .slice (some ad) n3 c3] #[.slice A4 fs.length c4, .slice A5 vs.length c5] at_ #[.bool m, .slice B1 s1 d1, .slice B2 s2 d2]).alloc (by rw [qB0]; omega) (.cells #[.int .i64 op, .int .i64 nn, .int .i64 ty, .int .u64 bb] 51))
 have HP := am (plain_any (W := (afW W #[.slice A1 n1 c1, .int .i64 res, .slice A2 ls.length c2, .slice (some ad) n3 c3] #[.slice A4 fs.length c4, .slice A5 vs.length c5] at_ #[.bool m, .slice B1 s1 d1, .slice B2 s2 d2]).alloc (.cells #[.int .i64 op, .int .i64 nn, .int .i64 ty, .int .u64 bb] 51)) op nn ty bb A1 A2 (some ad) A4 A5 n1 c1 n3 c3 c2 c4 c5 res ls vs fs hop hn0 (Kd.F_below (Kd.F_bound hL) HW.out) (Kd.F_below (Kd.F_bound hVs) HW.out) (Kd.F_below (Kd.F_bound hF) HW.out) (by
     rintro q ⟨hq, hlt⟩ h
     rcases h with ⟨h | h, _⟩ | h
     · exact hoff q hq h.1
     · omega
     · have := HW.out.size; omega) hpl (ShO.below ⟨_, _, HV.out⟩ (qAg (Below.refl _ _) _)) hl (fun k hk => .inr hk) (fun k hk => by have := HW.out.size; omega))
 obtain ⟨ok, hok⟩ : ∃ ok, ok = (qBc ls vs fs op nn ty st).1 := ⟨_, rfl⟩
 obtain ⟨st', hst'⟩ : ∃ st', st' = (qBc ls vs fs op nn ty st).2 := ⟨_, rfl⟩
 rw [← hok, ← hst'] at HP ⊢
 clear hopv hnn hty hbb
 clear hx
 clear g1 g2 g3 hC hB hs1 hs2 hV hbox hl hL hVs hF hoff hpl hop hok hst'
 have HS := am (fun q (h : (((S q ∧ q < W.heap.size) ∨ W.heap.size + 1 + 1 + 1 ≤ q) ∧ q < (afW W #[.slice A1 n1 c1, .int .i64 res, .slice A2 ls.length c2, .slice (some ad) n3 c3] #[.slice A4 fs.length c4, .slice A5 vs.length c5] at_ #[.bool m, .slice B1 s1 d1, .slice B2 s2 d2]).heap.size) ∨ ((afW W #[.slice A1 n1 c1, .int .i64 res, .slice A2 ls.length c2, .slice (some ad) n3 c3] #[.slice A4 fs.length c4, .slice A5 vs.length c5] at_ #[.bool m, .slice B1 s1 d1, .slice B2 s2 d2]).alloc (.cells #[.int .i64 op, .int .i64 nn, .int .i64 ty, .int .u64 bb] 51)).heap.size ≤ q) => show (S q ∧ q < W.heap.size) ∨ W.heap.size + 1 + 1 + 1 ≤ q by
   rcases h with ⟨h, _⟩ | h
   · exact h
   · right; rw [World.size_alloc, qB0] at h; omega)
 go_enter Tryz.func63, Tryz.ntmps63
 go_wp2_with (first
   | (go_at_call 89; refine HP.out.mono ?_; rintro e w1 ⟨rfl, ⟨u1, u2, hg, hs0, hN1, hv2, hN3⟩, hF1⟩; obtain ⟨C1, q1, rfl⟩ := Kd.N_slice hN1; obtain ⟨C2, q2, rfl⟩ := Kd.N_slice hN3; have HF1 := am hF1; have HN1 := am hN1; have HN3 := am hN3; have e0 := (qAa hg 0).trans rfl; have e1 := (qAa hg 1).trans rfl; have e2 := (qAa hg 2).trans rfl; clear hN1 hF1 hs0 hv2 hN3)
   | (go_at_call 87; refine (qDz (okW := fun q => (S q ∨ okT q) ∨ W.heap.size ≤ q) (W.heap.size + 1 + 1) at_ (HF1.out.cell (qA1 _ ((qAa HBX.out.1.a 0).trans rfl)) (fun h => by have := HS.out _ h; simp at this; omega)) h0 hat (fun k hk => .inr (Nat.le_trans HW.out.size (Nat.le_trans HF1.out.size hk))) HN1.out (fun q hq => by rcases HS.out _ hq.1 with h | h; exact .inl (.inl h.1); exact .inr (by omega)) HN3.out (fun q hq => by rcases hq.1 with h | h; rcases HS.out _ h with h | h; exact .inl (.inl h.1); exact .inr (by omega); exact .inl (.inr h.1))).mono ?_; rintro e w2 ⟨r, hr, rfl, hN, hb1⟩; have HN2 := am hN; have HB2 := am hb1; clear hN hb1))
 go_ret2
 refine ⟨_, _, _, rfl, fun _ => Kd.N_F HN2.out, ?_⟩
 refine ((Fr.of_below HW.out).then_ HF1.out (fun q hq => ?_)).then_ (S1 := fun _ => False) (Fr.of_below HB2.out) (fun q hq => hq.elim)
 rcases HS.out _ hq with h | h
 ·exact .inl h.1
 ·exact .inr (by omega)
theorem qEF : (Tryz.prog.info? 157).map (fun i => (i.zero, i.size, i.bytes)) = some (some (.agg #[.int .i64 0, .bool false, .slice none 0 0, .slice none 0 0]), 4, 64) := by kernel_rfl
theorem FK_way {W : World} {n : Int} {m : Bool} {v1 v2 : Value} {st : List Int} {tr : List S160} {b1 b3 : Nat} {ok1 ok3 okp : Nat → Prop} (g1 : Kd.N (Kd.int .i64) 3 W b1 ok1 v1 st) (h1 : ∀ q, ok1 q → okp q) (g3 : Kd.N k160 160 W b3 ok3 v2 tr) (h3 : ∀ q, ok3 q → okp q) :
  Kd.FK k157 W okp ⟨n, ⟨m, st, tr⟩⟩ [.int .i64 n, .bool m, v1, v2] := by
 obtain ⟨A1, c1, rfl⟩ := Kd.N_slice g1
 obtain ⟨A2, c2, rfl⟩ := Kd.N_slice g3
 intro W' hW
 exact k157_mk W' ⟨n, ⟨m, st, tr⟩⟩ (Kd.N_reads' g1).2.1 (Kd.F_mono (Kd.N_F g1) h1 W' hW) (Kd.N_reads' g3).2.1 (Kd.F_mono (Kd.N_F g3) h3 W' hW)
theorem after_9 {W : World} (at_ : Int) (A1 A2 A3 A4 A5 : Option Addr) (n1 c1 n2 c2 n3 c3 n4 c4 n5 c5 : Nat) (res : Int) (code : List S51) (hC : Kd.C k51 W A3 n3 code) (h0 : 0 ≤ at_) (h1 : at_ < n3) (hop : (qA0 code at_).f0 = 9)
  {m : Bool} {st : List Int} {tr : List S160} {v1 v2 : Value} {S okT : Nat → Prop} (g1 : Kd.N (Kd.int .i64) 3 W 0 S v1 st) (g2 : ∀ k, v2.ownBlock = some k → S k) (g3 : Kd.N k160 160 W 0 (fun q => (S q ∨ okT q) ∧ some q ≠ v1.ownBlock) v2 tr) (hl : st.length ≤ 2000000) (htl : tr.length ≤ 2000000) (hat : at_ ≤ 2000000) :
  Calls Tryz.prog 63 #[.agg #[.slice A1 n1 c1, .int .i64 res, .slice A2 n2 c2, .slice A3 n3 c3], .agg #[.slice A4 n4 c4, .slice A5 n5 c5], .int .i64 at_, .agg #[.bool m, v1, v2]] W fun e w' => qBV (qBt 3 st) [⟨at_ + 1, ⟨m, st.dropLast, tr⟩⟩, ⟨(qA0 code at_).f1, ⟨m, st.dropLast, tr⟩⟩] S okT W e w' := by
 obtain ⟨ad, rfl, k0, k1, k2, k3⟩ := qBM hC at_ h0 h1
 obtain ⟨B1, d1, rfl⟩ := Kd.N_slice g1
 obtain ⟨B2, d2, rfl⟩ := Kd.N_slice g3
 have hV := qCm (m := m) (fv := #[.slice A1 n1 c1, .int .i64 res, .slice A2 n2 c2, .slice (some ad) n3 c3]) (pv := #[.slice A4 n4 c4, .slice A5 n5 c5]) (at_ := at_) g1 g2 g3
 obtain ⟨x, hx⟩ : ∃ x, x = qA0 code at_ := ⟨_, rfl⟩
 rw [← hx] at k0 k1 k2 k3 hop ⊢
 rw [hop] at k0
 obtain ⟨nn, hnn⟩ : ∃ nn, nn = x.f1 := ⟨_, rfl⟩
 obtain ⟨ty, hty⟩ : ∃ ty, ty = x.f2.f0 := ⟨_, rfl⟩
 obtain ⟨bb, hbb⟩ : ∃ bb, bb = x.f2.f1 := ⟨_, rfl⟩
 rw [← hnn] at k1 ⊢
 rw [← hty] at k2
 rw [← hbb] at k3
 have hB := qB4 W #[.slice A1 n1 c1, .int .i64 res, .slice A2 n2 c2, .slice (some ad) n3 c3] #[.slice A4 n4 c4, .slice A5 n5 c5] at_ #[.bool m, .slice B1 st.length d1, .slice B2 tr.length d2]
 have hbox := qC8 W #[.slice A1 n1 c1, .int .i64 res, .slice A2 n2 c2, .slice (some ad) n3 c3] #[.slice A4 n4 c4, .slice A5 n5 c5] at_ #[.bool m, .slice B1 st.length d1, .slice B2 tr.length d2]
 replace k0 := (hB.cell (World.block_lt_of_cell? _ _ k0)).trans k0
 replace k1 := (hB.cell (World.block_lt_of_cell? _ _ k1)).trans k1
 replace k2 := (hB.cell (World.block_lt_of_cell? _ _ k2)).trans k2
 replace k3 := (hB.cell (World.block_lt_of_cell? _ _ k3)).trans k3
 simp only [afW] at k0 k1 k2 k3
 obtain ⟨s1, hs1⟩ : ∃ k, k = st.length := ⟨_, rfl⟩
 obtain ⟨s2, hs2⟩ : ∃ k, k = tr.length := ⟨_, rfl⟩
 rw [← hs1, ← hs2] at k0 k1 k2 k3 hB hbox hV ⊢
 have HV := am hV
 have HBB := am hB
 have HBX := am hbox
 have HL := am hl
 have HW := am ((qB4 W #[.slice A1 n1 c1, .int .i64 res, .slice A2 n2 c2, .slice (some ad) n3 c3] #[.slice A4 n4 c4, .slice A5 n5 c5] at_ #[.bool m, .slice B1 s1 d1, .slice B2 s2 d2]).alloc (by rw [qB0]; omega) (.cells #[.int .i64 9, .int .i64 nn, .int .i64 ty, .int .u64 bb] 51))
 have HT := am (qDW 3 (ShO.below ⟨_, _, HV.out⟩ (qAg (Below.refl _ _) (.cells #[.int .i64 9, .int .i64 nn, .int .i64 ty, .int .u64 bb] 51))) hl)
 have hdl : st.dropLast.length ≤ 2000000 := by simp; omega
 obtain ⟨ok, hok⟩ : ∃ ok, ok = qBt 3 st := ⟨_, rfl⟩
 obtain ⟨st', hst'⟩ : ∃ st', st' = st.dropLast := ⟨_, rfl⟩
 rw [← hok, ← hst'] at HT ⊢
 rw [← hst'] at hdl
 have HDL := am hdl
 have HTL := am htl
 have HBI : qAd (((afW W #[.slice A1 n1 c1, .int .i64 res, .slice A2 n2 c2, .slice (some ad) n3 c3] #[.slice A4 n4 c4, .slice A5 n5 c5] at_ #[.bool m, .slice B1 s1 d1, .slice B2 s2 d2]).alloc (.cells #[.int .i64 9, .int .i64 nn, .int .i64 ty, .int .u64 bb] 51)).heap[W.heap.size + 1 + 1 + 1 + 1]? = some (.cells #[.int .i64 9, .int .i64 nn, .int .i64 ty, .int .u64 bb] 51 (0, 0))) := ⟨by have := qBb (afW W #[.slice A1 n1 c1, .int .i64 res, .slice A2 n2 c2, .slice (some ad) n3 c3] #[.slice A4 n4 c4, .slice A5 n5 c5] at_ #[.bool m, .slice B1 s1 d1, .slice B2 s2 d2]) (.cells #[.int .i64 9, .int .i64 nn, .int .i64 ty, .int .u64 bb] 51); rwa [qB0] at this⟩
 have HS := am (fun q (h : (((S q ∧ q < W.heap.size) ∨ W.heap.size + 1 + 1 + 1 ≤ q) ∧ q < (afW W #[.slice A1 n1 c1, .int .i64 res, .slice A2 n2 c2, .slice (some ad) n3 c3] #[.slice A4 n4 c4, .slice A5 n5 c5] at_ #[.bool m, .slice B1 s1 d1, .slice B2 s2 d2]).heap.size) ∨ ((afW W #[.slice A1 n1 c1, .int .i64 res, .slice A2 n2 c2, .slice (some ad) n3 c3] #[.slice A4 n4 c4, .slice A5 n5 c5] at_ #[.bool m, .slice B1 s1 d1, .slice B2 s2 d2]).alloc (.cells #[.int .i64 9, .int .i64 nn, .int .i64 ty, .int .u64 bb] 51)).heap.size ≤ q) => show (S q ∧ q < W.heap.size) ∨ W.heap.size + 1 + 1 + 1 = q ∨ W.heap.size + 1 + 1 + 1 + 1 < q by
   rw [World.size_alloc, qB0] at h
   rcases h with ⟨h | h, h2⟩ | h
   · exact .inl h
   · exact .inr (.inl (by omega))
   · exact .inr (.inr (by omega)))
 clear hnn hty hbb
 clear hx
 clear g1 g2 g3 hC hB hs1 hs2 hV hbox hl hok hst' hdl htl
 go_enter Tryz.func63, Tryz.ntmps63
 go_wp2_with (go_at_call 88; refine HT.out.mono ?_; rintro e w1 ⟨rfl, ⟨u1, u2, hg, hs0, hN1, hv2, hN3⟩, hF1⟩; obtain ⟨C1, q1, rfl⟩ := Kd.N_slice hN1; obtain ⟨C2, q2, rfl⟩ := Kd.N_slice hN3; have HF1 := am hF1; have HN1 := am hN1; have HN3 := am hN3; have e0 := (qAa hg 0).trans rfl; have e1 := (qAa hg 1).trans rfl; have e2 := (qAa hg 2).trans rfl; have ei := HF1.out.cell ((qAa HBI.out 1).trans rfl) (fun h => by have := HS.out _ h; dsimp only at this; omega); have ea := HF1.out.cell (qA1 _ ((qAa HBX.out.1.a 0).trans rfl)) (fun h => by have := HS.out _ h; dsimp only at this; omega); clear hN1 hF1 hs0 hv2 hN3)
 have HWS := am (Nat.le_trans HW.out.size HF1.out.size)
 have hok1 : qAd (∀ k, w1.heap.size ≤ k → (S k ∨ okT k) ∨ W.heap.size ≤ k) := ⟨fun k hk => .inr (Nat.le_trans HW.out.size (Nat.le_trans HF1.out.size hk))⟩
 have hS1 : qAd (∀ q, (((S q ∧ q < W.heap.size) ∨ W.heap.size + 1 + 1 + 1 ≤ q) ∧ q < (afW W #[.slice A1 n1 c1, .int .i64 res, .slice A2 n2 c2, .slice (some ad) n3 c3] #[.slice A4 n4 c4, .slice A5 n5 c5] at_ #[.bool m, .slice B1 s1 d1, .slice B2 s2 d2]).heap.size) ∨ ((afW W #[.slice A1 n1 c1, .int .i64 res, .slice A2 n2 c2, .slice (some ad) n3 c3] #[.slice A4 n4 c4, .slice A5 n5 c5] at_ #[.bool m, .slice B1 s1 d1, .slice B2 s2 d2]).alloc (.cells #[.int .i64 9, .int .i64 nn, .int .i64 ty, .int .u64 bb] 51)).heap.size ≤ q → (S q ∨ okT q) ∨ W.heap.size ≤ q) := ⟨fun q hq => by
   rcases HS.out _ hq with h | h | h
   · exact .inl (.inl h.1)
   · exact .inr (by omega)
   · exact .inr (by omega)⟩
 have hs1 : qAd (∀ q, ((((S q ∧ q < W.heap.size) ∨ W.heap.size + 1 + 1 + 1 ≤ q) ∧ q < (afW W #[.slice A1 n1 c1, .int .i64 res, .slice A2 n2 c2, .slice (some ad) n3 c3] #[.slice A4 n4 c4, .slice A5 n5 c5] at_ #[.bool m, .slice B1 s1 d1, .slice B2 s2 d2]).heap.size) ∨ ((afW W #[.slice A1 n1 c1, .int .i64 res, .slice A2 n2 c2, .slice (some ad) n3 c3] #[.slice A4 n4 c4, .slice A5 n5 c5] at_ #[.bool m, .slice B1 s1 d1, .slice B2 s2 d2]).alloc (.cells #[.int .i64 9, .int .i64 nn, .int .i64 ty, .int .u64 bb] 51)).heap.size ≤ q) ∨ okT q ∧ q < W.heap.size → (S q ∨ okT q) ∨ W.heap.size ≤ q) := ⟨fun q hq => by
   rcases hq with h | h
   · exact hS1.out q h
   · exact .inl (.inr h.1)⟩
 go_region_held3 (fun W' => W'.cell? ⟨W.heap.size + 1 + 1 + 1, 0, none⟩ = some (.bool m) ∧ W'.cell? ⟨W.heap.size + 1 + 1 + 1, 1, none⟩ = some (.slice C1 st'.length q1) ∧ W'.cell? ⟨W.heap.size + 1 + 1 + 1, 2, none⟩ = some (.slice C2 tr.length q2) ∧ W'.cell? ⟨W.heap.size + 1 + 1 + 1 + 1, 1, none⟩ = some (.int .i64 nn))
  (first | go_keep | exact ⟨e0, e1, e2, ei⟩ | exact ⟨f0, f1, f2, fi⟩ | exact ⟨g0, g1, g2, gi⟩)
  (first
    | (go_at_call 87;
       refine (qDz (W := w1.drew) (okW := fun q => ((S q ∨ okT q) ∨ W.heap.size ≤ q)) (W.heap.size + 1 + 1) at_ ea h0 hat hok1.out (Kd.N_drew HN1.out) (fun q hq => hS1.out q hq.1) (Kd.N_drew HN3.out) (fun q hq => hs1.out q hq.1)).mono ?_;
       rintro e w2 ⟨r, hr, rfl, hN, hb1⟩;
       have f0 := (hb1.cell (World.block_lt_of_cell? _ _ e0)).trans e0;
       have f1 := (hb1.cell (World.block_lt_of_cell? _ _ e1)).trans e1;
       have f2 := (hb1.cell (World.block_lt_of_cell? _ _ e2)).trans e2;
       have fi := (hb1.cell (World.block_lt_of_cell? _ _ ei)).trans ei;
       have HNw := am hN;
       have HB1 := am hb1;
       have HRL := am hr;
       have HRLT := am (Kd.N_lt hN r rfl);
       clear hN hb1 hr)
    | (go_at_call 64;
       refine (qDK m C1 q1 st' C2 tr.length q2 tr _ _ w2 (Kd.F_below (Kd.N_F (Kd.N_drew HN1.out)) HB1.out) (Kd.F_below (Kd.F_bound (Kd.N_F (Kd.N_drew HN3.out))) HB1.out) HDL.out HTL.out (Kd.N_reads' HN1.out).2.1).mono ?_;
       rintro e w3 ⟨v1, v2, rfl, hR, hN, hb2⟩;
       have f0 := (hb2.cell (World.block_lt_of_cell? _ _ f0)).trans f0;
       have f1 := (hb2.cell (World.block_lt_of_cell? _ _ f1)).trans f1;
       have f2 := (hb2.cell (World.block_lt_of_cell? _ _ f2)).trans f2;
       have fi := (hb2.cell (World.block_lt_of_cell? _ _ fi)).trans fi;
       have HR := am hR;
       have HN4 := am hN;
       have HB2 := am hb2;
       clear hR hN hb2)
    | (refine Kd.N_append_step k157 (w0 := w3) 0 rfl _ _ 132 157 _ 64 rfl Tryz.underlying132 qEF rfl (by decide) (by decide) (.slice (some ⟨r, 0, none⟩) 1 1) [⟨at_ + 1, ⟨m, st', tr⟩⟩] ⟨nn, ⟨m, st', tr⟩⟩ [.int .i64 nn, .bool m, v1, v2] (fun q => ((S q ∨ okT q) ∨ W.heap.size ≤ q)) (fun q => ((S q ∨ okT q) ∨ W.heap.size ≤ q) ∧ q ≠ r) rfl rfl (FK_way (Kd.R_N (Kd.R_bound HR.out)) (fun q hq => ⟨.inr (Nat.le_trans HWS.out (Nat.le_trans HB1.out.size hq.2.1)), fun e => by { have h1 := hq.2.1; have h2 := HRLT.out; omega }⟩) HN4.out (fun q hq => hq.1.elim (fun h => ⟨hs1.out q h.1.1, by { have h1 := HRL.out; have h2 := h.2; omega }⟩) (fun h => ⟨.inr (Nat.le_trans HWS.out (Nat.le_trans HB1.out.size h)), by { have h2 := HRLT.out; omega }⟩))) (fun k hk => ⟨hk.1, by { simp [Value.ownBlock]; exact hk.2 }⟩) (fun k hk => .inr (Nat.le_trans HWS.out (Nat.le_trans HB1.out.size (Nat.le_trans HB2.out.size hk)))) (Kd.N_below HNw.out HB2.out) (Below.refl _ _) (Nat.zero_le _) (by simp) ?_;
       intro v4 w4 hN5 _ hg5 _;
       have hne5 : some (W.heap.size + 1 + 1 + 1) ≠ (Value.slice (some ⟨r, 0, none⟩) 1 1).ownBlock := by { have h1 := World.block_lt_of_cell? _ _ e0; have h2 := HRL.out; have h4 : w1.drew.heap.size = w1.heap.size := rfl; simp [Value.ownBlock] at h1 ⊢; omega };
       have hne6 : some (W.heap.size + 1 + 1 + 1 + 1) ≠ (Value.slice (some ⟨r, 0, none⟩) 1 1).ownBlock := by { have h1 := World.block_lt_of_cell? _ _ ei; have h2 := HRL.out; have h4 : w1.drew.heap.size = w1.heap.size := rfl; simp [Value.ownBlock] at h1 ⊢; omega };
       have g0 := hg5.cell f0 hne5;
       have g1 := hg5.cell f1 hne5;
       have g2 := hg5.cell f2 hne5;
       have gi := hg5.cell fi hne6;
       have HN5 := am hN5;
       have HG5 := am hg5;
       obtain ⟨A5', c5', ev4⟩ := Kd.N_slice hN5;
       subst ev4;
       clear hN5 hg5))
 go_wp2_with fail
 go_ret2
 refine ⟨_, _, _, rfl, fun _ => Kd.N_F HN5.out, ?_⟩
 refine Fr.grown (((Fr.of_below HW.out).then_ HF1.out (fun q hq => ?_)).then_ (S1 := fun _ => False) (Fr.of_below ((qA4 (Below.refl _ _)).trans (HB1.out.trans (HB2.out.mono HB1.out.size)))) (fun q hq => hq.elim)) HG5.out (fun k hk => ?_)
 ·rcases HS.out _ hq with h | h | h
  ·exact .inl h.1
  ·exact .inr (by omega)
  ·exact .inr (by omega)
 ·have h1 := HRL.out
  have h2 := HWS.out
  have h3 : r = k := by simpa [Value.ownBlock] using hk
  have h4 : w1.drew.heap.size = w1.heap.size := rfl
  omega
section
variable {P : Program} {ops : Array Oper} {rest : List Oper} {o : Oper} {a : Act} {Q : Exit → Act → World → Prop}
theorem N_append_rowsN {α : Type} (d : Kd α) {w0 W : World} (base : Nat) (hgd : o.guard = none) (s x : Operand) (t e : TypeId) (z : Value) (bytes : Nat)
  (ho : o.op = .call { callee := .builtin .append, args := #[s, x], argTypes := #[t, t] })
  (ht : P.underlying t = some (.slice e)) (hinfo : (P.info? e).map (fun i => (i.zero, i.size, i.bytes)) = some (some z, d.sz, bytes)) (hz : z.cells.size = d.sz) (hs0 : 0 < d.sz) (hb0 : 0 < bytes)
  (v : Value) (xs ys : List α) (A : Option Addr) (m c : Nat) (ok okr : Nat → Prop) (e2 b2 : Nat) (hs : a.eval s = v) (hx : a.eval x = .slice A m c)
  (HO : Kd.N d e W base ok v xs) (HR : Kd.N d e2 W b2 okr (.slice A m c) ys) (hokp : ∀ k, okr k ∧ some k ≠ (Value.slice A m c).ownBlock → ok k ∧ some k ≠ v.ownBlock) (hfresh : ∀ k, W.heap.size ≤ k → ok k)
  (HB : Below base w0 W) (hbase : base ≤ W.heap.size) (hl : (xs.length + m) * bytes ≤ 140737488355328)
  (h : ∀ v1 w1, Kd.N d e w1 base ok v1 (xs ++ ys) → Below base w0 w1 → W.grownBy w1 v.ownBlock → (v1.ownBlock = v.ownBlock ∨ ∃ b, v1.ownBlock = some b ∧ W.heap.size ≤ b) → wpList P ops Q rest (a.put o.dst v1) w1) :
  wpList P ops Q (o :: rest) a W := by
 obtain ⟨h0, rows, hlr, hR, hf⟩ := HO
 obtain ⟨_, news, hnl, hnr0, hnf⟩ := HR
 obtain ⟨hm, _, hnr⟩ := Kd.R_reads' hnr0
 subst hm
 refine Kd.R_append_rows (Kd.raw d.sz) base hgd s x t e z bytes ho ht hinfo hz hs0 hb0 v rows news A news.length c (fun _ => True) (fun _ => False) hs hx (Kd.raw_any hR) hnr (fun _ _ hk => hk) (fun _ hk => hk.elim) (fun _ _ => trivial) HB hbase (by rw [hlr]; exact hl) ?_
 intro v1 w1 hr hb hg hat
 exact h v1 w1 (Kd.N_appended h0 hlr hf hnl hnf hokp hfresh hr hg hat) hb hg hat
end
theorem cloneN_any (A : Option Addr) (n c : Nat) (tr : List S160) (ok : Nat → Prop) (W : World) (b2 : Nat) (HF : Kd.N k160 160 W b2 ok (.slice A n c) tr) (hn : n ≤ 2000000) :
  Calls Tryz.prog 90 #[.slice A n c] W fun e w' => ∃ v, e = .returned v ∧ Kd.N k160 160 w' W.heap.size (fun k => (ok k ∧ some k ≠ (Value.slice A n c).ownBlock) ∨ W.heap.size ≤ k) v tr ∧ Below W.heap.size W w' := by
 have hlen := (Kd.N_reads' HF).1.symm
 cases A with
 | none =>
  have h0 : n = 0 := by
   rcases Nat.eq_zero_or_pos n with h | h
   ·exact h
   obtain ⟨ad, had, _⟩ := (Kd.N_reads' HF).2.2.2.2 (by omega); cases had
  subst h0
  obtain rfl : tr = [] := List.length_eq_zero_iff.1 hlen
  have hq := Lib.run_eql_slice_nil (P := Tryz.prog) W 111 160 none 0 c 0 0 Tryz.underlying111
  clear HF hlen
  go_enter Tryz.func90, Tryz.ntmps90
  go_wp2
  go_ret
  exact ⟨_, rfl, Kd.N_nil _ _ _ _ _, Below.refl _ _⟩
 | some a =>
  have hq := Lib.run_eql_slice_nil (P := Tryz.prog) W 111 160 (some a) n c 0 0 Tryz.underlying111
  have hown : (W.alloc (.cells #[] 160)).ownsRow W.heap.size 160 2 (.slice (some ⟨W.heap.size, 0, none⟩) 0 0) 0 [] := World.ownsRow_made W #[] 0 (Nat.le_refl _) (by unfold maxLen; omega) rfl
  have HR : Kd.R k160 160 (W.alloc (.cells #[] 160)) W.heap.size (fun k => (ok k ∧ some k ≠ (Value.slice (some a) n c).ownBlock) ∨ W.heap.size ≤ k) (.slice (some ⟨W.heap.size, 0, none⟩) 0 0) [] := ⟨fun k hk => .inr (by cases hk; exact Nat.le_refl _), [], hown, Reps.none _ _⟩
  have HN := am (Kd.R_N HR)
  have HF' := am (Kd.N_alloc (Kd.N_bound HF) (.cells #[] 160))
  clear HF hown HR
  go_enter Tryz.func90, Tryz.ntmps90
  go_wp2_with (at_builtin; refine N_append_rowsN k160 (w0 := W) W.heap.size rfl (.tmp 5) (.tmp 6) 111 160 _ 32 rfl Tryz.underlying111 qDb rfl (by decide) (by decide) _ [] tr (some a) n c _ _ 160 b2 rfl rfl HN.out HF'.out ?h1 ?h2 ?h3 ?h4 ?h5 ?_; (case h1 => exact fun k hk => ⟨.inl ⟨hk.1.1, hk.2⟩, fun he => by cases he; exact absurd hk.1.2 (Nat.lt_irrefl _)⟩); (case h2 => intro k hk; exact .inr (by simp at hk; omega)); (case h3 => exact (Below.refl _ _).alloc (Nat.le_refl _) _); (case h4 => simp); (case h5 => simp; omega); intro v1 w1 hN hB _ _; have HN1 := am hN; have HB1 := am hB; clear hN hB)
  go_ret
  exact ⟨_, rfl, HN1.out, HB1.out⟩
theorem copiedN_any (m : Bool) (A : Option Addr) (c : Nat) (st : List Int) (B : Option Addr) (k d : Nat) (tr : List S160) (ok1 ok2 : Nat → Prop) (W : World) (H1 : Kd.F (Kd.int .i64) W ok1 A st.length st) (b2 : Nat) (H2 : Kd.N k160 160 W b2 ok2 (.slice B k d) tr) (hn : st.length ≤ 2000000) (hk : k ≤ 2000000) (hnc : st.length ≤ c) :
  Calls Tryz.prog 64 #[.agg #[.bool m, .slice A st.length c, .slice B k d]] W (qEn m st tr (fun q => ok2 q ∧ some q ≠ (Value.slice B k d).ownBlock) W) := by
 have HC1 : qAd (∀ W', Below W.heap.size W W' → Calls Tryz.prog 54 #[.slice A st.length c] W' fun e w' => ∃ v, e = .returned v ∧ Kd.R (Kd.int .i64) 3 w' W'.heap.size (fun _ => True) v st ∧ Below W'.heap.size W' w') :=
  ⟨fun W' hW => qCF A c st W' (Kd.F_now (Kd.F_below H1 hW)) hn⟩
 have HC2 : qAd (∀ W', Below W.heap.size W W' → Calls Tryz.prog 90 #[.slice B k d] W' fun e w' => ∃ v, e = .returned v ∧ Kd.N k160 160 w' W'.heap.size (fun q => ((ok2 q ∧ q < W.heap.size) ∧ some q ≠ (Value.slice B k d).ownBlock) ∨ W'.heap.size ≤ q) v tr ∧ Below W'.heap.size W' w') :=
  ⟨fun W' hW => cloneN_any B k d tr _ W' b2 (Kd.N_below (Kd.N_bound H2) hW) hk⟩
 obtain ⟨n, hn'⟩ : ∃ n, n = st.length := ⟨_, rfl⟩
 rw [← hn'] at HC1 ⊢
 clear H1 H2 hn hk hnc hn'
 obtain ⟨WB, hWB⟩ : ∃ WB, WB = (W.alloc (.cells #[.bool m, .slice A n c, .slice B k d] 113)).alloc (.cells #[.bool false, .slice none 0 0, .slice none 0 0] 113) := ⟨_, rfl⟩
 have hBB : Below W.heap.size W WB := hWB ▸ ((Below.refl _ _).alloc (Nat.le_refl _) _).alloc (by simp) _
 have hz : WB.heap.size = W.heap.size + 1 + 1 := by rw [hWB]; simp
 have b0 : WB.heap[W.heap.size]? = some (.cells #[.bool m, .slice A n c, .slice B k d] 113 (0, 0)) := by rw [hWB]; exact qAk (qBb W _) (qAg (Below.refl _ _) _)
 have b1 : WB.heap[W.heap.size + 1]? = some (.cells #[.bool false, .slice none 0 0, .slice none 0 0] 113 (0, 0)) := by rw [hWB]; simpa using qBb (W.alloc (.cells #[.bool m, .slice A n c, .slice B k d] 113)) _
 have HWB := am hWB
 have HBB := am hBB
 have e0 := (qAa b0 0).trans rfl
 have e1 := (qAa b0 1).trans rfl
 have e2 := (qAa b0 2).trans rfl
 go_enter Tryz.func64, Tryz.ntmps64
 go_wp2_with fail
 rw [← hWB]
 clear hWB
 go_region_held3 (fun W' => W'.cell? ⟨W.heap.size, 0, none⟩ = some (.bool m) ∧ W'.cell? ⟨W.heap.size, 1, none⟩ = some (.slice A n c) ∧ W'.cell? ⟨W.heap.size, 2, none⟩ = some (.slice B k d))
  (first | go_keep | exact ⟨g0, g1, g2⟩ | exact ⟨f0, f1, f2⟩ | exact ⟨e0, e1, e2⟩)
  (first
    | (go_at_call 54;
       refine (HC1.out _ (qA4 HBB.out)).mono ?_;
       rintro e w1 ⟨v1, rfl, hR1, hb1⟩;
       have hb1' : Below WB.heap.size WB w1 := (qA4 (Below.refl _ _)).trans hb1;
       have b0' := qAk b0 hb1';
       have b1' := qAk b1 hb1';
       have f0 := (qAa b0' 0).trans rfl;
       have f1 := (qAa b0' 1).trans rfl;
       have f2 := (qAa b0' 2).trans rfl;
       have hBB1 := Below.trans hBB (hb1'.mono (by omega));
       have HBB1 := am hBB1;
       obtain ⟨A1, c1, ev1⟩ := Kd.R_slice hR1;
       subst ev1;
       have HR1 := am hR1;
       have HB1 := am hb1';
       clear hR1 hb1 hb1' hBB1)
    | (go_at_call 90;
       refine (HC2.out _ HBB1.out).mono ?_;
       rintro e w2 ⟨v2, rfl, hN2, hb2⟩;
       have b0'' := qAk b0' hb2;
       have b1'' := qAk b1' hb2;
       have g0 := (qAa b0'' 0).trans rfl;
       have g1 := (qAa b0'' 1).trans rfl;
       have g2 := (qAa b0'' 2).trans rfl;
       have hcz0 := (qAa b1'' 0).trans rfl;
       have hcz1 := (qAa b1'' 1).trans rfl;
       have hcz2 := (qAa b1'' 2).trans rfl;
       have hfz0 := qAb b1'' 0;
       have hfz1 := qAb b1'' 1;
       have hfz2 := qAb b1'' 2;
       obtain ⟨A2, c2, ev2⟩ := Kd.N_slice hN2;
       subst ev2;
       have HN2 := am hN2;
       have HB2 := am hb2;
       clear hN2 hb2))
 have hv1a := Kd.R_base HR1.out
 have hv1b := Kd.R_lt HR1.out
 have hz' : WB.drew.heap.size = W.heap.size + 1 + 1 := hz
 have hs2 := HB2.out.size
 have hs1 : W.heap.size + 1 < w1.heap.size := by
  rcases Nat.lt_or_ge (W.heap.size + 1) w1.heap.size with h | h
  ·exact h
  rw [Array.getElem?_eq_none h] at b1'; cases b1'
 go_wp2
 refine bodyPost_ret (results_cell_row rfl _ _ (W.heap.size + 1) 113 #[.bool m, .slice A1 st.length c1, .slice A2 tr.length c2] (0, 0) _ rfl (by refine qAQ (cs := #[.bool m, .slice A1 st.length c1, .slice none 0 0]) ?_ 2 _ rfl; refine qAQ (cs := #[.bool m, .slice none 0 0, .slice none 0 0]) ?_ 1 _ rfl; refine qAQ (cs := #[.bool false, .slice none 0 0, .slice none 0 0]) ?_ 0 _ rfl; exact b1'') Tryz.underlying113 rfl (by kernel_rfl)) rfl ?_
 generalize hWf : ((w2.setCell _ _).setCell _ _).setCell _ _ = Wf
 have hE : ∀ q, q ≠ W.heap.size + 1 → Wf.heap[q]? = w2.heap[q]? := fun q hq => by
  rw [← hWf, Below.heap_setCell _ _ _ _ hq, Below.heap_setCell _ _ _ _ hq, Below.heap_setCell _ _ _ _ hq]
 have hBf : Below W.heap.size W Wf := by
  rw [← hWf]
  exact qAi (qAi (qAi (HBB1.out.trans (HB2.out.mono (by omega))) (by simp)) (by simp)) (by simp)
 refine ⟨_, _, rfl, ?_, ?_, hBf⟩
 ·have h1 := Kd.R_lower (Kd.R_below (Kd.R_bound HR1.out) HB2.out) (show W.heap.size ≤ WB.drew.heap.size by omega)
  exact Kd.R_mono (Kd.R_step h1 (fun q hq _ => hE q (by omega))) (fun _ _ => trivial)
 ·have h2 := Kd.N_lower HN2.out (show W.heap.size ≤ w1.heap.size by omega)
  refine Kd.N_mono (Kd.N_step h2 (fun q hq _ => hE q (by omega))) (fun q hq => ⟨?_, fun he => ?_⟩)
  ·rcases hq with h | h
   ·exact .inl ⟨h.1.1, h.2⟩
   ·exact .inr (by omega)
  ·have := hv1a q he.symm; have := hv1b q he.symm; omega
end Q
end
end Go.Proofs.YtfddibbignedkaaGreatDoor
