/- Chapter 14: the words, the contracts of code.Encode, Text and of the document's. -/
import Derived.Test.YtfddibbignedkaaGreatDoorA1
import Derived.Deep.RegionLaw
import Derived.BigRegion
import Derived.RangeFuncNested
import Derived.RangeFuncBound
import Derived.RangeFuncCalls
import Derived.RangeFuncLeaves
import Derived.Shelf.Abstract
import Derived.WalkKit
import Derived.OwnWalkIn
import Derived.TacticsInMore
import Derived.LoopNIn
import Derived.LoopIn
import Derived.RangeFuncBox
import Derived.ChangeSlices
import Derived.Deep.QuietTactic
import Derived.BigQuiet
set_option maxHeartbeats 8000000
set_option maxRecDepth 100000
set_option linter.unusedVariables false
set_option linter.unusedSimpArgs false
namespace Go.Proofs.YtfddibbignedkaaGreatDoor
section
namespace Q
open Go.RowKit YA YC YB
theorem plain_1 {g : Nat} {m : Bool} {st : List Int} {tr : List S160} {S okT : Nat → Prop} {W : World} (n ty bb : Int) (A1 A2 A3 A4 A5 : Option Addr) (n1 c1 n2 c2 n3 c3 n4 c4 n5 c5 : Nat) (res : Int) (H : ShO W g m st tr S okT) (hl : st.length ≤ 2000000) (hfr : ∀ k, W.heap.size ≤ k → S k) (hkt : ∀ k, okT k → k < W.heap.size) :
  Calls Tryz.prog 89 #[.agg #[.slice A1 n1 c1, .int .i64 res, .slice A2 n2 c2, .slice A3 n3 c3], .agg #[.slice A4 n4 c4, .slice A5 n5 c5], .agg #[.int .i64 1, .int .i64 n, .int .i64 ty, .int .u64 bb], .pointer (some ⟨g, 0, none⟩)] W fun e w' => e = .returned (.bool (true)) ∧ ShO w' g m (st ++ [ty]) tr S okT ∧ Fr W w' S := by
 have hgl : g < W.heap.size := H.lt
 obtain ⟨WB, hWB⟩ : ∃ WB, WB = plW W g #[.slice A1 n1 c1, .int .i64 res, .slice A2 n2 c2, .slice A3 n3 c3] #[.slice A4 n4 c4, .slice A5 n5 c5] #[.int .i64 1, .int .i64 n, .int .i64 ty, .int .u64 bb] #[.slice none 0 0, .slice none 0 0, .slice A2 n2 c2, .slice A2 n2 c2, .slice A5 n5 c5, .slice A5 n5 c5] := ⟨_, rfl⟩
 have hP := qBm W g #[.slice A1 n1 c1, .int .i64 res, .slice A2 n2 c2, .slice A3 n3 c3] #[.slice A4 n4 c4, .slice A5 n5 c5] #[.int .i64 1, .int .i64 n, .int .i64 ty, .int .u64 bb] #[.slice none 0 0, .slice none 0 0, .slice A2 n2 c2, .slice A2 n2 c2, .slice A5 n5 c5, .slice A5 n5 c5]
 have hB := qAM W g #[.slice A1 n1 c1, .int .i64 res, .slice A2 n2 c2, .slice A3 n3 c3] #[.slice A4 n4 c4, .slice A5 n5 c5] #[.int .i64 1, .int .i64 n, .int .i64 ty, .int .u64 bb] #[.slice none 0 0, .slice none 0 0, .slice A2 n2 c2, .slice A2 n2 c2, .slice A5 n5 c5, .slice A5 n5 c5]
 have hsz := qAQ W g #[.slice A1 n1 c1, .int .i64 res, .slice A2 n2 c2, .slice A3 n3 c3] #[.slice A4 n4 c4, .slice A5 n5 c5] #[.int .i64 1, .int .i64 n, .int .i64 ty, .int .u64 bb] #[.slice none 0 0, .slice none 0 0, .slice A2 n2 c2, .slice A2 n2 c2, .slice A5 n5 c5, .slice A5 n5 c5]
 rw [← hWB] at hP hB hsz
 have hH := H.below hB
 obtain ⟨S1, hS1⟩ : ∃ S1, S1 = (fun q => (S q ∧ q < W.heap.size) ∨ WB.heap.size ≤ q) := ⟨_, rfl⟩
 rw [← hS1] at hH
 have hn1 : ∀ q, W.heap.size ≤ q → q < W.heap.size + 6 → ¬ S1 q := by rw [hS1]; intro q h1 h2 h3; rcases h3 with ⟨_, h⟩ | h <;> omega
 have hf1 : ∀ k, WB.heap.size ≤ k → S1 k := by rw [hS1]; intro k hk; exact .inr hk
 have hs1 : ∀ k, S1 k → S k := by rw [hS1]; intro k hk; rcases hk with h | h; exact h.1; exact hfr k (by omega)
 have HE : qAi (∀ w' v st', ShO w' g m st' tr S1 okT → Fr WB w' S1 → ShO (w'.setCell ⟨W.heap.size + 1 + 1 + 1 + 1, 0, none⟩ v) g m st' tr S okT ∧ Fr W (w'.setCell ⟨W.heap.size + 1 + 1 + 1 + 1, 0, none⟩ v) S) :=
  ⟨fun w' v st' h k => ⟨(ShO.far h (hn1 (W.heap.size + 1 + 1 + 1 + 1) (by omega) (by omega)) (fun e => by have := hkt (W.heap.size + 1 + 1 + 1 + 1) e; omega) v).mono hs1 (fun _ h => h), (Fr.set ((Fr.of_below hB).then_ k (fun q hq => .inl (hs1 q hq))) (.inr (show W.heap.size ≤ W.heap.size + 1 + 1 + 1 + 1 by omega)) v)⟩⟩
 have HL := am hl
 have HN1 := am hn1
 have HF1 := am hf1
 have HP := am hP
 clear H hl hS1 hn1 hf1 hs1 hB hsz
 go_enter Tryz.func89, Tryz.ntmps89
 go_wp2_with fail
 simp only [plW] at hWB
 rw [← hWB]
 clear hWB
 obtain ⟨u1, u2, hV⟩ := hH
 have HV := am hV
 have eg1 := (qAc hV.1 1).trans rfl
 clear hV
 have xi2 := (qAc HP.out.i 2).trans rfl
 have xs := (qAc HP.out.s 0).trans rfl
 have yg1 := qAz (.cells #[.int .i64 (ty)] 3) eg1
 refine wp_region_noPanic ?_
 refine wp_region_held_drew (S := fun W' => W'.cell? ⟨W.heap.size + 1 + 1 + 1, 0, none⟩ = some (.pointer (some ⟨g, 0, none⟩)) ∧ W'.cell? ⟨W.heap.size + 1 + 1, 2, none⟩ = some (.int .i64 ty)) (by kernel_rfl) ⟨xs, xi2⟩ (fun hHeld => ?_)
 refine hT 0 ?_
 refine hT 1 ?_
 refine hT 2 ?_
 refine hT 3 ?_
 refine hT 5 ?_
 refine hT 6 ?_
 refine hT 7 ?_
 refine wpAnyH_ready (rs := [4, 8]) (by kernel_rfl) (by simp) ?_
 refine AllReadyH.cons (o := _) rfl (fun K hK => ?_) ?_
 ·go_simp
  refine hK.out _ _ ⟨xs, xi2⟩ (fun hHeld => ?_)
  clear hK K
  try simp only [Act.put, List.getElem_toArray, List.getElem_cons_zero, List.getElem_cons_succ, List.setIfInBounds_toArray, List.set_cons_zero, List.set_cons_succ]
  refine wpAnyH_ready (rs := [8]) (by kernel_rfl) (by simp) ?_
  refine AllReadyH.cons (o := _) rfl (fun K hK => ?_) ?_
  ·go_simp
   refine hK.out _ _ ⟨qAz (.cells #[.int .i64 (ty)] 3) xs, qAz (.cells #[.int .i64 (ty)] 3) xi2⟩ (fun hHeld => ?_)
   clear hK K
   try simp only [Act.put, List.getElem_toArray, List.getElem_cons_zero, List.getElem_cons_succ, List.setIfInBounds_toArray, List.set_cons_zero, List.set_cons_succ]
   refine wpAnyH_ready (rs := [9]) (by kernel_rfl) (by simp) ?_
   refine AllReadyH.cons (o := _) rfl (fun K hK => ?_) ?_
   ·refine qAD HV.out.drew (ty) rfl _ _ rfl rfl rfl HF1.out HL.out ?_
    intro A6 c6 w3 h5 h5b h6 h7
    have hFF := Fr.trans (Fr.of_below (qAr (Below.refl _ _))) h5b
    have H6 := am h6
    have H7 := am (Fr.trans (Fr.of_below (qAr (Below.refl _ _))) h7)
    have hP3 := HP.out.fr hFF HN1.out
    have xs' := hFF.cell xs (HN1.out (W.heap.size + 1 + 1 + 1) (by omega) (by omega))
    have xi2' := hFF.cell xi2 (HN1.out (W.heap.size + 1 + 1) (by omega) (by omega))
    have xr := (qAc hP3.r 0).trans rfl
    have xrf := qAm hP3.r 0
    have eg3 := (qAc h5 1).trans rfl
    have ef3 := qAm h5 1
    clear h5 h5b h6 h7 hFF
    refine hK.out _ _ ⟨xs', xi2'⟩ (fun hHeld => ?_)
    clear hK K
    try simp only [Act.put, List.getElem_toArray, List.getElem_cons_zero, List.getElem_cons_succ, List.setIfInBounds_toArray, List.set_cons_zero, List.set_cons_succ]
    refine hT 10 ?_
    refine hT 11 ?_
    refine wpAnyH_ready (rs := [12]) (by kernel_rfl) (by simp) ?_
    refine AllReadyH.cons (o := _) rfl (fun K hK => ?_) ?_
    ·go_simp
     refine hK.out _ _ ⟨qA9 xs' _ _ (HN1.out (W.heap.size + 1 + 1 + 1) (by omega) (by omega)) HV.out.2.1, qA9 xi2' _ _ (HN1.out (W.heap.size + 1 + 1) (by omega) (by omega)) HV.out.2.1⟩ (fun hHeld => ?_)
     clear hK K
     try simp only [Act.put, List.getElem_toArray, List.getElem_cons_zero, List.getElem_cons_succ, List.setIfInBounds_toArray, List.set_cons_zero, List.set_cons_succ]
     refine wpAnyH_done (by kernel_rfl) ?_ _
     refine NoPanic.normal ?_
     go_wp2
     refine bodyPost_ret (qA5 rfl _ _ ⟨W.heap.size + 1 + 1 + 1 + 1, 0, none⟩ true rfl (qBp xr (by intro e; injection e with e; omega))) rfl ?_
     exact ⟨rfl, HE.out _ _ _ H6.out H7.out⟩
    exact AllReadyH.nil
   exact AllReadyH.nil
  exact AllReadyH.nil
 refine AllReadyH.cons (o := _) rfl (fun K hK => ?_) ?_
 ·go_simp
  refine hK.out _ _ ⟨qAz (.cells #[.int .i64 (ty)] 3) xs, qAz (.cells #[.int .i64 (ty)] 3) xi2⟩ (fun hHeld => ?_)
  clear hK K
  try simp only [Act.put, List.getElem_toArray, List.getElem_cons_zero, List.getElem_cons_succ, List.setIfInBounds_toArray, List.set_cons_zero, List.set_cons_succ]
  refine wpAnyH_ready (rs := [4]) (by kernel_rfl) (by simp) ?_
  refine AllReadyH.cons (o := _) rfl (fun K hK => ?_) ?_
  ·go_simp
   refine hK.out _ _ ⟨qAz (.cells #[.int .i64 (ty)] 3) xs, qAz (.cells #[.int .i64 (ty)] 3) xi2⟩ (fun hHeld => ?_)
   clear hK K
   try simp only [Act.put, List.getElem_toArray, List.getElem_cons_zero, List.getElem_cons_succ, List.setIfInBounds_toArray, List.set_cons_zero, List.set_cons_succ]
   refine wpAnyH_ready (rs := [9]) (by kernel_rfl) (by simp) ?_
   refine AllReadyH.cons (o := _) rfl (fun K hK => ?_) ?_
   ·refine qAD HV.out.drew (ty) rfl _ _ rfl rfl rfl HF1.out HL.out ?_
    intro A6 c6 w3 h5 h5b h6 h7
    have hFF := Fr.trans (Fr.of_below (qAr (Below.refl _ _))) h5b
    have H6 := am h6
    have H7 := am (Fr.trans (Fr.of_below (qAr (Below.refl _ _))) h7)
    have hP3 := HP.out.fr hFF HN1.out
    have xs' := hFF.cell xs (HN1.out (W.heap.size + 1 + 1 + 1) (by omega) (by omega))
    have xi2' := hFF.cell xi2 (HN1.out (W.heap.size + 1 + 1) (by omega) (by omega))
    have xr := (qAc hP3.r 0).trans rfl
    have xrf := qAm hP3.r 0
    have eg3 := (qAc h5 1).trans rfl
    have ef3 := qAm h5 1
    clear h5 h5b h6 h7 hFF
    refine hK.out _ _ ⟨xs', xi2'⟩ (fun hHeld => ?_)
    clear hK K
    try simp only [Act.put, List.getElem_toArray, List.getElem_cons_zero, List.getElem_cons_succ, List.setIfInBounds_toArray, List.set_cons_zero, List.set_cons_succ]
    refine hT 10 ?_
    refine hT 11 ?_
    refine wpAnyH_ready (rs := [12]) (by kernel_rfl) (by simp) ?_
    refine AllReadyH.cons (o := _) rfl (fun K hK => ?_) ?_
    ·go_simp
     refine hK.out _ _ ⟨qA9 xs' _ _ (HN1.out (W.heap.size + 1 + 1 + 1) (by omega) (by omega)) HV.out.2.1, qA9 xi2' _ _ (HN1.out (W.heap.size + 1 + 1) (by omega) (by omega)) HV.out.2.1⟩ (fun hHeld => ?_)
     clear hK K
     try simp only [Act.put, List.getElem_toArray, List.getElem_cons_zero, List.getElem_cons_succ, List.setIfInBounds_toArray, List.set_cons_zero, List.set_cons_succ]
     refine wpAnyH_done (by kernel_rfl) ?_ _
     refine NoPanic.normal ?_
     go_wp2
     refine bodyPost_ret (qA5 rfl _ _ ⟨W.heap.size + 1 + 1 + 1 + 1, 0, none⟩ true rfl (qBp xr (by intro e; injection e with e; omega))) rfl ?_
     exact ⟨rfl, HE.out _ _ _ H6.out H7.out⟩
    exact AllReadyH.nil
   exact AllReadyH.nil
  exact AllReadyH.nil
 exact AllReadyH.nil
theorem plain_2 {g : Nat} {m : Bool} {st : List Int} {tr : List S160} {S okT : Nat → Prop} {W : World} (n ty bb : Int) (A1 A2 A3 A4 A5 : Option Addr) (n1 c1 n2 c2 n3 c3 n4 c4 n5 c5 : Nat) (res : Int) (ls : List Int) (hC : Kd.C (Kd.int .i64) W A2 n2 ls) (hoff : ∀ ad, A2 = some ad → ∀ i, ¬ S (ad.add i).block) (hn0 : 0 ≤ n) (hn : n < n2) (H : ShO W g m st tr S okT) (hl : st.length ≤ 2000000) (hfr : ∀ k, W.heap.size ≤ k → S k) (hkt : ∀ k, okT k → k < W.heap.size) :
  Calls Tryz.prog 89 #[.agg #[.slice A1 n1 c1, .int .i64 res, .slice A2 n2 c2, .slice A3 n3 c3], .agg #[.slice A4 n4 c4, .slice A5 n5 c5], .agg #[.int .i64 2, .int .i64 n, .int .i64 ty, .int .u64 bb], .pointer (some ⟨g, 0, none⟩)] W fun e w' => e = .returned (.bool (true)) ∧ ShO w' g m (st ++ [ls.getD n.toNat 0]) tr S okT ∧ Fr W w' S := by
 obtain ⟨ad, had, hel0⟩ := qDi hC n.toNat (by omega)
 have hnE0 := hoff ad had n.toNat
 obtain ⟨y, hy⟩ : ∃ y, y = ls.getD n.toNat 0 := ⟨_, rfl⟩
 rw [← hy] at hel0 ⊢
 clear hy
 have hgl : g < W.heap.size := H.lt
 obtain ⟨WB, hWB⟩ : ∃ WB, WB = plW W g #[.slice A1 n1 c1, .int .i64 res, .slice A2 n2 c2, .slice A3 n3 c3] #[.slice A4 n4 c4, .slice A5 n5 c5] #[.int .i64 2, .int .i64 n, .int .i64 ty, .int .u64 bb] #[.slice none 0 0, .slice none 0 0, .slice A2 n2 c2, .slice A2 n2 c2, .slice A5 n5 c5, .slice A5 n5 c5] := ⟨_, rfl⟩
 have hP := qBm W g #[.slice A1 n1 c1, .int .i64 res, .slice A2 n2 c2, .slice A3 n3 c3] #[.slice A4 n4 c4, .slice A5 n5 c5] #[.int .i64 2, .int .i64 n, .int .i64 ty, .int .u64 bb] #[.slice none 0 0, .slice none 0 0, .slice A2 n2 c2, .slice A2 n2 c2, .slice A5 n5 c5, .slice A5 n5 c5]
 have hB := qAM W g #[.slice A1 n1 c1, .int .i64 res, .slice A2 n2 c2, .slice A3 n3 c3] #[.slice A4 n4 c4, .slice A5 n5 c5] #[.int .i64 2, .int .i64 n, .int .i64 ty, .int .u64 bb] #[.slice none 0 0, .slice none 0 0, .slice A2 n2 c2, .slice A2 n2 c2, .slice A5 n5 c5, .slice A5 n5 c5]
 have hsz := qAQ W g #[.slice A1 n1 c1, .int .i64 res, .slice A2 n2 c2, .slice A3 n3 c3] #[.slice A4 n4 c4, .slice A5 n5 c5] #[.int .i64 2, .int .i64 n, .int .i64 ty, .int .u64 bb] #[.slice none 0 0, .slice none 0 0, .slice A2 n2 c2, .slice A2 n2 c2, .slice A5 n5 c5, .slice A5 n5 c5]
 rw [← hWB] at hP hB hsz
 have hH := H.below hB
 obtain ⟨S1, hS1⟩ : ∃ S1, S1 = (fun q => (S q ∧ q < W.heap.size) ∨ WB.heap.size ≤ q) := ⟨_, rfl⟩
 rw [← hS1] at hH
 have hn1 : ∀ q, W.heap.size ≤ q → q < W.heap.size + 6 → ¬ S1 q := by rw [hS1]; intro q h1 h2 h3; rcases h3 with ⟨_, h⟩ | h <;> omega
 have hf1 : ∀ k, WB.heap.size ≤ k → S1 k := by rw [hS1]; intro k hk; exact .inr hk
 have hs1 : ∀ k, S1 k → S k := by rw [hS1]; intro k hk; rcases hk with h | h; exact h.1; exact hfr k (by omega)
 have hel : WB.cell? (ad.add n.toNat) = some (.int .i64 y) := (hB.cell (World.block_lt_of_cell? _ _ hel0)).trans hel0
 have hnE : ¬ S1 (ad.add n.toNat).block := by rw [hS1]; intro h; rcases h with h | h; exact hnE0 h.1; have := World.block_lt_of_cell? _ _ hel0; omega
 have HE : qAi (∀ w' v st', ShO w' g m st' tr S1 okT → Fr WB w' S1 → ShO (w'.setCell ⟨W.heap.size + 1 + 1 + 1 + 1, 0, none⟩ v) g m st' tr S okT ∧ Fr W (w'.setCell ⟨W.heap.size + 1 + 1 + 1 + 1, 0, none⟩ v) S) :=
  ⟨fun w' v st' h k => ⟨(ShO.far h (hn1 (W.heap.size + 1 + 1 + 1 + 1) (by omega) (by omega)) (fun e => by have := hkt (W.heap.size + 1 + 1 + 1 + 1) e; omega) v).mono hs1 (fun _ h => h), (Fr.set ((Fr.of_below hB).then_ k (fun q hq => .inl (hs1 q hq))) (.inr (show W.heap.size ≤ W.heap.size + 1 + 1 + 1 + 1 by omega)) v)⟩⟩
 have HL := am hl
 have HN1 := am hn1
 have HF1 := am hf1
 have HP := am hP
 clear H hl hS1 hn1 hf1 hs1 hB hsz
 clear hC hoff
 subst had
 go_enter Tryz.func89, Tryz.ntmps89
 go_wp2_with fail
 simp only [plW] at hWB
 rw [← hWB]
 clear hWB
 obtain ⟨u1, u2, hV⟩ := hH
 have HV := am hV
 have eg1 := (qAc hV.1 1).trans rfl
 clear hV
 have xi0 := (qAc HP.out.i 0).trans rfl
 have xi1 := (qAc HP.out.i 1).trans rfl
 have xs := (qAc HP.out.s 0).trans rfl
 have xl := (qAc HP.out.l 2).trans rfl
 have hd : decide (n ≥ (n2 : Int)) = false := decide_eq_false (by omega)
 go_region_held3 (fun W' => W'.cell? ⟨W.heap.size + 1 + 1, 0, none⟩ = some (.int .i64 2) ∧ W'.cell? ⟨W.heap.size + 1 + 1, 1, none⟩ = some (.int .i64 n) ∧ W'.cell? ⟨W.heap.size + 1 + 1 + 1 + 1 + 1, 2, none⟩ = some (.slice (some ad) n2 c2))
  (first | exact ⟨xi0, xi1, xl⟩) (fail)
 go_wp2_with fail
 have yg1 := qAz (.cells #[.int .i64 (y)] 3) eg1
 refine wp_region_noPanic ?_
 refine wp_region_held_drew (S := fun W' => W'.cell? ⟨W.heap.size + 1 + 1 + 1, 0, none⟩ = some (.pointer (some ⟨g, 0, none⟩)) ∧ W'.cell? ⟨W.heap.size + 1 + 1, 0, none⟩ = some (.int .i64 2) ∧ W'.cell? ⟨W.heap.size + 1 + 1, 1, none⟩ = some (.int .i64 n) ∧ W'.cell? ⟨W.heap.size + 1 + 1 + 1 + 1 + 1, 2, none⟩ = some (.slice (some ad) n2 c2) ∧ W'.cell? (ad.add n.toNat) = some (.int .i64 y)) (by kernel_rfl) ⟨xs, xi0, xi1, xl, hel⟩ (fun hHeld => ?_)
 refine hT 0 ?_
 refine hT 1 ?_
 refine hT 2 ?_
 refine hT 3 ?_
 refine hT 5 ?_
 refine hT 6 ?_
 refine hT 7 ?_
 refine hT 8 ?_
 refine hT 9 ?_
 refine hT 10 ?_
 refine hT 11 ?_
 refine hT 12 ?_
 refine wpAnyH_ready (rs := [4, 13]) (by kernel_rfl) (by simp) ?_
 refine AllReadyH.cons (o := _) rfl (fun K hK => ?_) ?_
 ·go_simp
  refine hK.out _ _ ⟨xs, xi0, xi1, xl, hel⟩ (fun hHeld => ?_)
  clear hK K
  try simp only [Act.put, List.getElem_toArray, List.getElem_cons_zero, List.getElem_cons_succ, List.setIfInBounds_toArray, List.set_cons_zero, List.set_cons_succ]
  refine wpAnyH_ready (rs := [13]) (by kernel_rfl) (by simp) ?_
  refine AllReadyH.cons (o := _) rfl (fun K hK => ?_) ?_
  ·go_simp
   refine hK.out _ _ ⟨qAz (.cells #[.int .i64 (y)] 3) xs, qAz (.cells #[.int .i64 (y)] 3) xi0, qAz (.cells #[.int .i64 (y)] 3) xi1, qAz (.cells #[.int .i64 (y)] 3) xl, qAz (.cells #[.int .i64 (y)] 3) hel⟩ (fun hHeld => ?_)
   clear hK K
   try simp only [Act.put, List.getElem_toArray, List.getElem_cons_zero, List.getElem_cons_succ, List.setIfInBounds_toArray, List.set_cons_zero, List.set_cons_succ]
   refine wpAnyH_ready (rs := [14]) (by kernel_rfl) (by simp) ?_
   refine AllReadyH.cons (o := _) rfl (fun K hK => ?_) ?_
   ·refine qAD HV.out.drew.drew (y) rfl _ _ rfl rfl rfl HF1.out HL.out ?_
    intro A6 c6 w3 h5 h5b h6 h7
    have hFF := Fr.trans (Fr.of_below (qAr (qAr (Below.refl _ _)))) h5b
    have H6 := am h6
    have H7 := am (Fr.trans (Fr.of_below (qAr (qAr (Below.refl _ _)))) h7)
    have hP3 := HP.out.fr hFF HN1.out
    have xs' := hFF.cell xs (HN1.out (W.heap.size + 1 + 1 + 1) (by omega) (by omega))
    have xi0' := hFF.cell xi0 (HN1.out (W.heap.size + 1 + 1) (by omega) (by omega))
    have xi1' := hFF.cell xi1 (HN1.out (W.heap.size + 1 + 1) (by omega) (by omega))
    have xl' := hFF.cell xl (HN1.out (W.heap.size + 1 + 1 + 1 + 1 + 1) (by omega) (by omega))
    have hel' := hFF.cell hel hnE
    have xr := (qAc hP3.r 0).trans rfl
    have xrf := qAm hP3.r 0
    have eg3 := (qAc h5 1).trans rfl
    have ef3 := qAm h5 1
    clear h5 h5b h6 h7 hFF
    refine hK.out _ _ ⟨xs', xi0', xi1', xl', hel'⟩ (fun hHeld => ?_)
    clear hK K
    try simp only [Act.put, List.getElem_toArray, List.getElem_cons_zero, List.getElem_cons_succ, List.setIfInBounds_toArray, List.set_cons_zero, List.set_cons_succ]
    refine hT 15 ?_
    refine hT 16 ?_
    refine wpAnyH_ready (rs := [17]) (by kernel_rfl) (by simp) ?_
    refine AllReadyH.cons (o := _) rfl (fun K hK => ?_) ?_
    ·go_simp
     refine hK.out _ _ ⟨qA9 xs' _ _ (HN1.out (W.heap.size + 1 + 1 + 1) (by omega) (by omega)) HV.out.2.1, qA9 xi0' _ _ (HN1.out (W.heap.size + 1 + 1) (by omega) (by omega)) HV.out.2.1, qA9 xi1' _ _ (HN1.out (W.heap.size + 1 + 1) (by omega) (by omega)) HV.out.2.1, qA9 xl' _ _ (HN1.out (W.heap.size + 1 + 1 + 1 + 1 + 1) (by omega) (by omega)) HV.out.2.1, qA9 hel' _ _ hnE HV.out.2.1⟩ (fun hHeld => ?_)
     clear hK K
     try simp only [Act.put, List.getElem_toArray, List.getElem_cons_zero, List.getElem_cons_succ, List.setIfInBounds_toArray, List.set_cons_zero, List.set_cons_succ]
     refine wpAnyH_done (by kernel_rfl) ?_ _
     refine NoPanic.normal ?_
     go_wp2
     refine bodyPost_ret (qA5 rfl _ _ ⟨W.heap.size + 1 + 1 + 1 + 1, 0, none⟩ true rfl (qBp xr (by intro e; injection e with e; omega))) rfl ?_
     exact ⟨rfl, HE.out _ _ _ H6.out H7.out⟩
    exact AllReadyH.nil
   exact AllReadyH.nil
  exact AllReadyH.nil
 refine AllReadyH.cons (o := _) rfl (fun K hK => ?_) ?_
 ·go_simp
  refine hK.out _ _ ⟨qAz (.cells #[.int .i64 (y)] 3) xs, qAz (.cells #[.int .i64 (y)] 3) xi0, qAz (.cells #[.int .i64 (y)] 3) xi1, qAz (.cells #[.int .i64 (y)] 3) xl, qAz (.cells #[.int .i64 (y)] 3) hel⟩ (fun hHeld => ?_)
  clear hK K
  try simp only [Act.put, List.getElem_toArray, List.getElem_cons_zero, List.getElem_cons_succ, List.setIfInBounds_toArray, List.set_cons_zero, List.set_cons_succ]
  refine wpAnyH_ready (rs := [4]) (by kernel_rfl) (by simp) ?_
  refine AllReadyH.cons (o := _) rfl (fun K hK => ?_) ?_
  ·go_simp
   refine hK.out _ _ ⟨qAz (.cells #[.int .i64 (y)] 3) xs, qAz (.cells #[.int .i64 (y)] 3) xi0, qAz (.cells #[.int .i64 (y)] 3) xi1, qAz (.cells #[.int .i64 (y)] 3) xl, qAz (.cells #[.int .i64 (y)] 3) hel⟩ (fun hHeld => ?_)
   clear hK K
   try simp only [Act.put, List.getElem_toArray, List.getElem_cons_zero, List.getElem_cons_succ, List.setIfInBounds_toArray, List.set_cons_zero, List.set_cons_succ]
   refine wpAnyH_ready (rs := [14]) (by kernel_rfl) (by simp) ?_
   refine AllReadyH.cons (o := _) rfl (fun K hK => ?_) ?_
   ·refine qAD HV.out.drew.drew (y) rfl _ _ rfl rfl rfl HF1.out HL.out ?_
    intro A6 c6 w3 h5 h5b h6 h7
    have hFF := Fr.trans (Fr.of_below (qAr (qAr (Below.refl _ _)))) h5b
    have H6 := am h6
    have H7 := am (Fr.trans (Fr.of_below (qAr (qAr (Below.refl _ _)))) h7)
    have hP3 := HP.out.fr hFF HN1.out
    have xs' := hFF.cell xs (HN1.out (W.heap.size + 1 + 1 + 1) (by omega) (by omega))
    have xi0' := hFF.cell xi0 (HN1.out (W.heap.size + 1 + 1) (by omega) (by omega))
    have xi1' := hFF.cell xi1 (HN1.out (W.heap.size + 1 + 1) (by omega) (by omega))
    have xl' := hFF.cell xl (HN1.out (W.heap.size + 1 + 1 + 1 + 1 + 1) (by omega) (by omega))
    have hel' := hFF.cell hel hnE
    have xr := (qAc hP3.r 0).trans rfl
    have xrf := qAm hP3.r 0
    have eg3 := (qAc h5 1).trans rfl
    have ef3 := qAm h5 1
    clear h5 h5b h6 h7 hFF
    refine hK.out _ _ ⟨xs', xi0', xi1', xl', hel'⟩ (fun hHeld => ?_)
    clear hK K
    try simp only [Act.put, List.getElem_toArray, List.getElem_cons_zero, List.getElem_cons_succ, List.setIfInBounds_toArray, List.set_cons_zero, List.set_cons_succ]
    refine hT 15 ?_
    refine hT 16 ?_
    refine wpAnyH_ready (rs := [17]) (by kernel_rfl) (by simp) ?_
    refine AllReadyH.cons (o := _) rfl (fun K hK => ?_) ?_
    ·go_simp
     refine hK.out _ _ ⟨qA9 xs' _ _ (HN1.out (W.heap.size + 1 + 1 + 1) (by omega) (by omega)) HV.out.2.1, qA9 xi0' _ _ (HN1.out (W.heap.size + 1 + 1) (by omega) (by omega)) HV.out.2.1, qA9 xi1' _ _ (HN1.out (W.heap.size + 1 + 1) (by omega) (by omega)) HV.out.2.1, qA9 xl' _ _ (HN1.out (W.heap.size + 1 + 1 + 1 + 1 + 1) (by omega) (by omega)) HV.out.2.1, qA9 hel' _ _ hnE HV.out.2.1⟩ (fun hHeld => ?_)
     clear hK K
     try simp only [Act.put, List.getElem_toArray, List.getElem_cons_zero, List.getElem_cons_succ, List.setIfInBounds_toArray, List.set_cons_zero, List.set_cons_succ]
     refine wpAnyH_done (by kernel_rfl) ?_ _
     refine NoPanic.normal ?_
     go_wp2
     refine bodyPost_ret (qA5 rfl _ _ ⟨W.heap.size + 1 + 1 + 1 + 1, 0, none⟩ true rfl (qBp xr (by intro e; injection e with e; omega))) rfl ?_
     exact ⟨rfl, HE.out _ _ _ H6.out H7.out⟩
    exact AllReadyH.nil
   exact AllReadyH.nil
  exact AllReadyH.nil
 exact AllReadyH.nil
theorem plain_2_bad {g : Nat} {m : Bool} {st : List Int} {tr : List S160} {S okT : Nat → Prop} {W : World} (n ty bb : Int) (A1 A2 A3 A4 A5 : Option Addr) (n1 c1 n2 c2 n3 c3 n4 c4 n5 c5 : Nat) (res : Int) (hn : n2 ≤ n) (H : ShO W g m st tr S okT) (hl : st.length ≤ 2000000) (hfr : ∀ k, W.heap.size ≤ k → S k) (hkt : ∀ k, okT k → k < W.heap.size) :
  Calls Tryz.prog 89 #[.agg #[.slice A1 n1 c1, .int .i64 res, .slice A2 n2 c2, .slice A3 n3 c3], .agg #[.slice A4 n4 c4, .slice A5 n5 c5], .agg #[.int .i64 2, .int .i64 n, .int .i64 ty, .int .u64 bb], .pointer (some ⟨g, 0, none⟩)] W fun e w' => e = .returned (.bool (false)) ∧ ShO w' g m (st) tr S okT ∧ Fr W w' S := by
 obtain ⟨WB, hWB⟩ : ∃ WB, WB = plW W g #[.slice A1 n1 c1, .int .i64 res, .slice A2 n2 c2, .slice A3 n3 c3] #[.slice A4 n4 c4, .slice A5 n5 c5] #[.int .i64 2, .int .i64 n, .int .i64 ty, .int .u64 bb] #[.slice none 0 0, .slice none 0 0, .slice A2 n2 c2, .slice A2 n2 c2, .slice A5 n5 c5, .slice A5 n5 c5] := ⟨_, rfl⟩
 have hP := qBm W g #[.slice A1 n1 c1, .int .i64 res, .slice A2 n2 c2, .slice A3 n3 c3] #[.slice A4 n4 c4, .slice A5 n5 c5] #[.int .i64 2, .int .i64 n, .int .i64 ty, .int .u64 bb] #[.slice none 0 0, .slice none 0 0, .slice A2 n2 c2, .slice A2 n2 c2, .slice A5 n5 c5, .slice A5 n5 c5]
 have hB := qAM W g #[.slice A1 n1 c1, .int .i64 res, .slice A2 n2 c2, .slice A3 n3 c3] #[.slice A4 n4 c4, .slice A5 n5 c5] #[.int .i64 2, .int .i64 n, .int .i64 ty, .int .u64 bb] #[.slice none 0 0, .slice none 0 0, .slice A2 n2 c2, .slice A2 n2 c2, .slice A5 n5 c5, .slice A5 n5 c5]
 have hsz := qAQ W g #[.slice A1 n1 c1, .int .i64 res, .slice A2 n2 c2, .slice A3 n3 c3] #[.slice A4 n4 c4, .slice A5 n5 c5] #[.int .i64 2, .int .i64 n, .int .i64 ty, .int .u64 bb] #[.slice none 0 0, .slice none 0 0, .slice A2 n2 c2, .slice A2 n2 c2, .slice A5 n5 c5, .slice A5 n5 c5]
 rw [← hWB] at hP hB hsz
 have hH := H.below hB
 obtain ⟨S1, hS1⟩ : ∃ S1, S1 = (fun q => (S q ∧ q < W.heap.size) ∨ WB.heap.size ≤ q) := ⟨_, rfl⟩
 rw [← hS1] at hH
 have hn1 : ∀ q, W.heap.size ≤ q → q < W.heap.size + 6 → ¬ S1 q := by rw [hS1]; intro q h1 h2 h3; rcases h3 with ⟨_, h⟩ | h <;> omega
 have hf1 : ∀ k, WB.heap.size ≤ k → S1 k := by rw [hS1]; intro k hk; exact .inr hk
 have hs1 : ∀ k, S1 k → S k := by rw [hS1]; intro k hk; rcases hk with h | h; exact h.1; exact hfr k (by omega)
 have HE : qAi (∀ w' v st', ShO w' g m st' tr S1 okT → Fr WB w' S1 → ShO (w'.setCell ⟨W.heap.size + 1 + 1 + 1 + 1, 0, none⟩ v) g m st' tr S okT ∧ Fr W (w'.setCell ⟨W.heap.size + 1 + 1 + 1 + 1, 0, none⟩ v) S) :=
  ⟨fun w' v st' h k => ⟨(ShO.far h (hn1 (W.heap.size + 1 + 1 + 1 + 1) (by omega) (by omega)) (fun e => by have := hkt (W.heap.size + 1 + 1 + 1 + 1) e; omega) v).mono hs1 (fun _ h => h), (Fr.set ((Fr.of_below hB).then_ k (fun q hq => .inl (hs1 q hq))) (.inr (show W.heap.size ≤ W.heap.size + 1 + 1 + 1 + 1 by omega)) v)⟩⟩
 have HP := am hP
 clear H hl hS1 hn1 hf1 hs1 hB hsz
 have HH := am hH
 go_enter Tryz.func89, Tryz.ntmps89
 go_wp2_with fail
 simp only [plW] at hWB
 rw [← hWB]
 clear hWB
 have xi0 := (qAc HP.out.i 0).trans rfl
 have xi1 := (qAc HP.out.i 1).trans rfl
 have xr := (qAc HP.out.r 0).trans rfl
 have xrf := qAm HP.out.r 0
 have xl := (qAc HP.out.l 2).trans rfl
 go_region_held3 (fun W' => W'.cell? ⟨W.heap.size + 1 + 1, 0, none⟩ = some (.int .i64 2) ∧ W'.cell? ⟨W.heap.size + 1 + 1, 1, none⟩ = some (.int .i64 n) ∧ W'.cell? ⟨W.heap.size + 1 + 1 + 1 + 1 + 1, 2, none⟩ = some (.slice A2 n2 c2))
  (first | exact ⟨xi0, xi1, xl⟩) (fail)
 go_wp2_with fail
 refine bodyPost_ret (qA5 rfl _ _ ⟨W.heap.size + 1 + 1 + 1 + 1, 0, none⟩ false rfl (World.cell?_setCell_same _ _ _ (u := .bool false) xr)) rfl ?_
 exact ⟨rfl, HE.out WB.drew _ _ HH.out.drew (Fr.of_below (qAr (Below.refl _ _)))⟩
theorem plain_3 {g : Nat} {m : Bool} {st : List Int} {tr : List S160} {S okT : Nat → Prop} {W : World} (n ty bb : Int) (A1 A2 A3 A4 A5 : Option Addr) (n1 c1 n2 c2 n3 c3 n4 c4 n5 c5 : Nat) (res : Int) (ls : List Int) (hC : Kd.C (Kd.int .i64) W A2 n2 ls) (hoff : ∀ ad, A2 = some ad → ∀ i, ¬ S (ad.add i).block) (hn0 : 0 ≤ n) (hn : n < n2) (H : ShO W g m st tr S okT) (hl : st.length ≤ 2000000) (hfr : ∀ k, W.heap.size ≤ k → S k) (hkt : ∀ k, okT k → k < W.heap.size) :
  Calls Tryz.prog 89 #[.agg #[.slice A1 n1 c1, .int .i64 res, .slice A2 n2 c2, .slice A3 n3 c3], .agg #[.slice A4 n4 c4, .slice A5 n5 c5], .agg #[.int .i64 3, .int .i64 n, .int .i64 ty, .int .u64 bb], .pointer (some ⟨g, 0, none⟩)] W fun e w' => e = .returned (.bool (qBb (ls.getD n.toNat 0) st)) ∧ ShO w' g m (st.dropLast) tr S okT ∧ Fr W w' S := by
 obtain ⟨ad, had, hel0⟩ := qDi hC n.toNat (by omega)
 have hnE0 := hoff ad had n.toNat
 have hEl : (ad.add n.toNat).block < W.heap.size := World.block_lt_of_cell? _ _ hel0
 obtain ⟨y, hy⟩ : ∃ y, y = ls.getD n.toNat 0 := ⟨_, rfl⟩
 rw [← hy] at hel0 ⊢
 clear hy
 obtain ⟨WB, hWB⟩ : ∃ WB, WB = plW W g #[.slice A1 n1 c1, .int .i64 res, .slice A2 n2 c2, .slice A3 n3 c3] #[.slice A4 n4 c4, .slice A5 n5 c5] #[.int .i64 3, .int .i64 n, .int .i64 ty, .int .u64 bb] #[.slice none 0 0, .slice none 0 0, .slice A2 n2 c2, .slice A2 n2 c2, .slice A5 n5 c5, .slice A5 n5 c5] := ⟨_, rfl⟩
 have hP := qBm W g #[.slice A1 n1 c1, .int .i64 res, .slice A2 n2 c2, .slice A3 n3 c3] #[.slice A4 n4 c4, .slice A5 n5 c5] #[.int .i64 3, .int .i64 n, .int .i64 ty, .int .u64 bb] #[.slice none 0 0, .slice none 0 0, .slice A2 n2 c2, .slice A2 n2 c2, .slice A5 n5 c5, .slice A5 n5 c5]
 have hB := qAM W g #[.slice A1 n1 c1, .int .i64 res, .slice A2 n2 c2, .slice A3 n3 c3] #[.slice A4 n4 c4, .slice A5 n5 c5] #[.int .i64 3, .int .i64 n, .int .i64 ty, .int .u64 bb] #[.slice none 0 0, .slice none 0 0, .slice A2 n2 c2, .slice A2 n2 c2, .slice A5 n5 c5, .slice A5 n5 c5]
 have hsz := qAQ W g #[.slice A1 n1 c1, .int .i64 res, .slice A2 n2 c2, .slice A3 n3 c3] #[.slice A4 n4 c4, .slice A5 n5 c5] #[.int .i64 3, .int .i64 n, .int .i64 ty, .int .u64 bb] #[.slice none 0 0, .slice none 0 0, .slice A2 n2 c2, .slice A2 n2 c2, .slice A5 n5 c5, .slice A5 n5 c5]
 rw [← hWB] at hP hB hsz
 have hH := H.below hB
 obtain ⟨S1, hS1⟩ : ∃ S1, S1 = (fun q => (S q ∧ q < W.heap.size) ∨ WB.heap.size ≤ q) := ⟨_, rfl⟩
 rw [← hS1] at hH
 have hn1 : ∀ q, W.heap.size ≤ q → q < W.heap.size + 6 → ¬ S1 q := by rw [hS1]; intro q h1 h2 h3; rcases h3 with ⟨_, h⟩ | h <;> omega
 have hf1 : ∀ k, WB.heap.size ≤ k → S1 k := by rw [hS1]; intro k hk; exact .inr hk
 have hs1 : ∀ k, S1 k → S k := by rw [hS1]; intro k hk; rcases hk with h | h; exact h.1; exact hfr k (by omega)
 have hel : WB.cell? (ad.add n.toNat) = some (.int .i64 y) := (hB.cell hEl).trans hel0
 have hnE : ¬ S1 (ad.add n.toNat).block := by rw [hS1]; intro h; rcases h with h | h; exact hnE0 h.1; omega
 have HE : qAi (∀ w' v st', ShO w' g m st' tr S1 okT → Fr WB w' S1 → ShO (w'.setCell ⟨W.heap.size + 1 + 1 + 1 + 1, 0, none⟩ v) g m st' tr S okT ∧ Fr W (w'.setCell ⟨W.heap.size + 1 + 1 + 1 + 1, 0, none⟩ v) S) :=
  ⟨fun w' v st' h k => ⟨(ShO.far h (hn1 (W.heap.size + 1 + 1 + 1 + 1) (by omega) (by omega)) (fun e => by have := hkt (W.heap.size + 1 + 1 + 1 + 1) e; omega) v).mono hs1 (fun _ h => h), (Fr.set ((Fr.of_below hB).then_ k (fun q hq => .inl (hs1 q hq))) (.inr (show W.heap.size ≤ W.heap.size + 1 + 1 + 1 + 1 by omega)) v)⟩⟩
 have HL := am hl
 have HN1 := am hn1
 have HP := am hP
 clear H hl hS1 hn1 hf1 hs1 hB hsz
 have HT := qCI y hH.drew HL.out
 obtain ⟨tb, htb⟩ : ∃ tb, tb = qBb y st := ⟨_, rfl⟩
 rw [← htb] at HT ⊢
 have HT := am HT
 clear htb hC hoff
 subst had
 go_enter Tryz.func89, Tryz.ntmps89
 go_wp2_with fail
 simp only [plW] at hWB
 rw [← hWB]
 clear hWB
 have xi0 := (qAc HP.out.i 0).trans rfl
 have xi1 := (qAc HP.out.i 1).trans rfl
 have xs := (qAc HP.out.s 0).trans rfl
 have xl := (qAc HP.out.l 3).trans rfl
 go_region_held3 (fun W' => W'.cell? ⟨W.heap.size + 1 + 1 + 1, 0, none⟩ = some (.pointer (some ⟨g, 0, none⟩)) ∧ W'.cell? ⟨W.heap.size + 1 + 1, 0, none⟩ = some (.int .i64 3) ∧ W'.cell? ⟨W.heap.size + 1 + 1, 1, none⟩ = some (.int .i64 n) ∧ W'.cell? ⟨W.heap.size + 1 + 1 + 1 + 1 + 1, 3, none⟩ = some (.slice (some ad) n2 c2) ∧ W'.cell? (ad.add n.toNat) = some (.int .i64 y))
  (first | exact ⟨xs, xi0, xi1, xl, hel⟩ | exact ⟨xs', xi0', xi1', xl', hel'⟩ | exact ⟨qA4 xs' _ _ (by intro e; simp at e), qA4 xi0' _ _ (by intro e; simp at e), qA4 xi1' _ _ (by intro e; simp at e), qA4 xl' _ _ (by intro e; simp at e), qA4 hel' _ _ (by intro e; have e' : (ad.add n.toNat).block = W.heap.size + 1 + 1 + 1 + 1 := e; omega)⟩)
  (first
    | (go_at_call 88;
       refine HT.out.mono ?_;
       rintro e w1 ⟨rfl, hS1, hb0⟩;
       have hb1 := Fr.trans (Fr.of_below (qAr (Below.refl _ _))) hb0;
       have HS1 := am hS1;
       have HB1 := am hb1;
       have hPP := HP.out.fr hb1 HN1.out;
       have xr := (qAc hPP.r 0).trans rfl;
       have xrf := qAm hPP.r 0;
       have xs' := hb1.cell xs (HN1.out (W.heap.size + 1 + 1 + 1) (by omega) (by omega));
       have xi0' := hb1.cell xi0 (HN1.out (W.heap.size + 1 + 1) (by omega) (by omega));
       have xi1' := hb1.cell xi1 (HN1.out (W.heap.size + 1 + 1) (by omega) (by omega));
       have xl' := hb1.cell xl (HN1.out (W.heap.size + 1 + 1 + 1 + 1 + 1) (by omega) (by omega));
       have hel' := hb1.cell hel hnE;
       clear hS1 hb0 hb1 hPP))
 go_wp2_with fail
 refine bodyPost_ret (qA5 rfl _ _ ⟨W.heap.size + 1 + 1 + 1 + 1, 0, none⟩ tb rfl (World.cell?_setCell_same _ _ _ (u := .bool false) xr)) rfl ?_
 exact ⟨rfl, HE.out _ _ _ HS1.out HB1.out⟩
theorem plain_3_bad {g : Nat} {m : Bool} {st : List Int} {tr : List S160} {S okT : Nat → Prop} {W : World} (n ty bb : Int) (A1 A2 A3 A4 A5 : Option Addr) (n1 c1 n2 c2 n3 c3 n4 c4 n5 c5 : Nat) (res : Int) (hn : n2 ≤ n) (H : ShO W g m st tr S okT) (hl : st.length ≤ 2000000) (hfr : ∀ k, W.heap.size ≤ k → S k) (hkt : ∀ k, okT k → k < W.heap.size) :
  Calls Tryz.prog 89 #[.agg #[.slice A1 n1 c1, .int .i64 res, .slice A2 n2 c2, .slice A3 n3 c3], .agg #[.slice A4 n4 c4, .slice A5 n5 c5], .agg #[.int .i64 3, .int .i64 n, .int .i64 ty, .int .u64 bb], .pointer (some ⟨g, 0, none⟩)] W fun e w' => e = .returned (.bool (false)) ∧ ShO w' g m (st) tr S okT ∧ Fr W w' S := by
 obtain ⟨WB, hWB⟩ : ∃ WB, WB = plW W g #[.slice A1 n1 c1, .int .i64 res, .slice A2 n2 c2, .slice A3 n3 c3] #[.slice A4 n4 c4, .slice A5 n5 c5] #[.int .i64 3, .int .i64 n, .int .i64 ty, .int .u64 bb] #[.slice none 0 0, .slice none 0 0, .slice A2 n2 c2, .slice A2 n2 c2, .slice A5 n5 c5, .slice A5 n5 c5] := ⟨_, rfl⟩
 have hP := qBm W g #[.slice A1 n1 c1, .int .i64 res, .slice A2 n2 c2, .slice A3 n3 c3] #[.slice A4 n4 c4, .slice A5 n5 c5] #[.int .i64 3, .int .i64 n, .int .i64 ty, .int .u64 bb] #[.slice none 0 0, .slice none 0 0, .slice A2 n2 c2, .slice A2 n2 c2, .slice A5 n5 c5, .slice A5 n5 c5]
 have hB := qAM W g #[.slice A1 n1 c1, .int .i64 res, .slice A2 n2 c2, .slice A3 n3 c3] #[.slice A4 n4 c4, .slice A5 n5 c5] #[.int .i64 3, .int .i64 n, .int .i64 ty, .int .u64 bb] #[.slice none 0 0, .slice none 0 0, .slice A2 n2 c2, .slice A2 n2 c2, .slice A5 n5 c5, .slice A5 n5 c5]
 have hsz := qAQ W g #[.slice A1 n1 c1, .int .i64 res, .slice A2 n2 c2, .slice A3 n3 c3] #[.slice A4 n4 c4, .slice A5 n5 c5] #[.int .i64 3, .int .i64 n, .int .i64 ty, .int .u64 bb] #[.slice none 0 0, .slice none 0 0, .slice A2 n2 c2, .slice A2 n2 c2, .slice A5 n5 c5, .slice A5 n5 c5]
 rw [← hWB] at hP hB hsz
 have hH := H.below hB
 obtain ⟨S1, hS1⟩ : ∃ S1, S1 = (fun q => (S q ∧ q < W.heap.size) ∨ WB.heap.size ≤ q) := ⟨_, rfl⟩
 rw [← hS1] at hH
 have hn1 : ∀ q, W.heap.size ≤ q → q < W.heap.size + 6 → ¬ S1 q := by rw [hS1]; intro q h1 h2 h3; rcases h3 with ⟨_, h⟩ | h <;> omega
 have hf1 : ∀ k, WB.heap.size ≤ k → S1 k := by rw [hS1]; intro k hk; exact .inr hk
 have hs1 : ∀ k, S1 k → S k := by rw [hS1]; intro k hk; rcases hk with h | h; exact h.1; exact hfr k (by omega)
 have HE : qAi (∀ w' v st', ShO w' g m st' tr S1 okT → Fr WB w' S1 → ShO (w'.setCell ⟨W.heap.size + 1 + 1 + 1 + 1, 0, none⟩ v) g m st' tr S okT ∧ Fr W (w'.setCell ⟨W.heap.size + 1 + 1 + 1 + 1, 0, none⟩ v) S) :=
  ⟨fun w' v st' h k => ⟨(ShO.far h (hn1 (W.heap.size + 1 + 1 + 1 + 1) (by omega) (by omega)) (fun e => by have := hkt (W.heap.size + 1 + 1 + 1 + 1) e; omega) v).mono hs1 (fun _ h => h), (Fr.set ((Fr.of_below hB).then_ k (fun q hq => .inl (hs1 q hq))) (.inr (show W.heap.size ≤ W.heap.size + 1 + 1 + 1 + 1 by omega)) v)⟩⟩
 have HP := am hP
 clear H hl hS1 hn1 hf1 hs1 hB hsz
 have HH := am hH
 go_enter Tryz.func89, Tryz.ntmps89
 go_wp2_with fail
 simp only [plW] at hWB
 rw [← hWB]
 clear hWB
 have xi0 := (qAc HP.out.i 0).trans rfl
 have xi1 := (qAc HP.out.i 1).trans rfl
 have xr := (qAc HP.out.r 0).trans rfl
 have xrf := qAm HP.out.r 0
 have xl := (qAc HP.out.l 3).trans rfl
 have hd : decide (n < (n2 : Int)) = false := decide_eq_false (by omega)
 refine wp_region_noPanic ?_
 refine wp_region_held_drew (S := fun W' => W'.cell? ⟨W.heap.size + 1 + 1, 0, none⟩ = some (.int .i64 3) ∧ W'.cell? ⟨W.heap.size + 1 + 1, 1, none⟩ = some (.int .i64 n) ∧ W'.cell? ⟨W.heap.size + 1 + 1 + 1 + 1 + 1, 3, none⟩ = some (.slice A2 n2 c2)) (by kernel_rfl) ⟨xi0, xi1, xl⟩ (fun hHeld => ?_)
 refine hT 0 ?_
 refine hT 1 ?_
 refine hT 2 ?_
 refine hT 3 ?_
 refine hT 4 ?_
 refine hT 5 ?_
 refine hT 6 ?_
 refine hT 7 ?_
 refine hT 8 ?_
 refine hO 9 ?_
 refine hO 10 ?_
 refine hO 11 ?_
 refine hO 12 ?_
 refine hO 13 ?_
 refine hO 14 ?_
 refine hO 15 ?_
 refine hO 16 ?_
 refine hO 17 ?_
 refine hO 18 ?_
 refine hT 19 ?_
 refine wpAnyH_ready (rs := [20]) (by kernel_rfl) (by simp) ?_
 refine AllReadyH.cons (o := _) rfl (fun K hK => ?_) ?_
 ·go_simp
  refine hK.out _ _ ⟨qA4 xi0 _ _ (by intro e; simp at e), qA4 xi1 _ _ (by intro e; simp at e), qA4 xl _ _ (by intro e; simp at e)⟩ (fun hHeld => ?_)
  clear hK K
  try simp only [Act.put, List.getElem_toArray, List.getElem_cons_zero, List.getElem_cons_succ, List.setIfInBounds_toArray, List.set_cons_zero, List.set_cons_succ]
  refine wpAnyH_done (by kernel_rfl) ?_ _
  refine NoPanic.normal ?_
  go_wp2_with fail
  refine bodyPost_ret (qA5 rfl _ _ ⟨W.heap.size + 1 + 1 + 1 + 1, 0, none⟩ false rfl (World.cell?_setCell_same _ _ _ (u := .bool false) xr)) rfl ?_
  exact ⟨rfl, HE.out WB.drew _ _ HH.out.drew (Fr.of_below (qAr (Below.refl _ _)))⟩
 exact AllReadyH.nil
theorem plain_4 {g : Nat} {m : Bool} {st : List Int} {tr : List S160} {S okT : Nat → Prop} {W : World} (n ty bb : Int) (A1 A2 A3 A4 A5 : Option Addr) (n1 c1 n2 c2 n3 c3 n4 c4 n5 c5 : Nat) (res : Int) (ls : List Int) (hC : Kd.C (Kd.int .i64) W A5 n5 ls) (hoff : ∀ ad, A5 = some ad → ∀ i, ¬ S (ad.add i).block) (hn0 : 0 ≤ n) (hn : n < n5) (H : ShO W g m st tr S okT) (hl : st.length ≤ 2000000) (hfr : ∀ k, W.heap.size ≤ k → S k) (hkt : ∀ k, okT k → k < W.heap.size) :
  Calls Tryz.prog 89 #[.agg #[.slice A1 n1 c1, .int .i64 res, .slice A2 n2 c2, .slice A3 n3 c3], .agg #[.slice A4 n4 c4, .slice A5 n5 c5], .agg #[.int .i64 4, .int .i64 n, .int .i64 ty, .int .u64 bb], .pointer (some ⟨g, 0, none⟩)] W fun e w' => e = .returned (.bool (true)) ∧ ShO w' g m (st ++ [ls.getD n.toNat 0]) tr S okT ∧ Fr W w' S := by
 obtain ⟨ad, had, hel0⟩ := qDi hC n.toNat (by omega)
 have hnE0 := hoff ad had n.toNat
 obtain ⟨y, hy⟩ : ∃ y, y = ls.getD n.toNat 0 := ⟨_, rfl⟩
 rw [← hy] at hel0 ⊢
 clear hy
 have hgl : g < W.heap.size := H.lt
 obtain ⟨WB, hWB⟩ : ∃ WB, WB = plW W g #[.slice A1 n1 c1, .int .i64 res, .slice A2 n2 c2, .slice A3 n3 c3] #[.slice A4 n4 c4, .slice A5 n5 c5] #[.int .i64 4, .int .i64 n, .int .i64 ty, .int .u64 bb] #[.slice none 0 0, .slice none 0 0, .slice A2 n2 c2, .slice A2 n2 c2, .slice A5 n5 c5, .slice A5 n5 c5] := ⟨_, rfl⟩
 have hP := qBm W g #[.slice A1 n1 c1, .int .i64 res, .slice A2 n2 c2, .slice A3 n3 c3] #[.slice A4 n4 c4, .slice A5 n5 c5] #[.int .i64 4, .int .i64 n, .int .i64 ty, .int .u64 bb] #[.slice none 0 0, .slice none 0 0, .slice A2 n2 c2, .slice A2 n2 c2, .slice A5 n5 c5, .slice A5 n5 c5]
 have hB := qAM W g #[.slice A1 n1 c1, .int .i64 res, .slice A2 n2 c2, .slice A3 n3 c3] #[.slice A4 n4 c4, .slice A5 n5 c5] #[.int .i64 4, .int .i64 n, .int .i64 ty, .int .u64 bb] #[.slice none 0 0, .slice none 0 0, .slice A2 n2 c2, .slice A2 n2 c2, .slice A5 n5 c5, .slice A5 n5 c5]
 have hsz := qAQ W g #[.slice A1 n1 c1, .int .i64 res, .slice A2 n2 c2, .slice A3 n3 c3] #[.slice A4 n4 c4, .slice A5 n5 c5] #[.int .i64 4, .int .i64 n, .int .i64 ty, .int .u64 bb] #[.slice none 0 0, .slice none 0 0, .slice A2 n2 c2, .slice A2 n2 c2, .slice A5 n5 c5, .slice A5 n5 c5]
 rw [← hWB] at hP hB hsz
 have hH := H.below hB
 obtain ⟨S1, hS1⟩ : ∃ S1, S1 = (fun q => (S q ∧ q < W.heap.size) ∨ WB.heap.size ≤ q) := ⟨_, rfl⟩
 rw [← hS1] at hH
 have hn1 : ∀ q, W.heap.size ≤ q → q < W.heap.size + 6 → ¬ S1 q := by rw [hS1]; intro q h1 h2 h3; rcases h3 with ⟨_, h⟩ | h <;> omega
 have hf1 : ∀ k, WB.heap.size ≤ k → S1 k := by rw [hS1]; intro k hk; exact .inr hk
 have hs1 : ∀ k, S1 k → S k := by rw [hS1]; intro k hk; rcases hk with h | h; exact h.1; exact hfr k (by omega)
 have hel : WB.cell? (ad.add n.toNat) = some (.int .i64 y) := (hB.cell (World.block_lt_of_cell? _ _ hel0)).trans hel0
 have hnE : ¬ S1 (ad.add n.toNat).block := by rw [hS1]; intro h; rcases h with h | h; exact hnE0 h.1; have := World.block_lt_of_cell? _ _ hel0; omega
 have HE : qAi (∀ w' v st', ShO w' g m st' tr S1 okT → Fr WB w' S1 → ShO (w'.setCell ⟨W.heap.size + 1 + 1 + 1 + 1, 0, none⟩ v) g m st' tr S okT ∧ Fr W (w'.setCell ⟨W.heap.size + 1 + 1 + 1 + 1, 0, none⟩ v) S) :=
  ⟨fun w' v st' h k => ⟨(ShO.far h (hn1 (W.heap.size + 1 + 1 + 1 + 1) (by omega) (by omega)) (fun e => by have := hkt (W.heap.size + 1 + 1 + 1 + 1) e; omega) v).mono hs1 (fun _ h => h), (Fr.set ((Fr.of_below hB).then_ k (fun q hq => .inl (hs1 q hq))) (.inr (show W.heap.size ≤ W.heap.size + 1 + 1 + 1 + 1 by omega)) v)⟩⟩
 have HL := am hl
 have HN1 := am hn1
 have HF1 := am hf1
 have HP := am hP
 clear H hl hS1 hn1 hf1 hs1 hB hsz
 clear hC hoff
 subst had
 go_enter Tryz.func89, Tryz.ntmps89
 go_wp2_with fail
 simp only [plW] at hWB
 rw [← hWB]
 clear hWB
 obtain ⟨u1, u2, hV⟩ := hH
 have HV := am hV
 have eg1 := (qAc hV.1 1).trans rfl
 clear hV
 have xi0 := (qAc HP.out.i 0).trans rfl
 have xi1 := (qAc HP.out.i 1).trans rfl
 have xs := (qAc HP.out.s 0).trans rfl
 have xl := (qAc HP.out.l 4).trans rfl
 have hd : decide (n ≥ (n5 : Int)) = false := decide_eq_false (by omega)
 go_region_held3 (fun W' => W'.cell? ⟨W.heap.size + 1 + 1, 0, none⟩ = some (.int .i64 4) ∧ W'.cell? ⟨W.heap.size + 1 + 1, 1, none⟩ = some (.int .i64 n) ∧ W'.cell? ⟨W.heap.size + 1 + 1 + 1 + 1 + 1, 4, none⟩ = some (.slice (some ad) n5 c5))
  (first | exact ⟨xi0, xi1, xl⟩) (fail)
 go_wp2_with fail
 have yg1 := qAz (.cells #[.int .i64 (y)] 3) eg1
 refine wp_region_noPanic ?_
 refine wp_region_held_drew (S := fun W' => W'.cell? ⟨W.heap.size + 1 + 1 + 1, 0, none⟩ = some (.pointer (some ⟨g, 0, none⟩)) ∧ W'.cell? ⟨W.heap.size + 1 + 1, 0, none⟩ = some (.int .i64 4) ∧ W'.cell? ⟨W.heap.size + 1 + 1, 1, none⟩ = some (.int .i64 n) ∧ W'.cell? ⟨W.heap.size + 1 + 1 + 1 + 1 + 1, 4, none⟩ = some (.slice (some ad) n5 c5) ∧ W'.cell? (ad.add n.toNat) = some (.int .i64 y)) (by kernel_rfl) ⟨xs, xi0, xi1, xl, hel⟩ (fun hHeld => ?_)
 refine hT 0 ?_
 refine hT 1 ?_
 refine hT 2 ?_
 refine hT 3 ?_
 refine hT 5 ?_
 refine hT 6 ?_
 refine hT 7 ?_
 refine hT 8 ?_
 refine hT 9 ?_
 refine hT 10 ?_
 refine hT 11 ?_
 refine hT 12 ?_
 refine wpAnyH_ready (rs := [4, 13]) (by kernel_rfl) (by simp) ?_
 refine AllReadyH.cons (o := _) rfl (fun K hK => ?_) ?_
 ·go_simp
  refine hK.out _ _ ⟨xs, xi0, xi1, xl, hel⟩ (fun hHeld => ?_)
  clear hK K
  try simp only [Act.put, List.getElem_toArray, List.getElem_cons_zero, List.getElem_cons_succ, List.setIfInBounds_toArray, List.set_cons_zero, List.set_cons_succ]
  refine wpAnyH_ready (rs := [13]) (by kernel_rfl) (by simp) ?_
  refine AllReadyH.cons (o := _) rfl (fun K hK => ?_) ?_
  ·go_simp
   refine hK.out _ _ ⟨qAz (.cells #[.int .i64 (y)] 3) xs, qAz (.cells #[.int .i64 (y)] 3) xi0, qAz (.cells #[.int .i64 (y)] 3) xi1, qAz (.cells #[.int .i64 (y)] 3) xl, qAz (.cells #[.int .i64 (y)] 3) hel⟩ (fun hHeld => ?_)
   clear hK K
   try simp only [Act.put, List.getElem_toArray, List.getElem_cons_zero, List.getElem_cons_succ, List.setIfInBounds_toArray, List.set_cons_zero, List.set_cons_succ]
   refine wpAnyH_ready (rs := [14]) (by kernel_rfl) (by simp) ?_
   refine AllReadyH.cons (o := _) rfl (fun K hK => ?_) ?_
   ·refine qAD HV.out.drew.drew (y) rfl _ _ rfl rfl rfl HF1.out HL.out ?_
    intro A6 c6 w3 h5 h5b h6 h7
    have hFF := Fr.trans (Fr.of_below (qAr (qAr (Below.refl _ _)))) h5b
    have H6 := am h6
    have H7 := am (Fr.trans (Fr.of_below (qAr (qAr (Below.refl _ _)))) h7)
    have hP3 := HP.out.fr hFF HN1.out
    have xs' := hFF.cell xs (HN1.out (W.heap.size + 1 + 1 + 1) (by omega) (by omega))
    have xi0' := hFF.cell xi0 (HN1.out (W.heap.size + 1 + 1) (by omega) (by omega))
    have xi1' := hFF.cell xi1 (HN1.out (W.heap.size + 1 + 1) (by omega) (by omega))
    have xl' := hFF.cell xl (HN1.out (W.heap.size + 1 + 1 + 1 + 1 + 1) (by omega) (by omega))
    have hel' := hFF.cell hel hnE
    have xr := (qAc hP3.r 0).trans rfl
    have xrf := qAm hP3.r 0
    have eg3 := (qAc h5 1).trans rfl
    have ef3 := qAm h5 1
    clear h5 h5b h6 h7 hFF
    refine hK.out _ _ ⟨xs', xi0', xi1', xl', hel'⟩ (fun hHeld => ?_)
    clear hK K
    try simp only [Act.put, List.getElem_toArray, List.getElem_cons_zero, List.getElem_cons_succ, List.setIfInBounds_toArray, List.set_cons_zero, List.set_cons_succ]
    refine hT 15 ?_
    refine hT 16 ?_
    refine wpAnyH_ready (rs := [17]) (by kernel_rfl) (by simp) ?_
    refine AllReadyH.cons (o := _) rfl (fun K hK => ?_) ?_
    ·go_simp
     refine hK.out _ _ ⟨qA9 xs' _ _ (HN1.out (W.heap.size + 1 + 1 + 1) (by omega) (by omega)) HV.out.2.1, qA9 xi0' _ _ (HN1.out (W.heap.size + 1 + 1) (by omega) (by omega)) HV.out.2.1, qA9 xi1' _ _ (HN1.out (W.heap.size + 1 + 1) (by omega) (by omega)) HV.out.2.1, qA9 xl' _ _ (HN1.out (W.heap.size + 1 + 1 + 1 + 1 + 1) (by omega) (by omega)) HV.out.2.1, qA9 hel' _ _ hnE HV.out.2.1⟩ (fun hHeld => ?_)
     clear hK K
     try simp only [Act.put, List.getElem_toArray, List.getElem_cons_zero, List.getElem_cons_succ, List.setIfInBounds_toArray, List.set_cons_zero, List.set_cons_succ]
     refine wpAnyH_done (by kernel_rfl) ?_ _
     refine NoPanic.normal ?_
     go_wp2
     refine bodyPost_ret (qA5 rfl _ _ ⟨W.heap.size + 1 + 1 + 1 + 1, 0, none⟩ true rfl (qBp xr (by intro e; injection e with e; omega))) rfl ?_
     exact ⟨rfl, HE.out _ _ _ H6.out H7.out⟩
    exact AllReadyH.nil
   exact AllReadyH.nil
  exact AllReadyH.nil
 refine AllReadyH.cons (o := _) rfl (fun K hK => ?_) ?_
 ·go_simp
  refine hK.out _ _ ⟨qAz (.cells #[.int .i64 (y)] 3) xs, qAz (.cells #[.int .i64 (y)] 3) xi0, qAz (.cells #[.int .i64 (y)] 3) xi1, qAz (.cells #[.int .i64 (y)] 3) xl, qAz (.cells #[.int .i64 (y)] 3) hel⟩ (fun hHeld => ?_)
  clear hK K
  try simp only [Act.put, List.getElem_toArray, List.getElem_cons_zero, List.getElem_cons_succ, List.setIfInBounds_toArray, List.set_cons_zero, List.set_cons_succ]
  refine wpAnyH_ready (rs := [4]) (by kernel_rfl) (by simp) ?_
  refine AllReadyH.cons (o := _) rfl (fun K hK => ?_) ?_
  ·go_simp
   refine hK.out _ _ ⟨qAz (.cells #[.int .i64 (y)] 3) xs, qAz (.cells #[.int .i64 (y)] 3) xi0, qAz (.cells #[.int .i64 (y)] 3) xi1, qAz (.cells #[.int .i64 (y)] 3) xl, qAz (.cells #[.int .i64 (y)] 3) hel⟩ (fun hHeld => ?_)
   clear hK K
   try simp only [Act.put, List.getElem_toArray, List.getElem_cons_zero, List.getElem_cons_succ, List.setIfInBounds_toArray, List.set_cons_zero, List.set_cons_succ]
   refine wpAnyH_ready (rs := [14]) (by kernel_rfl) (by simp) ?_
   refine AllReadyH.cons (o := _) rfl (fun K hK => ?_) ?_
   ·refine qAD HV.out.drew.drew (y) rfl _ _ rfl rfl rfl HF1.out HL.out ?_
    intro A6 c6 w3 h5 h5b h6 h7
    have hFF := Fr.trans (Fr.of_below (qAr (qAr (Below.refl _ _)))) h5b
    have H6 := am h6
    have H7 := am (Fr.trans (Fr.of_below (qAr (qAr (Below.refl _ _)))) h7)
    have hP3 := HP.out.fr hFF HN1.out
    have xs' := hFF.cell xs (HN1.out (W.heap.size + 1 + 1 + 1) (by omega) (by omega))
    have xi0' := hFF.cell xi0 (HN1.out (W.heap.size + 1 + 1) (by omega) (by omega))
    have xi1' := hFF.cell xi1 (HN1.out (W.heap.size + 1 + 1) (by omega) (by omega))
    have xl' := hFF.cell xl (HN1.out (W.heap.size + 1 + 1 + 1 + 1 + 1) (by omega) (by omega))
    have hel' := hFF.cell hel hnE
    have xr := (qAc hP3.r 0).trans rfl
    have xrf := qAm hP3.r 0
    have eg3 := (qAc h5 1).trans rfl
    have ef3 := qAm h5 1
    clear h5 h5b h6 h7 hFF
    refine hK.out _ _ ⟨xs', xi0', xi1', xl', hel'⟩ (fun hHeld => ?_)
    clear hK K
    try simp only [Act.put, List.getElem_toArray, List.getElem_cons_zero, List.getElem_cons_succ, List.setIfInBounds_toArray, List.set_cons_zero, List.set_cons_succ]
    refine hT 15 ?_
    refine hT 16 ?_
    refine wpAnyH_ready (rs := [17]) (by kernel_rfl) (by simp) ?_
    refine AllReadyH.cons (o := _) rfl (fun K hK => ?_) ?_
    ·go_simp
     refine hK.out _ _ ⟨qA9 xs' _ _ (HN1.out (W.heap.size + 1 + 1 + 1) (by omega) (by omega)) HV.out.2.1, qA9 xi0' _ _ (HN1.out (W.heap.size + 1 + 1) (by omega) (by omega)) HV.out.2.1, qA9 xi1' _ _ (HN1.out (W.heap.size + 1 + 1) (by omega) (by omega)) HV.out.2.1, qA9 xl' _ _ (HN1.out (W.heap.size + 1 + 1 + 1 + 1 + 1) (by omega) (by omega)) HV.out.2.1, qA9 hel' _ _ hnE HV.out.2.1⟩ (fun hHeld => ?_)
     clear hK K
     try simp only [Act.put, List.getElem_toArray, List.getElem_cons_zero, List.getElem_cons_succ, List.setIfInBounds_toArray, List.set_cons_zero, List.set_cons_succ]
     refine wpAnyH_done (by kernel_rfl) ?_ _
     refine NoPanic.normal ?_
     go_wp2
     refine bodyPost_ret (qA5 rfl _ _ ⟨W.heap.size + 1 + 1 + 1 + 1, 0, none⟩ true rfl (qBp xr (by intro e; injection e with e; omega))) rfl ?_
     exact ⟨rfl, HE.out _ _ _ H6.out H7.out⟩
    exact AllReadyH.nil
   exact AllReadyH.nil
  exact AllReadyH.nil
 exact AllReadyH.nil
theorem plain_4_bad {g : Nat} {m : Bool} {st : List Int} {tr : List S160} {S okT : Nat → Prop} {W : World} (n ty bb : Int) (A1 A2 A3 A4 A5 : Option Addr) (n1 c1 n2 c2 n3 c3 n4 c4 n5 c5 : Nat) (res : Int) (hn : n5 ≤ n) (H : ShO W g m st tr S okT) (hl : st.length ≤ 2000000) (hfr : ∀ k, W.heap.size ≤ k → S k) (hkt : ∀ k, okT k → k < W.heap.size) :
  Calls Tryz.prog 89 #[.agg #[.slice A1 n1 c1, .int .i64 res, .slice A2 n2 c2, .slice A3 n3 c3], .agg #[.slice A4 n4 c4, .slice A5 n5 c5], .agg #[.int .i64 4, .int .i64 n, .int .i64 ty, .int .u64 bb], .pointer (some ⟨g, 0, none⟩)] W fun e w' => e = .returned (.bool (false)) ∧ ShO w' g m (st) tr S okT ∧ Fr W w' S := by
 obtain ⟨WB, hWB⟩ : ∃ WB, WB = plW W g #[.slice A1 n1 c1, .int .i64 res, .slice A2 n2 c2, .slice A3 n3 c3] #[.slice A4 n4 c4, .slice A5 n5 c5] #[.int .i64 4, .int .i64 n, .int .i64 ty, .int .u64 bb] #[.slice none 0 0, .slice none 0 0, .slice A2 n2 c2, .slice A2 n2 c2, .slice A5 n5 c5, .slice A5 n5 c5] := ⟨_, rfl⟩
 have hP := qBm W g #[.slice A1 n1 c1, .int .i64 res, .slice A2 n2 c2, .slice A3 n3 c3] #[.slice A4 n4 c4, .slice A5 n5 c5] #[.int .i64 4, .int .i64 n, .int .i64 ty, .int .u64 bb] #[.slice none 0 0, .slice none 0 0, .slice A2 n2 c2, .slice A2 n2 c2, .slice A5 n5 c5, .slice A5 n5 c5]
 have hB := qAM W g #[.slice A1 n1 c1, .int .i64 res, .slice A2 n2 c2, .slice A3 n3 c3] #[.slice A4 n4 c4, .slice A5 n5 c5] #[.int .i64 4, .int .i64 n, .int .i64 ty, .int .u64 bb] #[.slice none 0 0, .slice none 0 0, .slice A2 n2 c2, .slice A2 n2 c2, .slice A5 n5 c5, .slice A5 n5 c5]
 have hsz := qAQ W g #[.slice A1 n1 c1, .int .i64 res, .slice A2 n2 c2, .slice A3 n3 c3] #[.slice A4 n4 c4, .slice A5 n5 c5] #[.int .i64 4, .int .i64 n, .int .i64 ty, .int .u64 bb] #[.slice none 0 0, .slice none 0 0, .slice A2 n2 c2, .slice A2 n2 c2, .slice A5 n5 c5, .slice A5 n5 c5]
 rw [← hWB] at hP hB hsz
 have hH := H.below hB
 obtain ⟨S1, hS1⟩ : ∃ S1, S1 = (fun q => (S q ∧ q < W.heap.size) ∨ WB.heap.size ≤ q) := ⟨_, rfl⟩
 rw [← hS1] at hH
 have hn1 : ∀ q, W.heap.size ≤ q → q < W.heap.size + 6 → ¬ S1 q := by rw [hS1]; intro q h1 h2 h3; rcases h3 with ⟨_, h⟩ | h <;> omega
 have hf1 : ∀ k, WB.heap.size ≤ k → S1 k := by rw [hS1]; intro k hk; exact .inr hk
 have hs1 : ∀ k, S1 k → S k := by rw [hS1]; intro k hk; rcases hk with h | h; exact h.1; exact hfr k (by omega)
 have HE : qAi (∀ w' v st', ShO w' g m st' tr S1 okT → Fr WB w' S1 → ShO (w'.setCell ⟨W.heap.size + 1 + 1 + 1 + 1, 0, none⟩ v) g m st' tr S okT ∧ Fr W (w'.setCell ⟨W.heap.size + 1 + 1 + 1 + 1, 0, none⟩ v) S) :=
  ⟨fun w' v st' h k => ⟨(ShO.far h (hn1 (W.heap.size + 1 + 1 + 1 + 1) (by omega) (by omega)) (fun e => by have := hkt (W.heap.size + 1 + 1 + 1 + 1) e; omega) v).mono hs1 (fun _ h => h), (Fr.set ((Fr.of_below hB).then_ k (fun q hq => .inl (hs1 q hq))) (.inr (show W.heap.size ≤ W.heap.size + 1 + 1 + 1 + 1 by omega)) v)⟩⟩
 have HP := am hP
 clear H hl hS1 hn1 hf1 hs1 hB hsz
 have HH := am hH
 go_enter Tryz.func89, Tryz.ntmps89
 go_wp2_with fail
 simp only [plW] at hWB
 rw [← hWB]
 clear hWB
 have xi0 := (qAc HP.out.i 0).trans rfl
 have xi1 := (qAc HP.out.i 1).trans rfl
 have xr := (qAc HP.out.r 0).trans rfl
 have xrf := qAm HP.out.r 0
 have xl := (qAc HP.out.l 4).trans rfl
 go_region_held3 (fun W' => W'.cell? ⟨W.heap.size + 1 + 1, 0, none⟩ = some (.int .i64 4) ∧ W'.cell? ⟨W.heap.size + 1 + 1, 1, none⟩ = some (.int .i64 n) ∧ W'.cell? ⟨W.heap.size + 1 + 1 + 1 + 1 + 1, 4, none⟩ = some (.slice A5 n5 c5))
  (first | exact ⟨xi0, xi1, xl⟩) (fail)
 go_wp2_with fail
 refine bodyPost_ret (qA5 rfl _ _ ⟨W.heap.size + 1 + 1 + 1 + 1, 0, none⟩ false rfl (World.cell?_setCell_same _ _ _ (u := .bool false) xr)) rfl ?_
 exact ⟨rfl, HE.out WB.drew _ _ HH.out.drew (Fr.of_below (qAr (Below.refl _ _)))⟩
theorem plain_5 {g : Nat} {m : Bool} {st : List Int} {tr : List S160} {S okT : Nat → Prop} {W : World} (n ty bb : Int) (A1 A2 A3 A4 A5 : Option Addr) (n1 c1 n2 c2 n3 c3 n4 c4 n5 c5 : Nat) (res : Int) (ls : List Int) (hC : Kd.C (Kd.int .i64) W A5 n5 ls) (hoff : ∀ ad, A5 = some ad → ∀ i, ¬ S (ad.add i).block) (hn0 : 0 ≤ n) (hn : n < n5) (H : ShO W g m st tr S okT) (hl : st.length ≤ 2000000) (hfr : ∀ k, W.heap.size ≤ k → S k) (hkt : ∀ k, okT k → k < W.heap.size) :
  Calls Tryz.prog 89 #[.agg #[.slice A1 n1 c1, .int .i64 res, .slice A2 n2 c2, .slice A3 n3 c3], .agg #[.slice A4 n4 c4, .slice A5 n5 c5], .agg #[.int .i64 5, .int .i64 n, .int .i64 ty, .int .u64 bb], .pointer (some ⟨g, 0, none⟩)] W fun e w' => e = .returned (.bool (qBb (ls.getD n.toNat 0) st)) ∧ ShO w' g m (st.dropLast) tr S okT ∧ Fr W w' S := by
 obtain ⟨ad, had, hel0⟩ := qDi hC n.toNat (by omega)
 have hnE0 := hoff ad had n.toNat
 have hEl : (ad.add n.toNat).block < W.heap.size := World.block_lt_of_cell? _ _ hel0
 obtain ⟨y, hy⟩ : ∃ y, y = ls.getD n.toNat 0 := ⟨_, rfl⟩
 rw [← hy] at hel0 ⊢
 clear hy
 obtain ⟨WB, hWB⟩ : ∃ WB, WB = plW W g #[.slice A1 n1 c1, .int .i64 res, .slice A2 n2 c2, .slice A3 n3 c3] #[.slice A4 n4 c4, .slice A5 n5 c5] #[.int .i64 5, .int .i64 n, .int .i64 ty, .int .u64 bb] #[.slice none 0 0, .slice none 0 0, .slice A2 n2 c2, .slice A2 n2 c2, .slice A5 n5 c5, .slice A5 n5 c5] := ⟨_, rfl⟩
 have hP := qBm W g #[.slice A1 n1 c1, .int .i64 res, .slice A2 n2 c2, .slice A3 n3 c3] #[.slice A4 n4 c4, .slice A5 n5 c5] #[.int .i64 5, .int .i64 n, .int .i64 ty, .int .u64 bb] #[.slice none 0 0, .slice none 0 0, .slice A2 n2 c2, .slice A2 n2 c2, .slice A5 n5 c5, .slice A5 n5 c5]
 have hB := qAM W g #[.slice A1 n1 c1, .int .i64 res, .slice A2 n2 c2, .slice A3 n3 c3] #[.slice A4 n4 c4, .slice A5 n5 c5] #[.int .i64 5, .int .i64 n, .int .i64 ty, .int .u64 bb] #[.slice none 0 0, .slice none 0 0, .slice A2 n2 c2, .slice A2 n2 c2, .slice A5 n5 c5, .slice A5 n5 c5]
 have hsz := qAQ W g #[.slice A1 n1 c1, .int .i64 res, .slice A2 n2 c2, .slice A3 n3 c3] #[.slice A4 n4 c4, .slice A5 n5 c5] #[.int .i64 5, .int .i64 n, .int .i64 ty, .int .u64 bb] #[.slice none 0 0, .slice none 0 0, .slice A2 n2 c2, .slice A2 n2 c2, .slice A5 n5 c5, .slice A5 n5 c5]
 rw [← hWB] at hP hB hsz
 have hH := H.below hB
 obtain ⟨S1, hS1⟩ : ∃ S1, S1 = (fun q => (S q ∧ q < W.heap.size) ∨ WB.heap.size ≤ q) := ⟨_, rfl⟩
 rw [← hS1] at hH
 have hn1 : ∀ q, W.heap.size ≤ q → q < W.heap.size + 6 → ¬ S1 q := by rw [hS1]; intro q h1 h2 h3; rcases h3 with ⟨_, h⟩ | h <;> omega
 have hf1 : ∀ k, WB.heap.size ≤ k → S1 k := by rw [hS1]; intro k hk; exact .inr hk
 have hs1 : ∀ k, S1 k → S k := by rw [hS1]; intro k hk; rcases hk with h | h; exact h.1; exact hfr k (by omega)
 have hel : WB.cell? (ad.add n.toNat) = some (.int .i64 y) := (hB.cell hEl).trans hel0
 have hnE : ¬ S1 (ad.add n.toNat).block := by rw [hS1]; intro h; rcases h with h | h; exact hnE0 h.1; omega
 have HE : qAi (∀ w' v st', ShO w' g m st' tr S1 okT → Fr WB w' S1 → ShO (w'.setCell ⟨W.heap.size + 1 + 1 + 1 + 1, 0, none⟩ v) g m st' tr S okT ∧ Fr W (w'.setCell ⟨W.heap.size + 1 + 1 + 1 + 1, 0, none⟩ v) S) :=
  ⟨fun w' v st' h k => ⟨(ShO.far h (hn1 (W.heap.size + 1 + 1 + 1 + 1) (by omega) (by omega)) (fun e => by have := hkt (W.heap.size + 1 + 1 + 1 + 1) e; omega) v).mono hs1 (fun _ h => h), (Fr.set ((Fr.of_below hB).then_ k (fun q hq => .inl (hs1 q hq))) (.inr (show W.heap.size ≤ W.heap.size + 1 + 1 + 1 + 1 by omega)) v)⟩⟩
 have HL := am hl
 have HN1 := am hn1
 have HP := am hP
 clear H hl hS1 hn1 hf1 hs1 hB hsz
 have HT := qCI y hH.drew HL.out
 obtain ⟨tb, htb⟩ : ∃ tb, tb = qBb y st := ⟨_, rfl⟩
 rw [← htb] at HT ⊢
 have HT := am HT
 clear htb hC hoff
 subst had
 go_enter Tryz.func89, Tryz.ntmps89
 go_wp2_with fail
 simp only [plW] at hWB
 rw [← hWB]
 clear hWB
 have xi0 := (qAc HP.out.i 0).trans rfl
 have xi1 := (qAc HP.out.i 1).trans rfl
 have xs := (qAc HP.out.s 0).trans rfl
 have xl := (qAc HP.out.l 5).trans rfl
 go_region_held3 (fun W' => W'.cell? ⟨W.heap.size + 1 + 1 + 1, 0, none⟩ = some (.pointer (some ⟨g, 0, none⟩)) ∧ W'.cell? ⟨W.heap.size + 1 + 1, 0, none⟩ = some (.int .i64 5) ∧ W'.cell? ⟨W.heap.size + 1 + 1, 1, none⟩ = some (.int .i64 n) ∧ W'.cell? ⟨W.heap.size + 1 + 1 + 1 + 1 + 1, 5, none⟩ = some (.slice (some ad) n5 c5) ∧ W'.cell? (ad.add n.toNat) = some (.int .i64 y))
  (first | exact ⟨xs, xi0, xi1, xl, hel⟩ | exact ⟨xs', xi0', xi1', xl', hel'⟩ | exact ⟨qA4 xs' _ _ (by intro e; simp at e), qA4 xi0' _ _ (by intro e; simp at e), qA4 xi1' _ _ (by intro e; simp at e), qA4 xl' _ _ (by intro e; simp at e), qA4 hel' _ _ (by intro e; have e' : (ad.add n.toNat).block = W.heap.size + 1 + 1 + 1 + 1 := e; omega)⟩)
  (first
    | (go_at_call 88;
       refine HT.out.mono ?_;
       rintro e w1 ⟨rfl, hS1, hb0⟩;
       have hb1 := Fr.trans (Fr.of_below (qAr (Below.refl _ _))) hb0;
       have HS1 := am hS1;
       have HB1 := am hb1;
       have hPP := HP.out.fr hb1 HN1.out;
       have xr := (qAc hPP.r 0).trans rfl;
       have xrf := qAm hPP.r 0;
       have xs' := hb1.cell xs (HN1.out (W.heap.size + 1 + 1 + 1) (by omega) (by omega));
       have xi0' := hb1.cell xi0 (HN1.out (W.heap.size + 1 + 1) (by omega) (by omega));
       have xi1' := hb1.cell xi1 (HN1.out (W.heap.size + 1 + 1) (by omega) (by omega));
       have xl' := hb1.cell xl (HN1.out (W.heap.size + 1 + 1 + 1 + 1 + 1) (by omega) (by omega));
       have hel' := hb1.cell hel hnE;
       clear hS1 hb0 hb1 hPP))
 go_wp2_with fail
 refine bodyPost_ret (qA5 rfl _ _ ⟨W.heap.size + 1 + 1 + 1 + 1, 0, none⟩ tb rfl (World.cell?_setCell_same _ _ _ (u := .bool false) xr)) rfl ?_
 exact ⟨rfl, HE.out _ _ _ HS1.out HB1.out⟩
theorem plain_5_bad {g : Nat} {m : Bool} {st : List Int} {tr : List S160} {S okT : Nat → Prop} {W : World} (n ty bb : Int) (A1 A2 A3 A4 A5 : Option Addr) (n1 c1 n2 c2 n3 c3 n4 c4 n5 c5 : Nat) (res : Int) (hn : n5 ≤ n) (H : ShO W g m st tr S okT) (hl : st.length ≤ 2000000) (hfr : ∀ k, W.heap.size ≤ k → S k) (hkt : ∀ k, okT k → k < W.heap.size) :
  Calls Tryz.prog 89 #[.agg #[.slice A1 n1 c1, .int .i64 res, .slice A2 n2 c2, .slice A3 n3 c3], .agg #[.slice A4 n4 c4, .slice A5 n5 c5], .agg #[.int .i64 5, .int .i64 n, .int .i64 ty, .int .u64 bb], .pointer (some ⟨g, 0, none⟩)] W fun e w' => e = .returned (.bool (false)) ∧ ShO w' g m (st) tr S okT ∧ Fr W w' S := by
 obtain ⟨WB, hWB⟩ : ∃ WB, WB = plW W g #[.slice A1 n1 c1, .int .i64 res, .slice A2 n2 c2, .slice A3 n3 c3] #[.slice A4 n4 c4, .slice A5 n5 c5] #[.int .i64 5, .int .i64 n, .int .i64 ty, .int .u64 bb] #[.slice none 0 0, .slice none 0 0, .slice A2 n2 c2, .slice A2 n2 c2, .slice A5 n5 c5, .slice A5 n5 c5] := ⟨_, rfl⟩
 have hP := qBm W g #[.slice A1 n1 c1, .int .i64 res, .slice A2 n2 c2, .slice A3 n3 c3] #[.slice A4 n4 c4, .slice A5 n5 c5] #[.int .i64 5, .int .i64 n, .int .i64 ty, .int .u64 bb] #[.slice none 0 0, .slice none 0 0, .slice A2 n2 c2, .slice A2 n2 c2, .slice A5 n5 c5, .slice A5 n5 c5]
 have hB := qAM W g #[.slice A1 n1 c1, .int .i64 res, .slice A2 n2 c2, .slice A3 n3 c3] #[.slice A4 n4 c4, .slice A5 n5 c5] #[.int .i64 5, .int .i64 n, .int .i64 ty, .int .u64 bb] #[.slice none 0 0, .slice none 0 0, .slice A2 n2 c2, .slice A2 n2 c2, .slice A5 n5 c5, .slice A5 n5 c5]
 have hsz := qAQ W g #[.slice A1 n1 c1, .int .i64 res, .slice A2 n2 c2, .slice A3 n3 c3] #[.slice A4 n4 c4, .slice A5 n5 c5] #[.int .i64 5, .int .i64 n, .int .i64 ty, .int .u64 bb] #[.slice none 0 0, .slice none 0 0, .slice A2 n2 c2, .slice A2 n2 c2, .slice A5 n5 c5, .slice A5 n5 c5]
 rw [← hWB] at hP hB hsz
 have hH := H.below hB
 obtain ⟨S1, hS1⟩ : ∃ S1, S1 = (fun q => (S q ∧ q < W.heap.size) ∨ WB.heap.size ≤ q) := ⟨_, rfl⟩
 rw [← hS1] at hH
 have hn1 : ∀ q, W.heap.size ≤ q → q < W.heap.size + 6 → ¬ S1 q := by rw [hS1]; intro q h1 h2 h3; rcases h3 with ⟨_, h⟩ | h <;> omega
 have hf1 : ∀ k, WB.heap.size ≤ k → S1 k := by rw [hS1]; intro k hk; exact .inr hk
 have hs1 : ∀ k, S1 k → S k := by rw [hS1]; intro k hk; rcases hk with h | h; exact h.1; exact hfr k (by omega)
 have HE : qAi (∀ w' v st', ShO w' g m st' tr S1 okT → Fr WB w' S1 → ShO (w'.setCell ⟨W.heap.size + 1 + 1 + 1 + 1, 0, none⟩ v) g m st' tr S okT ∧ Fr W (w'.setCell ⟨W.heap.size + 1 + 1 + 1 + 1, 0, none⟩ v) S) :=
  ⟨fun w' v st' h k => ⟨(ShO.far h (hn1 (W.heap.size + 1 + 1 + 1 + 1) (by omega) (by omega)) (fun e => by have := hkt (W.heap.size + 1 + 1 + 1 + 1) e; omega) v).mono hs1 (fun _ h => h), (Fr.set ((Fr.of_below hB).then_ k (fun q hq => .inl (hs1 q hq))) (.inr (show W.heap.size ≤ W.heap.size + 1 + 1 + 1 + 1 by omega)) v)⟩⟩
 have HP := am hP
 clear H hl hS1 hn1 hf1 hs1 hB hsz
 have HH := am hH
 go_enter Tryz.func89, Tryz.ntmps89
 go_wp2_with fail
 simp only [plW] at hWB
 rw [← hWB]
 clear hWB
 have xi0 := (qAc HP.out.i 0).trans rfl
 have xi1 := (qAc HP.out.i 1).trans rfl
 have xr := (qAc HP.out.r 0).trans rfl
 have xrf := qAm HP.out.r 0
 have xl := (qAc HP.out.l 5).trans rfl
 have hd : decide (n < (n5 : Int)) = false := decide_eq_false (by omega)
 refine wp_region_noPanic ?_
 refine wp_region_held_drew (S := fun W' => W'.cell? ⟨W.heap.size + 1 + 1, 0, none⟩ = some (.int .i64 5) ∧ W'.cell? ⟨W.heap.size + 1 + 1, 1, none⟩ = some (.int .i64 n) ∧ W'.cell? ⟨W.heap.size + 1 + 1 + 1 + 1 + 1, 5, none⟩ = some (.slice A5 n5 c5)) (by kernel_rfl) ⟨xi0, xi1, xl⟩ (fun hHeld => ?_)
 refine hT 0 ?_
 refine hT 1 ?_
 refine hT 2 ?_
 refine hT 3 ?_
 refine hT 4 ?_
 refine hT 5 ?_
 refine hT 6 ?_
 refine hT 7 ?_
 refine hT 8 ?_
 refine hO 9 ?_
 refine hO 10 ?_
 refine hO 11 ?_
 refine hO 12 ?_
 refine hO 13 ?_
 refine hO 14 ?_
 refine hO 15 ?_
 refine hO 16 ?_
 refine hO 17 ?_
 refine hO 18 ?_
 refine hT 19 ?_
 refine wpAnyH_ready (rs := [20]) (by kernel_rfl) (by simp) ?_
 refine AllReadyH.cons (o := _) rfl (fun K hK => ?_) ?_
 ·go_simp
  refine hK.out _ _ ⟨qA4 xi0 _ _ (by intro e; simp at e), qA4 xi1 _ _ (by intro e; simp at e), qA4 xl _ _ (by intro e; simp at e)⟩ (fun hHeld => ?_)
  clear hK K
  try simp only [Act.put, List.getElem_toArray, List.getElem_cons_zero, List.getElem_cons_succ, List.setIfInBounds_toArray, List.set_cons_zero, List.set_cons_succ]
  refine wpAnyH_done (by kernel_rfl) ?_ _
  refine NoPanic.normal ?_
  go_wp2_with fail
  refine bodyPost_ret (qA5 rfl _ _ ⟨W.heap.size + 1 + 1 + 1 + 1, 0, none⟩ false rfl (World.cell?_setCell_same _ _ _ (u := .bool false) xr)) rfl ?_
  exact ⟨rfl, HE.out WB.drew _ _ HH.out.drew (Fr.of_below (qAr (Below.refl _ _)))⟩
 exact AllReadyH.nil
theorem plain_6 {g : Nat} {m : Bool} {st : List Int} {tr : List S160} {S okT : Nat → Prop} {W : World} (n ty bb : Int) (A1 A2 A3 A4 A5 : Option Addr) (n1 c1 n2 c2 n3 c3 n4 c4 n5 c5 : Nat) (res : Int) (H : ShO W g m st tr S okT) (hl : st.length ≤ 2000000) (hfr : ∀ k, W.heap.size ≤ k → S k) (hkt : ∀ k, okT k → k < W.heap.size) :
  Calls Tryz.prog 89 #[.agg #[.slice A1 n1 c1, .int .i64 res, .slice A2 n2 c2, .slice A3 n3 c3], .agg #[.slice A4 n4 c4, .slice A5 n5 c5], .agg #[.int .i64 6, .int .i64 n, .int .i64 ty, .int .u64 bb], .pointer (some ⟨g, 0, none⟩)] W fun e w' => e = .returned (.bool ((qDm 6 n st).1)) ∧ ShO w' g m ((qDm 6 n st).2) tr S okT ∧ Fr W w' S := by
 obtain ⟨WB, hWB⟩ : ∃ WB, WB = plW W g #[.slice A1 n1 c1, .int .i64 res, .slice A2 n2 c2, .slice A3 n3 c3] #[.slice A4 n4 c4, .slice A5 n5 c5] #[.int .i64 6, .int .i64 n, .int .i64 ty, .int .u64 bb] #[.slice none 0 0, .slice none 0 0, .slice A2 n2 c2, .slice A2 n2 c2, .slice A5 n5 c5, .slice A5 n5 c5] := ⟨_, rfl⟩
 have hP := qBm W g #[.slice A1 n1 c1, .int .i64 res, .slice A2 n2 c2, .slice A3 n3 c3] #[.slice A4 n4 c4, .slice A5 n5 c5] #[.int .i64 6, .int .i64 n, .int .i64 ty, .int .u64 bb] #[.slice none 0 0, .slice none 0 0, .slice A2 n2 c2, .slice A2 n2 c2, .slice A5 n5 c5, .slice A5 n5 c5]
 have hB := qAM W g #[.slice A1 n1 c1, .int .i64 res, .slice A2 n2 c2, .slice A3 n3 c3] #[.slice A4 n4 c4, .slice A5 n5 c5] #[.int .i64 6, .int .i64 n, .int .i64 ty, .int .u64 bb] #[.slice none 0 0, .slice none 0 0, .slice A2 n2 c2, .slice A2 n2 c2, .slice A5 n5 c5, .slice A5 n5 c5]
 have hsz := qAQ W g #[.slice A1 n1 c1, .int .i64 res, .slice A2 n2 c2, .slice A3 n3 c3] #[.slice A4 n4 c4, .slice A5 n5 c5] #[.int .i64 6, .int .i64 n, .int .i64 ty, .int .u64 bb] #[.slice none 0 0, .slice none 0 0, .slice A2 n2 c2, .slice A2 n2 c2, .slice A5 n5 c5, .slice A5 n5 c5]
 rw [← hWB] at hP hB hsz
 have hH := H.below hB
 obtain ⟨S1, hS1⟩ : ∃ S1, S1 = (fun q => (S q ∧ q < W.heap.size) ∨ WB.heap.size ≤ q) := ⟨_, rfl⟩
 rw [← hS1] at hH
 have hn1 : ∀ q, W.heap.size ≤ q → q < W.heap.size + 6 → ¬ S1 q := by rw [hS1]; intro q h1 h2 h3; rcases h3 with ⟨_, h⟩ | h <;> omega
 have hf1 : ∀ k, WB.heap.size ≤ k → S1 k := by rw [hS1]; intro k hk; exact .inr hk
 have hs1 : ∀ k, S1 k → S k := by rw [hS1]; intro k hk; rcases hk with h | h; exact h.1; exact hfr k (by omega)
 have HE : qAi (∀ w' v st', ShO w' g m st' tr S1 okT → Fr WB w' S1 → ShO (w'.setCell ⟨W.heap.size + 1 + 1 + 1 + 1, 0, none⟩ v) g m st' tr S okT ∧ Fr W (w'.setCell ⟨W.heap.size + 1 + 1 + 1 + 1, 0, none⟩ v) S) :=
  ⟨fun w' v st' h k => ⟨(ShO.far h (hn1 (W.heap.size + 1 + 1 + 1 + 1) (by omega) (by omega)) (fun e => by have := hkt (W.heap.size + 1 + 1 + 1 + 1) e; omega) v).mono hs1 (fun _ h => h), (Fr.set ((Fr.of_below hB).then_ k (fun q hq => .inl (hs1 q hq))) (.inr (show W.heap.size ≤ W.heap.size + 1 + 1 + 1 + 1 by omega)) v)⟩⟩
 have HL := am hl
 have HN1 := am hn1
 have HF1 := am hf1
 have HP := am hP
 clear H hl hS1 hn1 hf1 hs1 hB hsz
 have HT := operate_o 6 n ty bb hH HL.out HF1.out
 obtain ⟨rr, hrr⟩ : ∃ rr, rr = qDm 6 n st := ⟨_, rfl⟩
 rw [← hrr] at HT ⊢
 have HT := am HT
 clear hrr
 go_enter Tryz.func89, Tryz.ntmps89
 go_wp2_with fail
 simp only [plW] at hWB
 rw [← hWB]
 clear hWB
 go_wp2_with (go_at_call 115; refine HT.out.mono ?_; rintro e w1 ⟨rfl, hS1, hb1⟩; have HS1 := am hS1; have HB1 := am hb1; have xr := (qAc (HP.out.fr hb1 HN1.out).r 0).trans rfl; have xrf := qAm (HP.out.fr hb1 HN1.out).r 0; clear hS1 hb1)
 refine bodyPost_ret (qA5 rfl _ _ ⟨W.heap.size + 1 + 1 + 1 + 1, 0, none⟩ rr.1 rfl (World.cell?_setCell_same _ _ _ (u := .bool false) xr)) rfl ?_
 exact ⟨rfl, HE.out _ _ _ HS1.out HB1.out⟩
theorem plain_7 {g : Nat} {m : Bool} {st : List Int} {tr : List S160} {S okT : Nat → Prop} {W : World} (n ty bb : Int) (A1 A2 A3 A4 A5 : Option Addr) (n1 c1 n2 c2 n3 c3 n4 c4 n5 c5 : Nat) (res : Int) (H : ShO W g m st tr S okT) (hl : st.length ≤ 2000000) (hfr : ∀ k, W.heap.size ≤ k → S k) (hkt : ∀ k, okT k → k < W.heap.size) :
  Calls Tryz.prog 89 #[.agg #[.slice A1 n1 c1, .int .i64 res, .slice A2 n2 c2, .slice A3 n3 c3], .agg #[.slice A4 n4 c4, .slice A5 n5 c5], .agg #[.int .i64 7, .int .i64 n, .int .i64 ty, .int .u64 bb], .pointer (some ⟨g, 0, none⟩)] W fun e w' => e = .returned (.bool ((qDm 7 n st).1)) ∧ ShO w' g m ((qDm 7 n st).2) tr S okT ∧ Fr W w' S := by
 obtain ⟨WB, hWB⟩ : ∃ WB, WB = plW W g #[.slice A1 n1 c1, .int .i64 res, .slice A2 n2 c2, .slice A3 n3 c3] #[.slice A4 n4 c4, .slice A5 n5 c5] #[.int .i64 7, .int .i64 n, .int .i64 ty, .int .u64 bb] #[.slice none 0 0, .slice none 0 0, .slice A2 n2 c2, .slice A2 n2 c2, .slice A5 n5 c5, .slice A5 n5 c5] := ⟨_, rfl⟩
 have hP := qBm W g #[.slice A1 n1 c1, .int .i64 res, .slice A2 n2 c2, .slice A3 n3 c3] #[.slice A4 n4 c4, .slice A5 n5 c5] #[.int .i64 7, .int .i64 n, .int .i64 ty, .int .u64 bb] #[.slice none 0 0, .slice none 0 0, .slice A2 n2 c2, .slice A2 n2 c2, .slice A5 n5 c5, .slice A5 n5 c5]
 have hB := qAM W g #[.slice A1 n1 c1, .int .i64 res, .slice A2 n2 c2, .slice A3 n3 c3] #[.slice A4 n4 c4, .slice A5 n5 c5] #[.int .i64 7, .int .i64 n, .int .i64 ty, .int .u64 bb] #[.slice none 0 0, .slice none 0 0, .slice A2 n2 c2, .slice A2 n2 c2, .slice A5 n5 c5, .slice A5 n5 c5]
 have hsz := qAQ W g #[.slice A1 n1 c1, .int .i64 res, .slice A2 n2 c2, .slice A3 n3 c3] #[.slice A4 n4 c4, .slice A5 n5 c5] #[.int .i64 7, .int .i64 n, .int .i64 ty, .int .u64 bb] #[.slice none 0 0, .slice none 0 0, .slice A2 n2 c2, .slice A2 n2 c2, .slice A5 n5 c5, .slice A5 n5 c5]
 rw [← hWB] at hP hB hsz
 have hH := H.below hB
 obtain ⟨S1, hS1⟩ : ∃ S1, S1 = (fun q => (S q ∧ q < W.heap.size) ∨ WB.heap.size ≤ q) := ⟨_, rfl⟩
 rw [← hS1] at hH
 have hn1 : ∀ q, W.heap.size ≤ q → q < W.heap.size + 6 → ¬ S1 q := by rw [hS1]; intro q h1 h2 h3; rcases h3 with ⟨_, h⟩ | h <;> omega
 have hf1 : ∀ k, WB.heap.size ≤ k → S1 k := by rw [hS1]; intro k hk; exact .inr hk
 have hs1 : ∀ k, S1 k → S k := by rw [hS1]; intro k hk; rcases hk with h | h; exact h.1; exact hfr k (by omega)
 have HE : qAi (∀ w' v st', ShO w' g m st' tr S1 okT → Fr WB w' S1 → ShO (w'.setCell ⟨W.heap.size + 1 + 1 + 1 + 1, 0, none⟩ v) g m st' tr S okT ∧ Fr W (w'.setCell ⟨W.heap.size + 1 + 1 + 1 + 1, 0, none⟩ v) S) :=
  ⟨fun w' v st' h k => ⟨(ShO.far h (hn1 (W.heap.size + 1 + 1 + 1 + 1) (by omega) (by omega)) (fun e => by have := hkt (W.heap.size + 1 + 1 + 1 + 1) e; omega) v).mono hs1 (fun _ h => h), (Fr.set ((Fr.of_below hB).then_ k (fun q hq => .inl (hs1 q hq))) (.inr (show W.heap.size ≤ W.heap.size + 1 + 1 + 1 + 1 by omega)) v)⟩⟩
 have HL := am hl
 have HN1 := am hn1
 have HF1 := am hf1
 have HP := am hP
 clear H hl hS1 hn1 hf1 hs1 hB hsz
 have HT := operate_o 7 n ty bb hH HL.out HF1.out
 obtain ⟨rr, hrr⟩ : ∃ rr, rr = qDm 7 n st := ⟨_, rfl⟩
 rw [← hrr] at HT ⊢
 have HT := am HT
 clear hrr
 go_enter Tryz.func89, Tryz.ntmps89
 go_wp2_with fail
 simp only [plW] at hWB
 rw [← hWB]
 clear hWB
 go_wp2_with (go_at_call 115; refine HT.out.mono ?_; rintro e w1 ⟨rfl, hS1, hb1⟩; have HS1 := am hS1; have HB1 := am hb1; have xr := (qAc (HP.out.fr hb1 HN1.out).r 0).trans rfl; have xrf := qAm (HP.out.fr hb1 HN1.out).r 0; clear hS1 hb1)
 refine bodyPost_ret (qA5 rfl _ _ ⟨W.heap.size + 1 + 1 + 1 + 1, 0, none⟩ rr.1 rfl (World.cell?_setCell_same _ _ _ (u := .bool false) xr)) rfl ?_
 exact ⟨rfl, HE.out _ _ _ HS1.out HB1.out⟩
theorem plain_10_bad {g : Nat} {m : Bool} {st : List Int} {tr : List S160} {S okT : Nat → Prop} {W : World} (n ty bb : Int) (A1 A2 A3 A4 A5 : Option Addr) (n1 c1 n2 c2 n3 c3 n4 c4 n5 c5 : Nat) (res : Int) (hn : n4 ≤ n) (H : ShO W g m st tr S okT) (hl : st.length ≤ 2000000) (hfr : ∀ k, W.heap.size ≤ k → S k) (hkt : ∀ k, okT k → k < W.heap.size) :
  Calls Tryz.prog 89 #[.agg #[.slice A1 n1 c1, .int .i64 res, .slice A2 n2 c2, .slice A3 n3 c3], .agg #[.slice A4 n4 c4, .slice A5 n5 c5], .agg #[.int .i64 10, .int .i64 n, .int .i64 ty, .int .u64 bb], .pointer (some ⟨g, 0, none⟩)] W fun e w' => e = .returned (.bool (false)) ∧ ShO w' g m (st) tr S okT ∧ Fr W w' S := by
 obtain ⟨WB, hWB⟩ : ∃ WB, WB = plW W g #[.slice A1 n1 c1, .int .i64 res, .slice A2 n2 c2, .slice A3 n3 c3] #[.slice A4 n4 c4, .slice A5 n5 c5] #[.int .i64 10, .int .i64 n, .int .i64 ty, .int .u64 bb] #[.slice none 0 0, .slice none 0 0, .slice A2 n2 c2, .slice A2 n2 c2, .slice A5 n5 c5, .slice A5 n5 c5] := ⟨_, rfl⟩
 have hP := qBm W g #[.slice A1 n1 c1, .int .i64 res, .slice A2 n2 c2, .slice A3 n3 c3] #[.slice A4 n4 c4, .slice A5 n5 c5] #[.int .i64 10, .int .i64 n, .int .i64 ty, .int .u64 bb] #[.slice none 0 0, .slice none 0 0, .slice A2 n2 c2, .slice A2 n2 c2, .slice A5 n5 c5, .slice A5 n5 c5]
 have hB := qAM W g #[.slice A1 n1 c1, .int .i64 res, .slice A2 n2 c2, .slice A3 n3 c3] #[.slice A4 n4 c4, .slice A5 n5 c5] #[.int .i64 10, .int .i64 n, .int .i64 ty, .int .u64 bb] #[.slice none 0 0, .slice none 0 0, .slice A2 n2 c2, .slice A2 n2 c2, .slice A5 n5 c5, .slice A5 n5 c5]
 have hsz := qAQ W g #[.slice A1 n1 c1, .int .i64 res, .slice A2 n2 c2, .slice A3 n3 c3] #[.slice A4 n4 c4, .slice A5 n5 c5] #[.int .i64 10, .int .i64 n, .int .i64 ty, .int .u64 bb] #[.slice none 0 0, .slice none 0 0, .slice A2 n2 c2, .slice A2 n2 c2, .slice A5 n5 c5, .slice A5 n5 c5]
 rw [← hWB] at hP hB hsz
 have hH := H.below hB
 obtain ⟨S1, hS1⟩ : ∃ S1, S1 = (fun q => (S q ∧ q < W.heap.size) ∨ WB.heap.size ≤ q) := ⟨_, rfl⟩
 rw [← hS1] at hH
 have hn1 : ∀ q, W.heap.size ≤ q → q < W.heap.size + 6 → ¬ S1 q := by rw [hS1]; intro q h1 h2 h3; rcases h3 with ⟨_, h⟩ | h <;> omega
 have hf1 : ∀ k, WB.heap.size ≤ k → S1 k := by rw [hS1]; intro k hk; exact .inr hk
 have hs1 : ∀ k, S1 k → S k := by rw [hS1]; intro k hk; rcases hk with h | h; exact h.1; exact hfr k (by omega)
 have HE0 : qAi (∀ st', ShO WB g m st' tr S1 okT → ShO WB g m st' tr S okT ∧ Fr W WB S) := ⟨fun st' h => ⟨h.mono hs1 (fun _ h => h), Fr.of_below hB⟩⟩
 have HP := am hP
 clear H hl hS1 hn1 hf1 hs1 hB hsz
 have HH := am hH
 have xp0 := (qAc HP.out.p 0).trans rfl
 have xi1 := (qAc HP.out.i 1).trans rfl
 have xr := (qAc HP.out.r 0).trans rfl
 have xrf := qAm HP.out.r 0
 have hd : decide (n ≥ (n4 : Int)) = true := decide_eq_true (by omega)
 simp only [plW] at hWB
 rw [hWB] at xp0 xi1 xr xrf
 go_enter Tryz.func89, Tryz.ntmps89
 go_wp2_with fail
 rw [← hWB] at xr ⊢
 refine bodyPost_ret (qA5 rfl _ _ ⟨W.heap.size + 1 + 1 + 1 + 1, 0, none⟩ false rfl xr) rfl ?_
 exact ⟨rfl, HE0.out _ HH.out⟩
theorem plain_12 {g : Nat} {m : Bool} {st : List Int} {tr : List S160} {S okT : Nat → Prop} {W : World} (n ty bb : Int) (A1 A2 A3 A4 A5 : Option Addr) (n1 c1 n2 c2 n3 c3 n4 c4 n5 c5 : Nat) (res : Int) (H : ShO W g m st tr S okT) (hl : st.length ≤ 2000000) (hfr : ∀ k, W.heap.size ≤ k → S k) (hkt : ∀ k, okT k → k < W.heap.size) :
  Calls Tryz.prog 89 #[.agg #[.slice A1 n1 c1, .int .i64 res, .slice A2 n2 c2, .slice A3 n3 c3], .agg #[.slice A4 n4 c4, .slice A5 n5 c5], .agg #[.int .i64 12, .int .i64 n, .int .i64 ty, .int .u64 bb], .pointer (some ⟨g, 0, none⟩)] W fun e w' => e = .returned (.bool (st.getLast?.isSome)) ∧ ShO w' g m (st.dropLast) tr S okT ∧ Fr W w' S := by
 obtain ⟨WB, hWB⟩ : ∃ WB, WB = plW W g #[.slice A1 n1 c1, .int .i64 res, .slice A2 n2 c2, .slice A3 n3 c3] #[.slice A4 n4 c4, .slice A5 n5 c5] #[.int .i64 12, .int .i64 n, .int .i64 ty, .int .u64 bb] #[.slice none 0 0, .slice none 0 0, .slice A2 n2 c2, .slice A2 n2 c2, .slice A5 n5 c5, .slice A5 n5 c5] := ⟨_, rfl⟩
 have hP := qBm W g #[.slice A1 n1 c1, .int .i64 res, .slice A2 n2 c2, .slice A3 n3 c3] #[.slice A4 n4 c4, .slice A5 n5 c5] #[.int .i64 12, .int .i64 n, .int .i64 ty, .int .u64 bb] #[.slice none 0 0, .slice none 0 0, .slice A2 n2 c2, .slice A2 n2 c2, .slice A5 n5 c5, .slice A5 n5 c5]
 have hB := qAM W g #[.slice A1 n1 c1, .int .i64 res, .slice A2 n2 c2, .slice A3 n3 c3] #[.slice A4 n4 c4, .slice A5 n5 c5] #[.int .i64 12, .int .i64 n, .int .i64 ty, .int .u64 bb] #[.slice none 0 0, .slice none 0 0, .slice A2 n2 c2, .slice A2 n2 c2, .slice A5 n5 c5, .slice A5 n5 c5]
 have hsz := qAQ W g #[.slice A1 n1 c1, .int .i64 res, .slice A2 n2 c2, .slice A3 n3 c3] #[.slice A4 n4 c4, .slice A5 n5 c5] #[.int .i64 12, .int .i64 n, .int .i64 ty, .int .u64 bb] #[.slice none 0 0, .slice none 0 0, .slice A2 n2 c2, .slice A2 n2 c2, .slice A5 n5 c5, .slice A5 n5 c5]
 rw [← hWB] at hP hB hsz
 have hH := H.below hB
 obtain ⟨S1, hS1⟩ : ∃ S1, S1 = (fun q => (S q ∧ q < W.heap.size) ∨ WB.heap.size ≤ q) := ⟨_, rfl⟩
 rw [← hS1] at hH
 have hn1 : ∀ q, W.heap.size ≤ q → q < W.heap.size + 6 → ¬ S1 q := by rw [hS1]; intro q h1 h2 h3; rcases h3 with ⟨_, h⟩ | h <;> omega
 have hf1 : ∀ k, WB.heap.size ≤ k → S1 k := by rw [hS1]; intro k hk; exact .inr hk
 have hs1 : ∀ k, S1 k → S k := by rw [hS1]; intro k hk; rcases hk with h | h; exact h.1; exact hfr k (by omega)
 have HE : qAi (∀ w' v st', ShO w' g m st' tr S1 okT → Fr WB w' S1 → ShO (w'.setCell ⟨W.heap.size + 1 + 1 + 1 + 1, 0, none⟩ v) g m st' tr S okT ∧ Fr W (w'.setCell ⟨W.heap.size + 1 + 1 + 1 + 1, 0, none⟩ v) S) :=
  ⟨fun w' v st' h k => ⟨(ShO.far h (hn1 (W.heap.size + 1 + 1 + 1 + 1) (by omega) (by omega)) (fun e => by have := hkt (W.heap.size + 1 + 1 + 1 + 1) e; omega) v).mono hs1 (fun _ h => h), (Fr.set ((Fr.of_below hB).then_ k (fun q hq => .inl (hs1 q hq))) (.inr (show W.heap.size ≤ W.heap.size + 1 + 1 + 1 + 1 by omega)) v)⟩⟩
 have HL := am hl
 have HN1 := am hn1
 have HP := am hP
 clear H hl hS1 hn1 hf1 hs1 hB hsz
 have HT := take_o hH HL.out
 unfold topV at HT
 obtain ⟨x, hx⟩ : ∃ x, x = st.getLast?.getD 0 := ⟨_, rfl⟩
 obtain ⟨b, hb⟩ : ∃ b, b = st.getLast?.isSome := ⟨_, rfl⟩
 rw [← hx, ← hb] at HT
 rw [← hb]
 have HT := am HT
 clear hx hb
 go_enter Tryz.func89, Tryz.ntmps89
 go_wp2_with fail
 simp only [plW] at hWB
 rw [← hWB]
 clear hWB
 go_wp2_with (go_at_call 114; refine HT.out.mono ?_; rintro e w1 ⟨rfl, hS1, hb1⟩; have HS1 := am hS1; have HB1 := am hb1; have xr := (qAc (HP.out.fr hb1 HN1.out).r 0).trans rfl; have xrf := qAm (HP.out.fr hb1 HN1.out).r 0; clear hS1 hb1)
 refine bodyPost_ret (qA5 rfl _ _ ⟨W.heap.size + 1 + 1 + 1 + 1, 0, none⟩ b rfl (World.cell?_setCell_same _ _ _ (u := .bool false) xr)) rfl ?_
 exact ⟨rfl, HE.out _ _ _ HS1.out HB1.out⟩
theorem plain_14 {g : Nat} {m : Bool} {st : List Int} {tr : List S160} {S okT : Nat → Prop} {W : World} (n ty bb : Int) (A1 A2 A3 A4 A5 : Option Addr) (n1 c1 n2 c2 n3 c3 n4 c4 n5 c5 : Nat) (res : Int) (H : ShO W g m st tr S okT) (hl : st.length ≤ 2000000) (hfr : ∀ k, W.heap.size ≤ k → S k) (hkt : ∀ k, okT k → k < W.heap.size) :
  Calls Tryz.prog 89 #[.agg #[.slice A1 n1 c1, .int .i64 res, .slice A2 n2 c2, .slice A3 n3 c3], .agg #[.slice A4 n4 c4, .slice A5 n5 c5], .agg #[.int .i64 14, .int .i64 n, .int .i64 ty, .int .u64 bb], .pointer (some ⟨g, 0, none⟩)] W fun e w' => e = .returned (.bool (true)) ∧ ShO w' g m (st ++ [1]) tr S okT ∧ Fr W w' S := by
 have hgl : g < W.heap.size := H.lt
 obtain ⟨WB, hWB⟩ : ∃ WB, WB = plW W g #[.slice A1 n1 c1, .int .i64 res, .slice A2 n2 c2, .slice A3 n3 c3] #[.slice A4 n4 c4, .slice A5 n5 c5] #[.int .i64 14, .int .i64 n, .int .i64 ty, .int .u64 bb] #[.slice none 0 0, .slice none 0 0, .slice A2 n2 c2, .slice A2 n2 c2, .slice A5 n5 c5, .slice A5 n5 c5] := ⟨_, rfl⟩
 have hP := qBm W g #[.slice A1 n1 c1, .int .i64 res, .slice A2 n2 c2, .slice A3 n3 c3] #[.slice A4 n4 c4, .slice A5 n5 c5] #[.int .i64 14, .int .i64 n, .int .i64 ty, .int .u64 bb] #[.slice none 0 0, .slice none 0 0, .slice A2 n2 c2, .slice A2 n2 c2, .slice A5 n5 c5, .slice A5 n5 c5]
 have hB := qAM W g #[.slice A1 n1 c1, .int .i64 res, .slice A2 n2 c2, .slice A3 n3 c3] #[.slice A4 n4 c4, .slice A5 n5 c5] #[.int .i64 14, .int .i64 n, .int .i64 ty, .int .u64 bb] #[.slice none 0 0, .slice none 0 0, .slice A2 n2 c2, .slice A2 n2 c2, .slice A5 n5 c5, .slice A5 n5 c5]
 have hsz := qAQ W g #[.slice A1 n1 c1, .int .i64 res, .slice A2 n2 c2, .slice A3 n3 c3] #[.slice A4 n4 c4, .slice A5 n5 c5] #[.int .i64 14, .int .i64 n, .int .i64 ty, .int .u64 bb] #[.slice none 0 0, .slice none 0 0, .slice A2 n2 c2, .slice A2 n2 c2, .slice A5 n5 c5, .slice A5 n5 c5]
 rw [← hWB] at hP hB hsz
 have hH := H.below hB
 obtain ⟨S1, hS1⟩ : ∃ S1, S1 = (fun q => (S q ∧ q < W.heap.size) ∨ WB.heap.size ≤ q) := ⟨_, rfl⟩
 rw [← hS1] at hH
 have hn1 : ∀ q, W.heap.size ≤ q → q < W.heap.size + 6 → ¬ S1 q := by rw [hS1]; intro q h1 h2 h3; rcases h3 with ⟨_, h⟩ | h <;> omega
 have hf1 : ∀ k, WB.heap.size ≤ k → S1 k := by rw [hS1]; intro k hk; exact .inr hk
 have hs1 : ∀ k, S1 k → S k := by rw [hS1]; intro k hk; rcases hk with h | h; exact h.1; exact hfr k (by omega)
 have HE : qAi (∀ w' v st', ShO w' g m st' tr S1 okT → Fr WB w' S1 → ShO (w'.setCell ⟨W.heap.size + 1 + 1 + 1 + 1, 0, none⟩ v) g m st' tr S okT ∧ Fr W (w'.setCell ⟨W.heap.size + 1 + 1 + 1 + 1, 0, none⟩ v) S) :=
  ⟨fun w' v st' h k => ⟨(ShO.far h (hn1 (W.heap.size + 1 + 1 + 1 + 1) (by omega) (by omega)) (fun e => by have := hkt (W.heap.size + 1 + 1 + 1 + 1) e; omega) v).mono hs1 (fun _ h => h), (Fr.set ((Fr.of_below hB).then_ k (fun q hq => .inl (hs1 q hq))) (.inr (show W.heap.size ≤ W.heap.size + 1 + 1 + 1 + 1 by omega)) v)⟩⟩
 have HL := am hl
 have HN1 := am hn1
 have HF1 := am hf1
 have HP := am hP
 clear H hl hS1 hn1 hf1 hs1 hB hsz
 go_enter Tryz.func89, Tryz.ntmps89
 go_wp2_with fail
 simp only [plW] at hWB
 rw [← hWB]
 clear hWB
 obtain ⟨u1, u2, hV⟩ := hH
 have HV := am hV
 have eg1 := (qAc hV.1 1).trans rfl
 clear hV
 have xs := (qAc HP.out.s 0).trans rfl
 have yg1 := qAz (.cells #[.int .i64 (1)] 3) eg1
 refine wp_region_noPanic ?_
 refine wp_region_held_drew (S := fun W' => W'.cell? ⟨W.heap.size + 1 + 1 + 1, 0, none⟩ = some (.pointer (some ⟨g, 0, none⟩))) (by kernel_rfl) (xs) (fun hHeld => ?_)
 refine hT 0 ?_
 refine hT 1 ?_
 refine hT 2 ?_
 refine hT 3 ?_
 refine wpAnyH_ready (rs := [4, 5]) (by kernel_rfl) (by simp) ?_
 refine AllReadyH.cons (o := _) rfl (fun K hK => ?_) ?_
 ·go_simp
  refine hK.out _ _ (xs) (fun hHeld => ?_)
  clear hK K
  try simp only [Act.put, List.getElem_toArray, List.getElem_cons_zero, List.getElem_cons_succ, List.setIfInBounds_toArray, List.set_cons_zero, List.set_cons_succ]
  refine wpAnyH_ready (rs := [5]) (by kernel_rfl) (by simp) ?_
  refine AllReadyH.cons (o := _) rfl (fun K hK => ?_) ?_
  ·go_simp
   refine hK.out _ _ (qAz (.cells #[.int .i64 (1)] 3) xs) (fun hHeld => ?_)
   clear hK K
   try simp only [Act.put, List.getElem_toArray, List.getElem_cons_zero, List.getElem_cons_succ, List.setIfInBounds_toArray, List.set_cons_zero, List.set_cons_succ]
   refine wpAnyH_ready (rs := [6]) (by kernel_rfl) (by simp) ?_
   refine AllReadyH.cons (o := _) rfl (fun K hK => ?_) ?_
   ·refine qAD HV.out.drew (1) rfl _ _ rfl rfl rfl HF1.out HL.out ?_
    intro A6 c6 w3 h5 h5b h6 h7
    have hFF := Fr.trans (Fr.of_below (qAr (Below.refl _ _))) h5b
    have H6 := am h6
    have H7 := am (Fr.trans (Fr.of_below (qAr (Below.refl _ _))) h7)
    have hP3 := HP.out.fr hFF HN1.out
    have xs' := hFF.cell xs (HN1.out (W.heap.size + 1 + 1 + 1) (by omega) (by omega))
    have xr := (qAc hP3.r 0).trans rfl
    have xrf := qAm hP3.r 0
    have eg3 := (qAc h5 1).trans rfl
    have ef3 := qAm h5 1
    clear h5 h5b h6 h7 hFF
    refine hK.out _ _ (xs') (fun hHeld => ?_)
    clear hK K
    try simp only [Act.put, List.getElem_toArray, List.getElem_cons_zero, List.getElem_cons_succ, List.setIfInBounds_toArray, List.set_cons_zero, List.set_cons_succ]
    refine hT 7 ?_
    refine hT 8 ?_
    refine wpAnyH_ready (rs := [9]) (by kernel_rfl) (by simp) ?_
    refine AllReadyH.cons (o := _) rfl (fun K hK => ?_) ?_
    ·go_simp
     refine hK.out _ _ (qA9 xs' _ _ (HN1.out (W.heap.size + 1 + 1 + 1) (by omega) (by omega)) HV.out.2.1) (fun hHeld => ?_)
     clear hK K
     try simp only [Act.put, List.getElem_toArray, List.getElem_cons_zero, List.getElem_cons_succ, List.setIfInBounds_toArray, List.set_cons_zero, List.set_cons_succ]
     refine wpAnyH_done (by kernel_rfl) ?_ _
     refine NoPanic.normal ?_
     go_wp2
     refine bodyPost_ret (qA5 rfl _ _ ⟨W.heap.size + 1 + 1 + 1 + 1, 0, none⟩ true rfl (qBp xr (by intro e; injection e with e; omega))) rfl ?_
     exact ⟨rfl, HE.out _ _ _ H6.out H7.out⟩
    exact AllReadyH.nil
   exact AllReadyH.nil
  exact AllReadyH.nil
 refine AllReadyH.cons (o := _) rfl (fun K hK => ?_) ?_
 ·go_simp
  refine hK.out _ _ (qAz (.cells #[.int .i64 (1)] 3) xs) (fun hHeld => ?_)
  clear hK K
  try simp only [Act.put, List.getElem_toArray, List.getElem_cons_zero, List.getElem_cons_succ, List.setIfInBounds_toArray, List.set_cons_zero, List.set_cons_succ]
  refine wpAnyH_ready (rs := [4]) (by kernel_rfl) (by simp) ?_
  refine AllReadyH.cons (o := _) rfl (fun K hK => ?_) ?_
  ·go_simp
   refine hK.out _ _ (qAz (.cells #[.int .i64 (1)] 3) xs) (fun hHeld => ?_)
   clear hK K
   try simp only [Act.put, List.getElem_toArray, List.getElem_cons_zero, List.getElem_cons_succ, List.setIfInBounds_toArray, List.set_cons_zero, List.set_cons_succ]
   refine wpAnyH_ready (rs := [6]) (by kernel_rfl) (by simp) ?_
   refine AllReadyH.cons (o := _) rfl (fun K hK => ?_) ?_
   ·refine qAD HV.out.drew (1) rfl _ _ rfl rfl rfl HF1.out HL.out ?_
    intro A6 c6 w3 h5 h5b h6 h7
    have hFF := Fr.trans (Fr.of_below (qAr (Below.refl _ _))) h5b
    have H6 := am h6
    have H7 := am (Fr.trans (Fr.of_below (qAr (Below.refl _ _))) h7)
    have hP3 := HP.out.fr hFF HN1.out
    have xs' := hFF.cell xs (HN1.out (W.heap.size + 1 + 1 + 1) (by omega) (by omega))
    have xr := (qAc hP3.r 0).trans rfl
    have xrf := qAm hP3.r 0
    have eg3 := (qAc h5 1).trans rfl
    have ef3 := qAm h5 1
    clear h5 h5b h6 h7 hFF
    refine hK.out _ _ (xs') (fun hHeld => ?_)
    clear hK K
    try simp only [Act.put, List.getElem_toArray, List.getElem_cons_zero, List.getElem_cons_succ, List.setIfInBounds_toArray, List.set_cons_zero, List.set_cons_succ]
    refine hT 7 ?_
    refine hT 8 ?_
    refine wpAnyH_ready (rs := [9]) (by kernel_rfl) (by simp) ?_
    refine AllReadyH.cons (o := _) rfl (fun K hK => ?_) ?_
    ·go_simp
     refine hK.out _ _ (qA9 xs' _ _ (HN1.out (W.heap.size + 1 + 1 + 1) (by omega) (by omega)) HV.out.2.1) (fun hHeld => ?_)
     clear hK K
     try simp only [Act.put, List.getElem_toArray, List.getElem_cons_zero, List.getElem_cons_succ, List.setIfInBounds_toArray, List.set_cons_zero, List.set_cons_succ]
     refine wpAnyH_done (by kernel_rfl) ?_ _
     refine NoPanic.normal ?_
     go_wp2
     refine bodyPost_ret (qA5 rfl _ _ ⟨W.heap.size + 1 + 1 + 1 + 1, 0, none⟩ true rfl (qBp xr (by intro e; injection e with e; omega))) rfl ?_
     exact ⟨rfl, HE.out _ _ _ H6.out H7.out⟩
    exact AllReadyH.nil
   exact AllReadyH.nil
  exact AllReadyH.nil
 exact AllReadyH.nil
theorem plain_17 {g : Nat} {m : Bool} {st : List Int} {tr : List S160} {S okT : Nat → Prop} {W : World} (n ty bb : Int) (A1 A2 A3 A4 A5 : Option Addr) (n1 c1 n2 c2 n3 c3 n4 c4 n5 c5 : Nat) (res : Int) (H : ShO W g m st tr S okT) (hl : st.length ≤ 2000000) (hfr : ∀ k, W.heap.size ≤ k → S k) (hkt : ∀ k, okT k → k < W.heap.size) :
  Calls Tryz.prog 89 #[.agg #[.slice A1 n1 c1, .int .i64 res, .slice A2 n2 c2, .slice A3 n3 c3], .agg #[.slice A4 n4 c4, .slice A5 n5 c5], .agg #[.int .i64 17, .int .i64 n, .int .i64 ty, .int .u64 bb], .pointer (some ⟨g, 0, none⟩)] W fun e w' => e = .returned (.bool (st.getLast?.isSome)) ∧ ShO w' g m (st.dropLast) tr S okT ∧ Fr W w' S := by
 obtain ⟨WB, hWB⟩ : ∃ WB, WB = plW W g #[.slice A1 n1 c1, .int .i64 res, .slice A2 n2 c2, .slice A3 n3 c3] #[.slice A4 n4 c4, .slice A5 n5 c5] #[.int .i64 17, .int .i64 n, .int .i64 ty, .int .u64 bb] #[.slice none 0 0, .slice none 0 0, .slice A2 n2 c2, .slice A2 n2 c2, .slice A5 n5 c5, .slice A5 n5 c5] := ⟨_, rfl⟩
 have hP := qBm W g #[.slice A1 n1 c1, .int .i64 res, .slice A2 n2 c2, .slice A3 n3 c3] #[.slice A4 n4 c4, .slice A5 n5 c5] #[.int .i64 17, .int .i64 n, .int .i64 ty, .int .u64 bb] #[.slice none 0 0, .slice none 0 0, .slice A2 n2 c2, .slice A2 n2 c2, .slice A5 n5 c5, .slice A5 n5 c5]
 have hB := qAM W g #[.slice A1 n1 c1, .int .i64 res, .slice A2 n2 c2, .slice A3 n3 c3] #[.slice A4 n4 c4, .slice A5 n5 c5] #[.int .i64 17, .int .i64 n, .int .i64 ty, .int .u64 bb] #[.slice none 0 0, .slice none 0 0, .slice A2 n2 c2, .slice A2 n2 c2, .slice A5 n5 c5, .slice A5 n5 c5]
 have hsz := qAQ W g #[.slice A1 n1 c1, .int .i64 res, .slice A2 n2 c2, .slice A3 n3 c3] #[.slice A4 n4 c4, .slice A5 n5 c5] #[.int .i64 17, .int .i64 n, .int .i64 ty, .int .u64 bb] #[.slice none 0 0, .slice none 0 0, .slice A2 n2 c2, .slice A2 n2 c2, .slice A5 n5 c5, .slice A5 n5 c5]
 rw [← hWB] at hP hB hsz
 have hH := H.below hB
 obtain ⟨S1, hS1⟩ : ∃ S1, S1 = (fun q => (S q ∧ q < W.heap.size) ∨ WB.heap.size ≤ q) := ⟨_, rfl⟩
 rw [← hS1] at hH
 have hn1 : ∀ q, W.heap.size ≤ q → q < W.heap.size + 6 → ¬ S1 q := by rw [hS1]; intro q h1 h2 h3; rcases h3 with ⟨_, h⟩ | h <;> omega
 have hf1 : ∀ k, WB.heap.size ≤ k → S1 k := by rw [hS1]; intro k hk; exact .inr hk
 have hs1 : ∀ k, S1 k → S k := by rw [hS1]; intro k hk; rcases hk with h | h; exact h.1; exact hfr k (by omega)
 have HE : qAi (∀ w' v st', ShO w' g m st' tr S1 okT → Fr WB w' S1 → ShO (w'.setCell ⟨W.heap.size + 1 + 1 + 1 + 1, 0, none⟩ v) g m st' tr S okT ∧ Fr W (w'.setCell ⟨W.heap.size + 1 + 1 + 1 + 1, 0, none⟩ v) S) :=
  ⟨fun w' v st' h k => ⟨(ShO.far h (hn1 (W.heap.size + 1 + 1 + 1 + 1) (by omega) (by omega)) (fun e => by have := hkt (W.heap.size + 1 + 1 + 1 + 1) e; omega) v).mono hs1 (fun _ h => h), (Fr.set ((Fr.of_below hB).then_ k (fun q hq => .inl (hs1 q hq))) (.inr (show W.heap.size ≤ W.heap.size + 1 + 1 + 1 + 1 by omega)) v)⟩⟩
 have HL := am hl
 have HN1 := am hn1
 have HP := am hP
 clear H hl hS1 hn1 hf1 hs1 hB hsz
 have HT := take_o hH HL.out
 unfold topV at HT
 obtain ⟨x, hx⟩ : ∃ x, x = st.getLast?.getD 0 := ⟨_, rfl⟩
 obtain ⟨b, hb⟩ : ∃ b, b = st.getLast?.isSome := ⟨_, rfl⟩
 rw [← hx, ← hb] at HT
 rw [← hb]
 have HT := am HT
 clear hx hb
 go_enter Tryz.func89, Tryz.ntmps89
 go_wp2_with fail
 simp only [plW] at hWB
 rw [← hWB]
 clear hWB
 go_wp2_with (go_at_call 114; refine HT.out.mono ?_; rintro e w1 ⟨rfl, hS1, hb1⟩; have HS1 := am hS1; have HB1 := am hb1; have xr := (qAc (HP.out.fr hb1 HN1.out).r 0).trans rfl; have xrf := qAm (HP.out.fr hb1 HN1.out).r 0; clear hS1 hb1)
 refine bodyPost_ret (qA5 rfl _ _ ⟨W.heap.size + 1 + 1 + 1 + 1, 0, none⟩ b rfl (World.cell?_setCell_same _ _ _ (u := .bool false) xr)) rfl ?_
 exact ⟨rfl, HE.out _ _ _ HS1.out HB1.out⟩
end Q
end
section
namespace Q
open Go.RowKit Go.Shelf YA YC YB
attribute [local go_sem] Oper.semAt_some
def qBe (m k : Nat) : List Nat := (List.range k).map (fun j => m - 1 - j)
theorem qBF (m k : Nat) : qBe m (k + 1) = qBe m k ++ [m - 1 - k] := by simp [qBe, List.range_succ]
theorem backs_length (m k : Nat) : (qBe m k).length = k := by simp [qBe]
def intQ (v : Value) : Int := match v with | .int _ i => i | _ => 0
def KpC (C : Addr → Prop) (W W' : World) : Prop := ∀ a, C a → ∀ v, W.cell? a = some v → W'.cell? a = some v
theorem KpC.refl (C : Addr → Prop) (W : World) : KpC C W W := fun _ _ _ h => h
theorem KpC.t {C : Addr → Prop} {A B D : World} (h : KpC C A B) (k : KpC C B D) : KpC C A D := fun a ha v e => k a ha v (h a ha v e)
theorem KpC.b {C : Addr → Prop} {w : World} (W : World) (l : Nat) (o o' : Obj) (_ : w.heap.size ≤ l) (h : W.heap[l]? = some o) (hc : o.isCells = false) (_ : o.isWalk = false) : KpC C W (W.putObj l o') :=
 fun _ _ _ e => cell_kept e (grownBy_putObj' W l o') (fun r er => by cases er; exact ⟨_, h, hc⟩)
theorem backI1_in (F : Fence) (n : Nat) (hf : F.fn 129) (hro : F.round = none) (hn : 1 ≤ n) (l Bs : Nat) (A : Option Addr) (c : Nat) (ps : List Int) (m : Nat) (hm : m ≤ 2000000) (C : Addr → Prop) (hCb : C ⟨Bs, 0, none⟩) (hCr : ∀ ad, A = some ad → ∀ j, j < m → C (ad.add j)) (J Jx : List Nat → World → Prop)
  (hY : ∀ (pre : List Nat) (x : Nat) (W : World), J pre W → pre.length < m → YieldAt F (n - 1) Tryz.prog l #[.int .i64 (x : Int), .int .i64 (ps.getD x 0)] W fun e W' =>
    (e = .returned (.bool true) ∧ J (pre ++ [x]) W' ∧ KpC C W W') ∨ (e = .returned (.bool false) ∧ Jx (pre ++ [x]) W'))
  (W : World) (hBs : W.cell? ⟨Bs, 0, none⟩ = some (.slice A m c)) (hc : ∀ j, j < m → ∃ ad, A = some ad ∧ W.cell? (ad.add j) = some (.int .i64 (ps.getD j 0))) (h0 : J [] W) :
  CallsIn F n Tryz.prog 129 #[.func (.yield l) #[] #[], .pointer (some ⟨Bs, 0, none⟩)] W fun e W' => (∃ v, e = .returned v) ∧
   ((∃ ys, ys = qBe m m ∧ J ys W') ∨ (∃ pre, (∃ k, k ≤ m ∧ pre = qBe m k) ∧ Jx pre W')) := by
 refine callsIn_of_wp Tryz.func129 rfl hf ?_ hro
 simp only [Tryz.ntmps129, List.size_toArray, List.length_cons, List.length_nil, Nat.reduceAdd, Nat.reduceSub, Array.replicate_succ, Array.replicate_zero, List.push_toArray, List.append_toArray, List.nil_append, List.cons_append]
 gi_wp2
 gi_loopw [3] (fun i wr => ∃ (k : Nat) (pre : List Nat), pre = qBe m k ∧ ((∃ q : Nat, q + 1 + k = m ∧ i = .int .i64 (q : Int)) ∨ (k = m ∧ i = .int .i64 (-1))) ∧ J pre wr ∧ KpC C W wr)
  (fun i _ => (intQ i + 1).toNat)
 case atStart =>
  refine ⟨0, [], rfl, ?_, h0, KpC.refl _ _⟩
  by_cases h : m = 0
  ·right; subst h; exact ⟨rfl, by simp⟩
  left; refine ⟨m - 1, by omega, ?_⟩
  go_num
 case round =>
  obtain ⟨k, pre, hp, hi, hJs, hkp⟩ := hrel
  have hbx := hkp _ hCb _ hBs
  rcases hi with ⟨q, hq, rfl⟩ | ⟨rfl, rfl⟩
  ·have hqm : q < m := by omega
   obtain ⟨ad, hA, hx0⟩ := hc q hqm
   have hy0 := hkp _ (hCr ad hA q hqm) _ hx0
   subst hA
   have hpl : pre.length = k := by rw [hp]; exact backs_length _ _
   obtain ⟨fn, tmps, assign, body, hy, hR⟩ := hY pre q wr hJs (by omega)
   try dsimp only at hy
   obtain ⟨z, hz⟩ : ∃ z, z = ps.getD q 0 := ⟨_, rfl⟩
   rw [← hz] at hy0 hy
   clear hz
   gi_wp2
   refine hR.mono ?_
   rintro e W3 (⟨rfl, hJ3, hk3⟩ | ⟨rfl, hJx3⟩)
   ·gi_wp2
    go_roundw
    case rel =>
     refine ⟨k + 1, pre ++ [q], ?_, ?_, hJ3, hkp.t hk3⟩
     ·rw [qBF, ← hp]; simp; omega
     by_cases h : q = 0
     ·right; subst h; exact ⟨by omega, by simp⟩
     left; exact ⟨q - 1, by omega, by go_num⟩
    case measure => simp [intQ]
   gi_wp2
   refine bodyPost_ret (results_none rfl _ _ _) rfl ?_
   exact ⟨⟨_, rfl⟩, .inr ⟨pre ++ [q], ⟨k + 1, by omega, by rw [qBF, ← hp]; simp; omega⟩, hJx3⟩⟩
  gi_wp2
  go_end0
  exact ⟨⟨_, rfl⟩, .inl ⟨_, hp, hJs⟩⟩
theorem backwardI_in (F : Fence) (n : Nat) (hf : F.fn 116) (hro : F.round = none) (a : Option Addr) (len cap : Nat) (w : World) :
  CallsIn F n Tryz.prog 116 #[.slice a len cap] w fun e w' => e = .returned (.func (.func 129) #[] #[.pointer (some ⟨w.heap.size, 0, none⟩)]) ∧ w' = w.alloc (.cells #[.slice a len cap] 22) := by
 refine callsIn_of_wp Tryz.func116 rfl hf ?_ hro
 simp only [Tryz.ntmps116, List.size_toArray, List.length_cons, List.length_nil, Nat.reduceAdd, Nat.reduceSub, Array.replicate_succ, Array.replicate_zero, List.push_toArray, List.append_toArray, List.nil_append, List.cons_append]
 gi_wp2
 go_ret
 exact ⟨rfl, rfl⟩
theorem backI_stops (F : Fence) (n : Nat) (hf : F.fn 129) (hro : F.round = none) (hn : 1 ≤ n) (Bs : Nat) (A : Option Addr) (c : Nat) (ps : List Int) (m : Nat) (hm : m ≤ 2000000) (C : Addr → Prop) (hCb : C ⟨Bs, 0, none⟩) (hCr : ∀ ad, A = some ad → ∀ j, j < m → C (ad.add j)) (w : World)
  (hBs : w.cell? ⟨Bs, 0, none⟩ = some (.slice A m c)) (hc : ∀ j, j < m → ∃ ad, A = some ad ∧ w.cell? (ad.add j) = some (.int .i64 (ps.getD j 0))) :
  SeqStopsK F n Tryz.prog 129 #[.pointer (some ⟨Bs, 0, none⟩)] (fun x : Nat => #[.int .i64 (x : Int), .int .i64 (ps.getD x 0)]) (KpC C) (fun ys => ys = qBe m m) (fun pre => ∃ k, k ≤ m ∧ pre = qBe m k) m w := fun l J Jx W hW _ _ hY h0 =>
 backI1_in F n hf hro hn l Bs A c ps m hm C hCb hCr J Jx hY W ((hW.cell (World.block_lt_of_cell? _ _ hBs)).trans hBs) (fun j hj => by obtain ⟨ad, hA, hx⟩ := hc j hj; exact ⟨ad, hA, (hW.cell (World.block_lt_of_cell? _ _ hx)).trans hx⟩) h0
def qA3 : List Int → List Int → Bool × List Int
 | [], st => (true, st)
 | t :: ts, st => if qBb t st = true then qA3 ts st.dropLast else (false, st.dropLast)
theorem qC4 (t : Int) : ∀ (ts st : List Int), qA3 (ts ++ [t]) st = if (qA3 ts st).1 = true then (qBb t (qA3 ts st).2, (qA3 ts st).2.dropLast) else qA3 ts st
 | [], st => by
  simp only [List.nil_append, qA3]
  cases qBb t st <;> simp
 | u :: ts, st => by
  by_cases h : qBb u st = true
  ·have e1 : qA3 (u :: ts ++ [t]) st = qA3 (ts ++ [t]) st.dropLast := by simp [qA3, h]
   have e2 : qA3 (u :: ts) st = qA3 ts st.dropLast := by simp [qA3, h]
   simp only [e1, e2]
   exact qC4 t ts _
  have e1 : qA3 (u :: ts ++ [t]) st = (false, st.dropLast) := by simp [qA3, h]
  have e2 : qA3 (u :: ts) st = (false, st.dropLast) := by simp [qA3, h]
  rw [e1]
  simp only [e2]
  rw [if_neg (by simp)]
theorem qC5 : ∀ (ts us st : List Int), (qA3 ts st).1 = false → qA3 (ts ++ us) st = qA3 ts st
 | [], us, st, h => by simp [qA3] at h
 | t :: ts, us, st, h => by
  by_cases hb : qBb t st = true
  rotate_left
  ·have e1 : qA3 (t :: ts ++ us) st = (false, st.dropLast) := by simp [qA3, hb]
   have e2 : qA3 (t :: ts) st = (false, st.dropLast) := by simp [qA3, hb]
   rw [e1, e2]
  have e1 : qA3 (t :: ts ++ us) st = qA3 (ts ++ us) st.dropLast := by simp [qA3, hb]
  have e2 : qA3 (t :: ts) st = qA3 ts st.dropLast := by simp [qA3, hb]
  rw [e1, e2]
  exact qC5 ts us _ (by rw [← e2]; exact h)
def qCQ (ps : List Int) (r : Int) (st : List Int) : Bool × List Int :=
 if (qA3 ps.reverse st).1 = true then (true, if r = 0 then (qA3 ps.reverse st).2 else (qA3 ps.reverse st).2 ++ [r]) else (false, (qA3 ps.reverse st).2)
theorem qB7 : ∀ (ts st : List Int), (qA3 ts st).2.length ≤ st.length
 | [], st => Nat.le_refl _
 | t :: ts, st => by
  simp only [qA3]
  split
  ·exact Nat.le_trans (qB7 ts _) (by simp)
  simp
theorem backs_map (ps : List Int) : ∀ k, k ≤ ps.length → (qBe ps.length k).map (fun q => ps.getD q 0) = ps.reverse.take k := by
 intro k hk
 apply List.ext_getElem
 ·simp [qBe]; omega
 intro i h1 h2
 simp [qBe] at h1 ⊢
 rw [List.getElem?_eq_getElem (by omega)]
 simp
theorem backs_all (ps : List Int) : (qBe ps.length ps.length).map (fun q => ps.getD q 0) = ps.reverse := by
 rw [backs_map ps ps.length (Nat.le_refl _), List.take_of_length_le (by simp)]
theorem backs_stop (ps st : List Int) (k : Nat) (hk : k ≤ ps.length) (h : (qA3 ((qBe ps.length k).map (fun q => ps.getD q 0)) st).1 = false) : qA3 ps.reverse st = qA3 ((qBe ps.length k).map (fun q => ps.getD q 0)) st := by
 rw [backs_map ps k hk] at h ⊢
 have e : ps.reverse = ps.reverse.take k ++ ps.reverse.drop k := (List.take_append_drop k _).symm
 conv => lhs; rw [e]
 exact qC5 _ _ _ h
theorem ShO.grown {W W' : World} {g N : Nat} {m : Bool} {st : List Int} {tr : List S160} {S okT : Nat → Prop} (h : ShO W g m st tr S okT) {row : Option Nat} (hg : W.grownBy W' row) (hr : ∀ r, row = some r → N ≤ r) (hS : ∀ q, S q → q < N) (hk : ∀ q, okT q → q < N) : ShO W' g m st tr S okT := by
 have hne : ∀ q, S q ∨ okT q → some q ≠ row := fun q hq e => by
  have h1 := hr q e.symm
  rcases hq with h | h
  ·have := hS q h; omega
  have := hk q h; omega
 obtain ⟨v1, v2, h0, h1, h2, h3, h4⟩ := h
 exact ⟨v1, v2, (hg.block g (qBf h0) (hne g (.inl h1))).trans h0, h1, Kd.N_grown h2 hg (fun k hk => hne k (.inl hk.1)), h3, Kd.N_grown h4 hg (fun k hk => hne k hk.1)⟩
theorem ShO.grown2 {W W' : World} {g : Nat} {m : Bool} {st : List Int} {tr : List S160} {S okT : Nat → Prop} (h : ShO W g m st tr S okT) {r : Nat} (hg : W.grownBy W' (some r)) (hS : ¬ S r) (hk : ¬ okT r) : ShO W' g m st tr S okT := by
 have hne : ∀ q, S q ∨ okT q → some q ≠ some r := fun q hq e => by
  injection e with e
  subst e
  rcases hq with h | h
  ·exact hS h
  exact hk h
 obtain ⟨v1, v2, h0, h1, h2, h3, h4⟩ := h
 exact ⟨v1, v2, (hg.block g (qBf h0) (hne g (.inl h1))).trans h0, h1, Kd.N_grown h2 hg (fun k hk => hne k (.inl hk.1)), h3, Kd.N_grown h4 hg (fun k hk => hne k hk.1)⟩
theorem Fr.grown {W W' W1 : World} {S : Nat → Prop} (h : Fr W1 W S) {row : Option Nat} (hg : W.grownBy W' row) (hr : ∀ r, row = some r → W1.heap.size ≤ r) : Fr W1 W' S :=
 ⟨h.1.grown hg (Nat.zero_le _) (fun _ _ => Nat.zero_le _), Nat.le_trans h.2.1 hg.size, fun i hi hn => (hg.block i (Nat.lt_of_lt_of_le hi h.2.1) (fun e => by have := hr i e.symm; omega)).trans (h.2.2 i hi hn)⟩
theorem Fr.keeps {V V1 : World} {S : Nat → Prop} {N : Nat} (h : Fr V V1 S) (hs : ∀ q, S q → q < N) : KeepsFrom N V V1 :=
 ⟨h.2.1, fun k o hk hko _ => (h.2.2 k (Array.getElem?_eq_some_iff.1 hko).1 (fun e => by have := hs k e; omega)).trans hko⟩
theorem Fr.kpC {V V1 : World} {S : Nat → Prop} {C : Addr → Prop} (h : Fr V V1 S) (hc : ∀ a, C a → ¬ S a.block) : KpC C V V1 := fun a ha v hv => h.cell hv (hc a ha)
theorem ShO.cut {W : World} {g : Nat} {m : Bool} {st : List Int} {tr : List S160} {S okT : Nat → Prop} (h : ShO W g m st tr S okT) : ShO W g m st tr (fun q => S q ∧ q < W.heap.size) (fun q => okT q ∧ q < W.heap.size) := by
 obtain ⟨v1, v2, h0, h1, h2, h3, h4⟩ := h
 have h5 := Kd.N_lt h4
 refine ⟨v1, v2, h0, ⟨h1, qBf h0⟩, Kd.N_mono (Kd.N_bound h2) (fun q hq => ⟨⟨hq.1.1, hq.2⟩, hq.1.2⟩), fun k hk => ⟨h3 k hk, h5 k hk⟩, Kd.N_mono (Kd.N_bound h4) (fun q hq => ⟨?_, hq.1.2⟩)⟩
 rcases hq.1.1 with h | h
 ·exact .inl ⟨h, hq.2⟩
 exact .inr ⟨h, hq.2⟩
theorem sig_F {W : World} {okF : Nat → Prop} {A : Option Addr} {n : Nat} {fs : List S34} (hF : Kd.F k34 W okF A n fs) (i : Int) (h0 : 0 ≤ i) (h1 : i < n) :
  ∃ ad D d, A = some ad ∧ W.cell? (ad.add (i.toNat * 2)) = some (.slice D (qBc fs i).f0.length d) ∧ W.cell? ⟨(ad.add (i.toNat * 2)).block, (ad.add (i.toNat * 2)).off + 1, none⟩ = some (.int .i64 (qBc fs i).f1) ∧ (qBc fs i).f0.length ≤ d ∧ Kd.F (Kd.int .i64) W okF D (qBc fs i).f0.length (qBc fs i).f0 ∧ okF ad.block := by
 obtain ⟨ad, c, rfl, hcl, hK, hcc0, hok⟩ := Kd.F_get hF z34 i h0 h1
 have hcc : ∀ j u, c[j]? = some u → W.cell? (ad.add (i.toNat * 2 + j)) = some u := hcc0
 obtain ⟨D, d, hcs, hd, _⟩ := k34_open (Kd.FK_now hK)
 subst hcs
 refine ⟨ad, D, d, rfl, hcc 0 _ rfl, by rw [← qBi _ _ 1 (by omega)]; exact hcc 1 _ rfl, hd, fun W' hW => ?_, hok (by decide)⟩
 obtain ⟨D', d', hcs', _, hC'⟩ := k34_open (hK W' hW)
 injection hcs' with e1 _
 injection e1 with e1 _ _
 rw [e1]
 exact hC'
theorem F_cells {W : World} {okF : Nat → Prop} {D : Option Addr} {n : Nat} {ps : List Int} (h : Kd.F (Kd.int .i64) W okF D n ps) {ad : Addr} (hA : D = some ad) (hn : 0 < n) (j : Nat) : okF (ad.add j).block ∧ (ad.add j).block < W.heap.size := by
 have h1 := Kd.F_in h hA hn (by decide)
 obtain ⟨ad', he, hc⟩ := qDi (Kd.F_now h) 0 hn
 rw [hA] at he
 injection he with he
 subst he
 have h2 := World.block_lt_of_cell? _ _ hc
 have hba : ∀ (a : Addr) (i : Nat), (a.add i).block = a.block := fun a i => by unfold Addr.add; split <;> rfl
 rw [hba] at h2 ⊢
 exact ⟨h1, h2⟩
theorem plain_10in {g : Nat} {m : Bool} {st : List Int} {tr : List S160} {S okT okF : Nat → Prop} {W : World} (n ty bb : Int) (A1 A2 A3 A4 A5 : Option Addr) (n1 c1 n2 c2 n3 c3 n4 c4 n5 c5 : Nat) (res : Int) (fs : List S34) (hF : Kd.F k34 W okF A4 n4 fs) (hoff : ∀ q, okF q → ¬ S q) (hn0 : 0 ≤ n) (hn : n < n4) (hpl : (qBc fs n).f0.length ≤ 2000000)
  (H : ShO W g m st tr S okT) (hl : st.length ≤ 2000000) (hfr : ∀ k, W.heap.size ≤ k → S k) (hkt : ∀ k, okT k → k < W.heap.size) :
  CallsIn Fence.wide 9 Tryz.prog 89 #[.agg #[.slice A1 n1 c1, .int .i64 res, .slice A2 n2 c2, .slice A3 n3 c3], .agg #[.slice A4 n4 c4, .slice A5 n5 c5], .agg #[.int .i64 10, .int .i64 n, .int .i64 ty, .int .u64 bb], .pointer (some ⟨g, 0, none⟩)] W fun e w' => e = .returned (.bool (qCQ (qBc fs n).f0 (qBc fs n).f1 st).1) ∧ ShO w' g m (qCQ (qBc fs n).f0 (qBc fs n).f1 st).2 tr S okT ∧ Fr W w' S := by
 have hd : decide (n ≥ (n4 : Int)) = false := decide_eq_false (by omega)
 obtain ⟨fa, D0, d0, hfa, hf0, hf1, hpc, hFp, hokfa⟩ := sig_F hF n hn0 hn
 subst hfa
 obtain ⟨ps, hps⟩ : ∃ ps, ps = (qBc fs n).f0 := ⟨_, rfl⟩
 obtain ⟨r, hr⟩ : ∃ r, r = (qBc fs n).f1 := ⟨_, rfl⟩
 rw [← hps, ← hr]
 rw [← hps] at hf0 hpc hFp hpl
 rw [← hr] at hf1
 obtain ⟨rr, hrr⟩ : ∃ rr, rr = qCQ ps r st := ⟨_, rfl⟩
 rw [← hrr]
 have HRR := am hrr
 clear hrr
 obtain ⟨pk, hpk⟩ : ∃ k, k = ps.length := ⟨_, rfl⟩
 rw [← hpk] at hf0 hpc hFp hpl
 have hpC := Kd.F_now hFp
 have hB := qAM W g #[.slice A1 n1 c1, .int .i64 res, .slice A2 n2 c2, .slice A3 n3 c3] #[.slice (some fa) n4 c4, .slice A5 n5 c5] #[.int .i64 10, .int .i64 n, .int .i64 ty, .int .u64 bb] #[.slice none 0 0, .slice none 0 0, .slice A2 n2 c2, .slice A2 n2 c2, .slice A5 n5 c5, .slice A5 n5 c5]
 have ef0 := (hB.cell (World.block_lt_of_cell? _ _ hf0)).trans hf0
 have ef1 := (hB.cell (World.block_lt_of_cell? _ _ hf1)).trans hf1
 simp only [plW] at ef0 ef1
 have hgl : g < W.heap.size := H.lt
 have hD0 : ∀ ad, D0 = some ad → ∀ j, 0 < pk → ¬ S (ad.add j).block ∧ (ad.add j).block < W.heap.size := fun ad hA j hp => ⟨hoff _ (F_cells hFp hA hp j).1, (F_cells hFp hA hp j).2⟩
 obtain ⟨WL, hWL⟩ : ∃ WL, WL = (plW W g #[.slice A1 n1 c1, .int .i64 res, .slice A2 n2 c2, .slice A3 n3 c3] #[.slice (some fa) n4 c4, .slice A5 n5 c5] #[.int .i64 10, .int .i64 n, .int .i64 ty, .int .u64 bb] #[.slice none 0 0, .slice none 0 0, .slice A2 n2 c2, .slice A2 n2 c2, .slice A5 n5 c5, .slice A5 n5 c5]).alloc (.cells #[.slice D0 pk d0] 22) := ⟨_, rfl⟩
 have hP : PB W.heap.size g #[.slice A1 n1 c1, .int .i64 res, .slice A2 n2 c2, .slice A3 n3 c3] #[.slice (some fa) n4 c4, .slice A5 n5 c5] #[.int .i64 10, .int .i64 n, .int .i64 ty, .int .u64 bb] #[.slice none 0 0, .slice none 0 0, .slice A2 n2 c2, .slice A2 n2 c2, .slice A5 n5 c5, .slice A5 n5 c5] WL := by
  rw [hWL]
  exact (qBm W g _ _ _ _).fr (S := fun _ => False) (Fr.of_below (qAb (Below.refl _ _) _)) (fun _ _ _ h => h)
 have hsz : WL.heap.size = W.heap.size + 7 := by rw [hWL]; simp [qAQ]
 have hBL : Below W.heap.size W WL := by rw [hWL]; exact hB.trans ((qAb (Below.refl _ _) _).mono (by rw [qAQ]; omega))
 have hbs : WL.cell? ⟨W.heap.size + 1 + 1 + 1 + 1 + 1 + 1, 0, none⟩ = some (.slice D0 pk d0) := by
  rw [hWL]
  have := (qAc (qAF (plW W g #[.slice A1 n1 c1, .int .i64 res, .slice A2 n2 c2, .slice A3 n3 c3] #[.slice (some fa) n4 c4, .slice A5 n5 c5] #[.int .i64 10, .int .i64 n, .int .i64 ty, .int .u64 bb] #[.slice none 0 0, .slice none 0 0, .slice A2 n2 c2, .slice A2 n2 c2, .slice A5 n5 c5, .slice A5 n5 c5]) (.cells #[.slice D0 pk d0] 22)) 0).trans rfl
  rwa [qAQ] at this
 have hHL := (H.below hBL).cut
 obtain ⟨S2, hS2⟩ : ∃ S2, S2 = (fun q => ((S q ∧ q < W.heap.size) ∨ WL.heap.size ≤ q) ∧ q < WL.heap.size) := ⟨_, rfl⟩
 obtain ⟨okT2, hk2⟩ : ∃ S2, S2 = (fun q => okT q ∧ q < WL.heap.size) := ⟨_, rfl⟩
 rw [← hS2, ← hk2] at hHL
 have hs2 : ∀ q, S2 q → S q ∧ q < W.heap.size := by rw [hS2]; intro q hq; rcases hq.1 with h | h; exact h; have := hq.2; omega
 have hs2N : ∀ q, S2 q → q < WL.heap.size := fun q hq => by have := (hs2 q hq).2; omega
 have hkN : ∀ q, okT2 q → q < WL.heap.size := by rw [hk2]; exact fun q hq => hq.2
 have HKT : qAi (∀ q, okT2 q → okT q ∧ q < W.heap.size) := ⟨by rw [hk2]; exact fun q hq => ⟨hq.1, hkt q hq.1⟩⟩
 have HE1 := am hf1
 have HBL := am hBL
 have HHL := am hHL
 have HS2 := am hs2
 have HS2N := am hs2N
 have HKN := am hkN
 have HPB := am hP
 have HD0 := am hD0
 have HPC : qAi (Kd.C (Kd.int .i64) W D0 pk ps) := ⟨hpC⟩
 have HL := am hl
 clear H hF hf0 hf1 hps hr hB hBL hHL hs2 hs2N hkN hS2 hk2 hP hD0 hpC hl
 have hw1 : Fence.wide.fn 116 := trivial
 have hw2 : Fence.wide.fn 88 := trivial
 have hw3 : Fence.wide.fn 129 := trivial
 have HPK := am hpk
 clear hpk
 refine callsIn_of_wp_marks Tryz.func89 rfl trivial ?_ rfl
 simp only [Tryz.ntmps89, List.size_toArray, List.length_cons, List.length_nil, Nat.reduceAdd, Nat.reduceSub, Array.replicate_succ, Array.replicate_zero, List.push_toArray, List.append_toArray, List.nil_append, List.cons_append]
 gi_wp2_with (gi_at_call 116; refine (backwardI_in Fence.wide 8 trivial rfl _ _ _ _).mono ?_; rintro e w' ⟨rfl, rfl⟩)
 simp only [plW] at hWL
 rw [← hWL]
 clear hWL ef0 ef1
 refine wpIn_rangeFunc_ownG (α := Nat) (w0 := WL) rfl (by decide) (gf := 129) (lb := #[.pointer (some ⟨W.heap.size + 1 + 1 + 1 + 1 + 1 + 1, 0, none⟩)]) rfl hw3 (enters_of Tryz.func129 (by kernel_rfl) rfl)
  (backI_stops Fence.wide 8 hw3 rfl (by decide) (W.heap.size + 1 + 1 + 1 + 1 + 1 + 1) D0 d0 ps pk hpl (fun a => a = ⟨W.heap.size + 1 + 1 + 1 + 1 + 1 + 1, 0, none⟩ ∨ ∃ ad j, D0 = some ad ∧ 0 < pk ∧ a = ad.add j) (.inl rfl) ?hCr WL hbs ?hcells) KpC.t (fun W l o o' => KpC.b (w := WL) W l o o') (Below.refl _ _) (fun _ => rfl)
  (fun pre V => (qA3 (pre.map (fun q => ps.getD q 0)) st).1 = true ∧ ShO V g m (qA3 (pre.map (fun q => ps.getD q 0)) st).2 tr S2 okT2 ∧ Fr WL V S2)
  (fun c pre V => c = .ret ∧ (qA3 (pre.map (fun q => ps.getD q 0)) st).1 = false ∧ ShO V g m (qA3 (pre.map (fun q => ps.getD q 0)) st).2 tr S2 okT2 ∧ Fr WL V (fun q => S2 q ∨ q = W.heap.size + 1 + 1 + 1 + 1) ∧ V.cell? ⟨W.heap.size + 1 + 1 + 1 + 1, 0, none⟩ = some (.bool false))
  ?hI ?hIx ⟨rfl, HHL.out, Fr.refl _ _⟩ ?a1 ?assign ?body ?done ?stop
 case assign =>
  intro l y W K hK
  gi_wp2
  exact hK
 case hCr => exact fun ad hA j hj => .inr ⟨ad, j, hA, by omega, rfl⟩
 case hcells =>
  intro j hj
  obtain ⟨ad, had, hcell⟩ := qDi HPC.out j hj
  exact ⟨ad, had, (HBL.out.cell (World.block_lt_of_cell? _ _ hcell)).trans hcell⟩
 case hI =>
  rintro pre V V' row ⟨h1, h2, h3⟩ hg hr'
  exact ⟨h1, h2.grown hg (fun q e => (hr' q e).1) HS2N.out HKN.out, h3.grown hg (fun q e => (hr' q e).1)⟩
 case hIx =>
  rintro c pre V V' row ⟨h0, h1, h2, h3, h4⟩ hg hr'
  exact ⟨h0, h1, h2.grown hg (fun q e => (hr' q e).1) HS2N.out HKN.out, h3.grown hg (fun q e => (hr' q e).1), qBG hg h4 (fun e => by have := (hr' _ e.symm).1; simp at this; omega)⟩
 case body =>
  rintro l pre y V ⟨h1, h2, h3⟩ hlen
  have hP3 := HPB.out.fr h3 (fun q ha hb hq => by have := (HS2.out q hq).2; omega)
  have xs := (qAc hP3.s 0).trans rfl
  obtain ⟨z, hz⟩ : ∃ z, z = ps[y]?.getD 0 := ⟨_, rfl⟩
  have hsn := qC4 z (pre.map (fun q => ps.getD q 0)) st
  rw [if_pos h1] at hsn
  have hmap : (pre ++ [y]).map (fun q => ps.getD q 0) = pre.map (fun q => ps.getD q 0) ++ [z] := by simp [hz, List.getD_eq_getElem?_getD]
  have hlen2 := qB7 (pre.map (fun q => ps.getD q 0)) st
  obtain ⟨st', hst'⟩ : ∃ s, s = (qA3 (pre.map (fun q => ps.getD q 0)) st).2 := ⟨_, rfl⟩
  rw [← hst'] at h2 hsn hlen2
  have HT := qCI z h2 (Nat.le_trans hlen2 HL.out)
  obtain ⟨tb, htb⟩ : ∃ b, b = qBb z st' := ⟨_, rfl⟩
  rw [← htb] at HT hsn
  rw [← hz]
  have HT := am HT
  have H3 := am h3
  have HSN := am hsn
  have HMP := am hmap
  have HP3 := am hP3
  clear hz h1 h2 h3 hP3 htb hlen2 hst' hsn hmap
  gi_wp2_with (gi_at_call 88; refine (CallsIn.inRound l (callsIn_wide.2 HT.out)).mono ?_; rintro e V1 ⟨rfl, hS1, hF1⟩; have HS1 := am hS1; have HF1 := am hF1; have hP4 := HP3.out.fr hF1 (fun q ha hb hq => by have := (HS2.out q hq).2; omega); have xr1 := (qAc hP4.r 0).trans rfl; have xrf1 := qAm hP4.r 0; clear hS1 hF1 hP4)
  ·rename_i hb
   have e1 : tb = false := by simpa using hb
   subst e1
   refine ⟨(HF1.out.keeps HS2N.out).trans (Fr.keeps (S := fun q => q = W.heap.size + 1 + 1 + 1 + 1) (Fr.set (S := fun q => q = W.heap.size + 1 + 1 + 1 + 1) (Fr.refl _ _) (.inl rfl) _) (fun q hq => by rw [hq]; omega)), rfl, ?_, ?_, ?_, World.cell?_setCell_same _ _ _ xr1⟩
   ·rw [HMP.out, HSN.out]
   ·rw [HMP.out, HSN.out]
    exact ShO.far HS1.out (fun h => by have := (HS2.out _ h).2; simp at this; omega) (fun h => by have := (HKT.out _ h).2; simp at this; omega) _
   exact Fr.set (((H3.out.trans HF1.out)).mono (fun q hq => .inl hq)) (.inl (.inr rfl)) _
  rename_i hb
  have e1 : tb = true := by simpa using hb
  subst e1
  refine ⟨HF1.out.keeps HS2N.out, HF1.out.kpC ?_, ?_, ?_, H3.out.trans HF1.out⟩
  ·rintro a (rfl | ⟨ad, j, hA, hp, rfl⟩) hq
   ·have := (HS2.out _ hq).2; simp at this; omega
   exact (HD0.out ad hA j hp).1 (HS2.out _ hq).1
  ·rw [HMP.out, HSN.out]
  rw [HMP.out, HSN.out]
  exact HS1.out
 case stop =>
  rintro D c pre V hD ⟨k, hk, rfl⟩ ⟨rfl, h1, h2, h3, h4⟩ hK
  have hrr := HRR.out
  unfold qCQ at hrr
  rw [HPK.out] at hk h1 h2
  rw [backs_stop ps st k hk h1, if_neg (by rw [h1]; simp)] at hrr
  gi_wp2
  have hg := grownBy_putObj' V D (.deferred none)
  have h4' := qBG hg h4 (fun e => by injection e with e; simp at e; omega)
  refine ⟨by simp, .inl ⟨_, _, rfl, run_takeDeferred hK, ?_⟩⟩
  refine ⟨_, qA5 rfl _ _ ⟨W.heap.size + 1 + 1 + 1 + 1, 0, none⟩ false rfl h4', ?_⟩
  refine ⟨by rw [hrr], ?_, (Fr.of_below HBL.out).then_ (Fr.grown h3 hg (fun q e => by injection e with e; omega)) (fun q hq => ?_)⟩
  ·rw [hrr]
   exact (ShO.grown h2 hg (fun q e => by injection e with e; omega) HS2N.out HKN.out).mono (fun q hq => (HS2.out q hq).1) (fun q hq => (HKT.out q hq).1)
  rcases hq with h | h
  ·exact .inl (HS2.out q h).1
  exact .inr (by omega)
 case done =>
  rintro D ys V hD rfl ⟨h1, h2, h3⟩ hK
  have hP3 := HPB.out.fr h3 (fun q ha hb hq => by have := (HS2.out q hq).2; omega)
  have xr := (qAc hP3.r 0).trans rfl
  have xrf := qAm hP3.r 0
  have xp := (qAc hP3.p 0).trans rfl
  have xi1 := (qAc hP3.i 1).trans rfl
  have hba : ∀ (a : Addr) (i : Nat), (a.add i).block = a.block := fun a i => by unfold Addr.add; split <;> rfl
  have ef1 := h3.cell ((HBL.out.cell (World.block_lt_of_cell? _ _ HE1.out)).trans HE1.out) (fun hq => hoff _ hokfa (by have := (HS2.out _ hq).1; rwa [hba] at this))
  have HP3 := am hP3
  have H1 := am h1
  have H2 := am h2
  have H3 := am h3
  have HK := am hK
  clear h1 h2 h3 hP3 hba
  gi_wp2
  ·rename_i hr0
   obtain ⟨S3, hS3⟩ : ∃ S3, S3 = (fun q => S2 q ∨ V.heap.size ≤ q) := ⟨_, rfl⟩
   have hDV : D < V.heap.size := (Array.getElem?_eq_some_iff.1 HK.out).1
   have HND : qAi (¬ S3 D) := ⟨by rw [hS3]; intro h; rcases h with h | h; have := (HS2.out _ h).2; omega; omega⟩
   have HN1 : qAi (∀ q, W.heap.size ≤ q → q < W.heap.size + 6 → ¬ S3 q) := ⟨by rw [hS3]; intro q h1 h2 h3; rcases h3 with h | h; have := (HS2.out _ h).2; omega; omega⟩
   have HF1 : qAi (∀ k, V.heap.size ≤ k → S3 k) := ⟨by rw [hS3]; intro k hk; exact .inr hk⟩
   have HS3 : qAi (∀ q, S3 q → S q) := ⟨by rw [hS3]; intro q hq; rcases hq with h | h; exact (HS2.out q h).1; exact hfr q (by omega)⟩
   have hH3 : ShO V g m (qA3 ((qBe pk pk).map (fun q => ps.getD q 0)) st).2 tr S3 okT2 := H2.out.mono (by rw [hS3]; exact fun q hq => .inl hq) (fun _ h => h)
   have hbk : (qBe pk pk).map (fun q => ps.getD q 0) = ps.reverse := by rw [HPK.out]; exact backs_all ps
   have h1 := H1.out
   rw [hbk] at hH3 h1
   have hcs : qCQ ps r st = (true, (qA3 ps.reverse st).2 ++ [r]) := by unfold qCQ; rw [if_pos h1, if_neg (by simpa using hr0)]
   have hlen2 := qB7 ps.reverse st
   obtain ⟨st', hst'⟩ : ∃ s, s = (qA3 ps.reverse st).2 := ⟨_, rfl⟩
   rw [← hst'] at hH3 hcs hlen2
   have HL := am (Nat.le_trans hlen2 HL.out)
   obtain ⟨u1, u2, hV⟩ := hH3
   have HV := am hV
   have eg1 := (qAc hV.1 1).trans rfl
   have xs := (qAc HP3.out.s 0).trans rfl
   have HP := HP3
   clear hV hS3 hbk h1 hst' hlen2
   refine wpIn_wide.2 ?_
   have yg1 := qAz (.cells #[.int .i64 (r)] 3) eg1
   refine wp_region_noPanic ?_
   refine wp_region_held_drew (S := fun W' => W'.cell? ⟨W.heap.size + 1 + 1 + 1, 0, none⟩ = some (.pointer (some ⟨g, 0, none⟩))) (by kernel_rfl) (xs) (fun hHeld => ?_)
   refine hT 0 ?_
   refine hT 1 ?_
   refine hT 2 ?_
   refine hT 3 ?_
   refine hT 5 ?_
   refine wpAnyH_ready (rs := [4, 6]) (by kernel_rfl) (by simp) ?_
   refine AllReadyH.cons (o := _) rfl (fun K hK => ?_) ?_
   ·go_simp
    refine hK.out _ _ (xs) (fun hHeld => ?_)
    clear hK K
    skip
    refine wpAnyH_ready (rs := [6]) (by kernel_rfl) (by simp) ?_
    refine AllReadyH.cons (o := _) rfl (fun K hK => ?_) ?_
    ·go_simp
     refine hK.out _ _ (qAz (.cells #[.int .i64 (r)] 3) xs) (fun hHeld => ?_)
     clear hK K
     skip
     refine wpAnyH_ready (rs := [7]) (by kernel_rfl) (by simp) ?_
     refine AllReadyH.cons (o := _) rfl (fun K hK => ?_) ?_
     ·refine qAD HV.out.drew (r) rfl _ _ rfl rfl rfl HF1.out HL.out ?_
      intro A6 c6 w3 h5 h5b h6 h7
      have hFF := Fr.trans (Fr.of_below (qAr (Below.refl _ _))) h5b
      have H6 := am h6
      have H7 := am (Fr.trans (Fr.of_below (qAr (Below.refl _ _))) h7)
      have hP3 := HP.out.fr hFF HN1.out
      have xs' := hFF.cell xs (HN1.out (W.heap.size + 1 + 1 + 1) (by omega) (by omega))
      have xr := (qAc hP3.r 0).trans rfl
      have xrf := qAm hP3.r 0
      have eg3 := (qAc h5 1).trans rfl
      have ef3 := qAm h5 1
      have hD3 := hFF.blk HK.out HND.out
      clear h5 h5b h6 h7 hFF
      refine hK.out _ _ (xs') (fun hHeld => ?_)
      clear hK K
      try simp only [Act.put, List.getElem_toArray, List.getElem_cons_zero, List.getElem_cons_succ, List.setIfInBounds_toArray, List.set_cons_zero, List.set_cons_succ]
      refine hT 8 ?_
      refine hT 9 ?_
      refine wpAnyH_ready (rs := [10]) (by kernel_rfl) (by simp) ?_
      refine AllReadyH.cons (o := _) rfl (fun K hK => ?_) ?_
      ·go_simp
       refine hK.out _ _ (qA9 xs' _ _ (HN1.out (W.heap.size + 1 + 1 + 1) (by omega) (by omega)) HV.out.2.1) (fun hHeld => ?_)
       clear hK K
       skip
       refine wpAnyH_done (by kernel_rfl) ?_ _
       refine NoPanic.normal ?_
       gi_wp2
       refine ⟨by simp, .inl ⟨_, _, rfl, run_takeDeferred ((Below.heap_setCell _ _ _ D (by simp; omega)).trans ((Below.heap_setCell _ _ _ D (by simp; omega)).trans hD3)), ?_⟩⟩
       refine ⟨_, qA5 rfl _ _ ⟨W.heap.size + 1 + 1 + 1 + 1, 0, none⟩ true rfl (qBG (grownBy_putObj' _ D (.deferred none)) (qBp xr (by intro e; injection e with e; omega)) (fun e => by injection e with e; simp at e; omega)), ?_⟩
       have hrr := HRR.out
       refine ⟨by rw [hrr, hcs], ?_, ?_⟩
       ·rw [hrr, hcs]
        refine (ShO.grown2 (ShO.far H6.out (HN1.out (W.heap.size + 1 + 1 + 1 + 1) (by omega) (by omega)) (fun h => by have := (HKT.out _ h).2; simp at this; omega) _) (grownBy_putObj' _ D (.deferred none)) HND.out (fun h => by have := (HKT.out _ h).2; omega)).mono HS3.out (fun q hq => (HKT.out q hq).1)
       exact Fr.grown (Fr.set (((Fr.of_below HBL.out).then_ H3.out (fun q hq => .inl (HS2.out q hq).1)).then_ H7.out (fun q hq => .inl (HS3.out q hq))) (.inr (show W.heap.size ≤ W.heap.size + 1 + 1 + 1 + 1 by omega)) _) (grownBy_putObj' _ D (.deferred none)) (fun q e => by injection e with e; omega)
      exact AllReadyH.nil
     exact AllReadyH.nil
    exact AllReadyH.nil
   refine AllReadyH.cons (o := _) rfl (fun K hK => ?_) ?_
   ·go_simp
    refine hK.out _ _ (qAz (.cells #[.int .i64 (r)] 3) xs) (fun hHeld => ?_)
    clear hK K
    skip
    refine wpAnyH_ready (rs := [4]) (by kernel_rfl) (by simp) ?_
    refine AllReadyH.cons (o := _) rfl (fun K hK => ?_) ?_
    ·go_simp
     refine hK.out _ _ (qAz (.cells #[.int .i64 (r)] 3) xs) (fun hHeld => ?_)
     clear hK K
     skip
     refine wpAnyH_ready (rs := [7]) (by kernel_rfl) (by simp) ?_
     refine AllReadyH.cons (o := _) rfl (fun K hK => ?_) ?_
     ·refine qAD HV.out.drew (r) rfl _ _ rfl rfl rfl HF1.out HL.out ?_
      intro A6 c6 w3 h5 h5b h6 h7
      have hFF := Fr.trans (Fr.of_below (qAr (Below.refl _ _))) h5b
      have H6 := am h6
      have H7 := am (Fr.trans (Fr.of_below (qAr (Below.refl _ _))) h7)
      have hP3 := HP.out.fr hFF HN1.out
      have xs' := hFF.cell xs (HN1.out (W.heap.size + 1 + 1 + 1) (by omega) (by omega))
      have xr := (qAc hP3.r 0).trans rfl
      have xrf := qAm hP3.r 0
      have eg3 := (qAc h5 1).trans rfl
      have ef3 := qAm h5 1
      have hD3 := hFF.blk HK.out HND.out
      clear h5 h5b h6 h7 hFF
      refine hK.out _ _ (xs') (fun hHeld => ?_)
      clear hK K
      try simp only [Act.put, List.getElem_toArray, List.getElem_cons_zero, List.getElem_cons_succ, List.setIfInBounds_toArray, List.set_cons_zero, List.set_cons_succ]
      refine hT 8 ?_
      refine hT 9 ?_
      refine wpAnyH_ready (rs := [10]) (by kernel_rfl) (by simp) ?_
      refine AllReadyH.cons (o := _) rfl (fun K hK => ?_) ?_
      ·go_simp
       refine hK.out _ _ (qA9 xs' _ _ (HN1.out (W.heap.size + 1 + 1 + 1) (by omega) (by omega)) HV.out.2.1) (fun hHeld => ?_)
       clear hK K
       skip
       refine wpAnyH_done (by kernel_rfl) ?_ _
       refine NoPanic.normal ?_
       gi_wp2
       refine ⟨by simp, .inl ⟨_, _, rfl, run_takeDeferred ((Below.heap_setCell _ _ _ D (by simp; omega)).trans ((Below.heap_setCell _ _ _ D (by simp; omega)).trans hD3)), ?_⟩⟩
       refine ⟨_, qA5 rfl _ _ ⟨W.heap.size + 1 + 1 + 1 + 1, 0, none⟩ true rfl (qBG (grownBy_putObj' _ D (.deferred none)) (qBp xr (by intro e; injection e with e; omega)) (fun e => by injection e with e; simp at e; omega)), ?_⟩
       have hrr := HRR.out
       refine ⟨by rw [hrr, hcs], ?_, ?_⟩
       ·rw [hrr, hcs]
        refine (ShO.grown2 (ShO.far H6.out (HN1.out (W.heap.size + 1 + 1 + 1 + 1) (by omega) (by omega)) (fun h => by have := (HKT.out _ h).2; simp at this; omega) _) (grownBy_putObj' _ D (.deferred none)) HND.out (fun h => by have := (HKT.out _ h).2; omega)).mono HS3.out (fun q hq => (HKT.out q hq).1)
       exact Fr.grown (Fr.set (((Fr.of_below HBL.out).then_ H3.out (fun q hq => .inl (HS2.out q hq).1)).then_ H7.out (fun q hq => .inl (HS3.out q hq))) (.inr (show W.heap.size ≤ W.heap.size + 1 + 1 + 1 + 1 by omega)) _) (grownBy_putObj' _ D (.deferred none)) (fun q e => by injection e with e; omega)
      exact AllReadyH.nil
     exact AllReadyH.nil
    exact AllReadyH.nil
   exact AllReadyH.nil
  rename_i hr0
  have hr1 : r = 0 := by simpa using hr0
  have hbk : (qBe pk pk).map (fun q => ps.getD q 0) = ps.reverse := by rw [HPK.out]; exact backs_all ps
  have h1 := H1.out
  have h2 := H2.out
  rw [hbk] at h1 h2
  have hcs : qCQ ps r st = (true, (qA3 ps.reverse st).2) := by unfold qCQ; rw [if_pos h1, if_pos hr1]
  have hrr := HRR.out
  refine ⟨by simp, .inl ⟨_, _, rfl, run_takeDeferred ((Below.heap_setCell _ _ _ D (by simp; omega)).trans HK.out), ?_⟩⟩
  refine ⟨_, qA5 rfl _ _ ⟨W.heap.size + 1 + 1 + 1 + 1, 0, none⟩ true rfl (qBG (grownBy_putObj' _ D (.deferred none)) (World.cell?_setCell_same _ _ _ (u := .bool false) xr) (fun e => by injection e with e; simp at e; omega)), ?_⟩
  refine ⟨by rw [hrr, hcs], ?_, ?_⟩
  ·rw [hrr, hcs]
   refine (ShO.grown2 (ShO.far h2 (fun h => by have := (HS2.out _ h).2; simp at this; omega) (fun h => by have := (HKT.out _ h).2; simp at this; omega) _) (grownBy_putObj' _ D (.deferred none)) (fun h => by have := (HS2.out _ h).2; omega) (fun h => by have := (HKT.out _ h).2; omega)).mono (fun q hq => (HS2.out q hq).1) (fun q hq => (HKT.out q hq).1)
  exact Fr.grown (Fr.set ((Fr.of_below HBL.out).then_ H3.out (fun q hq => .inl (HS2.out q hq).1)) (.inr (show W.heap.size ≤ W.heap.size + 1 + 1 + 1 + 1 by omega)) _) (grownBy_putObj' _ D (.deferred none)) (fun q e => by injection e with e; omega)
theorem plain_10 {g : Nat} {m : Bool} {st : List Int} {tr : List S160} {S okT okF : Nat → Prop} {W : World} (n ty bb : Int) (A1 A2 A3 A4 A5 : Option Addr) (n1 c1 n2 c2 n3 c3 n4 c4 n5 c5 : Nat) (res : Int) (fs : List S34) (hF : Kd.F k34 W okF A4 n4 fs) (hoff : ∀ q, okF q → ¬ S q) (hn0 : 0 ≤ n) (hn : n < n4) (hpl : (qBc fs n).f0.length ≤ 2000000)
  (H : ShO W g m st tr S okT) (hl : st.length ≤ 2000000) (hfr : ∀ k, W.heap.size ≤ k → S k) (hkt : ∀ k, okT k → k < W.heap.size) :
  Calls Tryz.prog 89 #[.agg #[.slice A1 n1 c1, .int .i64 res, .slice A2 n2 c2, .slice A3 n3 c3], .agg #[.slice A4 n4 c4, .slice A5 n5 c5], .agg #[.int .i64 10, .int .i64 n, .int .i64 ty, .int .u64 bb], .pointer (some ⟨g, 0, none⟩)] W fun e w' => e = .returned (.bool (qCQ (qBc fs n).f0 (qBc fs n).f1 st).1) ∧ ShO w' g m (qCQ (qBc fs n).f0 (qBc fs n).f1 st).2 tr S okT ∧ Fr W w' S :=
 callsIn_wide.1 (plain_10in n ty bb A1 A2 A3 A4 A5 n1 c1 n2 c2 n3 c3 n4 c4 n5 c5 res fs hF hoff hn0 hn hpl H hl hfr hkt)
end Q
end
section
namespace Q
open Go.RowKit YA YC YB
def qAR (ls vs : List Int) (fs : List S34) (op n ty : Int) (st : List Int) : Bool × List Int :=
 if op = 1 then (true, st ++ [ty])
 else if op = 2 then (if n < ls.length then (true, st ++ [ls.getD n.toNat 0]) else (false, st))
 else if op = 3 then (if n < ls.length then (qBb (ls.getD n.toNat 0) st, st.dropLast) else (false, st))
 else if op = 4 then (if n < vs.length then (true, st ++ [vs.getD n.toNat 0]) else (false, st))
 else if op = 5 then (if n < vs.length then (qBb (vs.getD n.toNat 0) st, st.dropLast) else (false, st))
 else if op = 6 ∨ op = 7 then qDm op n st
 else if op = 10 then (if n < fs.length then qCQ (qBc fs n).f0 (qBc fs n).f1 st else (false, st))
 else if op = 14 then (true, st ++ [1])
 else (st.getLast?.isSome, st.dropLast)
def plainOp (op : Int) : Prop := op = 1 ∨ op = 2 ∨ op = 3 ∨ op = 4 ∨ op = 5 ∨ op = 6 ∨ op = 7 ∨ op = 10 ∨ op = 12 ∨ op = 14 ∨ op = 17
theorem plain_any {g : Nat} {m : Bool} {st : List Int} {tr : List S160} {S okT okF : Nat → Prop} {W : World} (op n ty bb : Int) (A1 A2 A3 A4 A5 : Option Addr) (n1 c1 n3 c3 c2 c4 c5 : Nat) (res : Int) (ls vs : List Int) (fs : List S34)
  (hop : plainOp op) (hn0 : 0 ≤ n) (hL : Kd.F (Kd.int .i64) W okF A2 ls.length ls) (hV : Kd.F (Kd.int .i64) W okF A5 vs.length vs) (hF : Kd.F k34 W okF A4 fs.length fs) (hoff : ∀ q, okF q → ¬ S q) (hpl : ∀ x ∈ fs, x.f0.length ≤ 2000000)
  (H : ShO W g m st tr S okT) (hl : st.length ≤ 2000000) (hfr : ∀ k, W.heap.size ≤ k → S k) (hkt : ∀ k, okT k → k < W.heap.size) :
  Calls Tryz.prog 89 #[.agg #[.slice A1 n1 c1, .int .i64 res, .slice A2 ls.length c2, .slice A3 n3 c3], .agg #[.slice A4 fs.length c4, .slice A5 vs.length c5], .agg #[.int .i64 op, .int .i64 n, .int .i64 ty, .int .u64 bb], .pointer (some ⟨g, 0, none⟩)] W fun e w' => e = .returned (.bool (qAR ls vs fs op n ty st).1) ∧ ShO w' g m (qAR ls vs fs op n ty st).2 tr S okT ∧ Fr W w' S := by
 have off : ∀ {A : Option Addr} {xs : List Int}, Kd.F (Kd.int .i64) W okF A xs.length xs → 0 < xs.length → ∀ ad, A = some ad → ∀ i, ¬ S (ad.add i).block := fun h hp ad hA i => hoff _ (F_cells h hA hp i).1
 rcases hop with rfl | rfl | rfl | rfl | rfl | rfl | rfl | rfl | rfl | rfl | rfl
 ·exact plain_1 n ty bb A1 A2 A3 A4 A5 n1 c1 ls.length c2 n3 c3 fs.length c4 vs.length c5 res H hl hfr hkt
 ·by_cases hn : n < ls.length
  ·rw [show qAR ls vs fs 2 n ty st = (true, st ++ [ls.getD n.toNat 0]) by simp [qAR, hn]]
   exact plain_2 n ty bb A1 A2 A3 A4 A5 n1 c1 ls.length c2 n3 c3 fs.length c4 vs.length c5 res ls (Kd.F_now hL) (off hL (by omega)) hn0 hn H hl hfr hkt
  ·rw [show qAR ls vs fs 2 n ty st = (false, st) by simp [qAR, hn]]
   exact plain_2_bad n ty bb A1 A2 A3 A4 A5 n1 c1 ls.length c2 n3 c3 fs.length c4 vs.length c5 res (by omega) H hl hfr hkt
 ·by_cases hn : n < ls.length
  ·rw [show qAR ls vs fs 3 n ty st = (qBb (ls.getD n.toNat 0) st, st.dropLast) by simp [qAR, hn]]
   exact plain_3 n ty bb A1 A2 A3 A4 A5 n1 c1 ls.length c2 n3 c3 fs.length c4 vs.length c5 res ls (Kd.F_now hL) (off hL (by omega)) hn0 hn H hl hfr hkt
  ·rw [show qAR ls vs fs 3 n ty st = (false, st) by simp [qAR, hn]]
   exact plain_3_bad n ty bb A1 A2 A3 A4 A5 n1 c1 ls.length c2 n3 c3 fs.length c4 vs.length c5 res (by omega) H hl hfr hkt
 ·by_cases hn : n < vs.length
  ·rw [show qAR ls vs fs 4 n ty st = (true, st ++ [vs.getD n.toNat 0]) by simp [qAR, hn]]
   exact plain_4 n ty bb A1 A2 A3 A4 A5 n1 c1 ls.length c2 n3 c3 fs.length c4 vs.length c5 res vs (Kd.F_now hV) (off hV (by omega)) hn0 hn H hl hfr hkt
  ·rw [show qAR ls vs fs 4 n ty st = (false, st) by simp [qAR, hn]]
   exact plain_4_bad n ty bb A1 A2 A3 A4 A5 n1 c1 ls.length c2 n3 c3 fs.length c4 vs.length c5 res (by omega) H hl hfr hkt
 ·by_cases hn : n < vs.length
  ·rw [show qAR ls vs fs 5 n ty st = (qBb (vs.getD n.toNat 0) st, st.dropLast) by simp [qAR, hn]]
   exact plain_5 n ty bb A1 A2 A3 A4 A5 n1 c1 ls.length c2 n3 c3 fs.length c4 vs.length c5 res vs (Kd.F_now hV) (off hV (by omega)) hn0 hn H hl hfr hkt
  ·rw [show qAR ls vs fs 5 n ty st = (false, st) by simp [qAR, hn]]
   exact plain_5_bad n ty bb A1 A2 A3 A4 A5 n1 c1 ls.length c2 n3 c3 fs.length c4 vs.length c5 res (by omega) H hl hfr hkt
 ·exact plain_6 n ty bb A1 A2 A3 A4 A5 n1 c1 ls.length c2 n3 c3 fs.length c4 vs.length c5 res H hl hfr hkt
 ·exact plain_7 n ty bb A1 A2 A3 A4 A5 n1 c1 ls.length c2 n3 c3 fs.length c4 vs.length c5 res H hl hfr hkt
 ·by_cases hn : n < fs.length
  ·rw [show qAR ls vs fs 10 n ty st = qCQ (qBc fs n).f0 (qBc fs n).f1 st by simp [qAR, hn]]
   have hm : qBc fs n ∈ fs := by
    unfold qBc
    rw [List.getD_eq_getElem?_getD, List.getElem?_eq_getElem (by omega)]
    exact List.getElem_mem _
   exact plain_10 n ty bb A1 A2 A3 A4 A5 n1 c1 ls.length c2 n3 c3 fs.length c4 vs.length c5 res fs hF hoff hn0 hn (hpl _ hm) H hl hfr hkt
  ·rw [show qAR ls vs fs 10 n ty st = (false, st) by simp [qAR, hn]]
   exact plain_10_bad n ty bb A1 A2 A3 A4 A5 n1 c1 ls.length c2 n3 c3 fs.length c4 vs.length c5 res (by omega) H hl hfr hkt
 ·exact plain_12 n ty bb A1 A2 A3 A4 A5 n1 c1 ls.length c2 n3 c3 fs.length c4 vs.length c5 res H hl hfr hkt
 ·exact plain_14 n ty bb A1 A2 A3 A4 A5 n1 c1 ls.length c2 n3 c3 fs.length c4 vs.length c5 res H hl hfr hkt
 ·exact plain_17 n ty bb A1 A2 A3 A4 A5 n1 c1 ls.length c2 n3 c3 fs.length c4 vs.length c5 res H hl hfr hkt
def afW (W : World) (fv pv : Array Value) (at_ : Int) (sv : Array Value) : World := (((W.alloc (.cells fv 37)).alloc (.cells pv 41)).alloc (.cells #[.int .i64 at_] 3)).alloc (.cells sv 113)
theorem qAO (W : World) (fv pv : Array Value) (at_ : Int) (sv : Array Value) : (afW W fv pv at_ sv).heap.size = W.heap.size + 4 := by simp [afW]
theorem qAU (W : World) (fv pv : Array Value) (at_ : Int) (sv : Array Value) : Below W.heap.size W (afW W fv pv at_ sv) :=
 ((((Below.refl _ _).alloc (by simp) _).alloc (by simp) _).alloc (by simp; omega) _).alloc (by simp; omega) _
structure AB (b : Nat) (fv pv : Array Value) (at_ : Int) (W : World) : Prop where
 f : W.heap[b]? = some (.cells fv 37 (0, 0))
 p : W.heap[b + 1]? = some (.cells pv 41 (0, 0))
 a : W.heap[b + 1 + 1]? = some (.cells #[.int .i64 at_] 3 (0, 0))
theorem qBB (W : World) (fv pv : Array Value) (at_ : Int) (sv : Array Value) : AB W.heap.size fv pv at_ (afW W fv pv at_ sv) ∧ (afW W fv pv at_ sv).heap[W.heap.size + 1 + 1 + 1]? = some (.cells sv 113 (0, 0)) := by
 have e : ∀ (V : World) (o o' : Obj) (k : Nat), V.heap[k]? = some o → (V.alloc o').heap[k]? = some o := fun V o o' k h => qAs h (qAb (Below.refl _ _) _)
 have n : ∀ (V : World) (o : Obj) (k : Nat), V.heap.size = k → (V.alloc o).heap[k]? = some o := fun V o k hk => hk ▸ qAF V o
 exact ⟨⟨e _ _ _ _ (e _ _ _ _ (e _ _ _ _ (n _ _ _ (by simp)))), e _ _ _ _ (e _ _ _ _ (n _ _ _ (by simp))), e _ _ _ _ (n _ _ _ (by simp))⟩, n _ _ _ (by simp)⟩
theorem qBz {W : World} {m : Bool} {st : List Int} {tr : List S160} {v1 v2 : Value} {fv pv : Array Value} {at_ : Int} {S okT : Nat → Prop} (h1 : Kd.N (Kd.int .i64) 3 W 0 S v1 st) (h2 : ∀ k, v2.ownBlock = some k → S k) (h3 : Kd.N k160 160 W 0 (fun q => (S q ∨ okT q) ∧ some q ≠ v1.ownBlock) v2 tr) :
  ShV (afW W fv pv at_ #[.bool m, v1, v2]) (W.heap.size + 1 + 1 + 1) m st tr (fun q => (S q ∧ q < W.heap.size) ∨ W.heap.size + 1 + 1 + 1 ≤ q) (fun q => okT q ∧ q < W.heap.size) v1 v2 := by
 have hB := qAU W fv pv at_ #[.bool m, v1, v2]
 refine ⟨(qBB W fv pv at_ _).2, .inr (Nat.le_refl _), ?_, fun k hk => .inl ⟨h2 k hk, Kd.N_lt h3 k hk⟩, ?_⟩
 ·exact Kd.N_mono (Kd.N_below (Kd.N_bound h1) hB) (fun q hq => ⟨.inl ⟨hq.1, hq.2⟩, by omega⟩)
 ·refine Kd.N_mono (Kd.N_below (Kd.N_bound h3) hB) (fun q hq => ⟨?_, by omega, hq.1.2⟩)
  rcases hq.1.1 with h | h
  ·exact .inl (.inl ⟨h, hq.2⟩)
  ·exact .inr ⟨h, hq.2⟩
theorem ways_one {w' : World} {r : Nat} {n : Int} {m : Bool} {v1 v2 : Value} {st : List Int} {tr : List S160} {ok1 ok3 okW : Nat → Prop} (hr : w'.heap[r]? = some (.cells #[.int .i64 n, .bool m, v1, v2] 157 (0, 0))) (hok : okW r) (g1 : Kd.N (Kd.int .i64) 3 w' 0 ok1 v1 st) (h1 : ∀ q, ok1 q → okW q) (g3 : Kd.N k160 160 w' 0 ok3 v2 tr) (h3 : ∀ q, ok3 q → okW q) :
  Kd.F k157 w' okW (some ⟨r, 0, none⟩) 1 [⟨n, ⟨m, st, tr⟩⟩] := by
 obtain ⟨A1, c1, rfl⟩ := Kd.N_slice g1
 obtain ⟨A2, c2, rfl⟩ := Kd.N_slice g3
 have l1 := (Kd.N_reads' g1).2.1
 have l2 := (Kd.N_reads' g3).2.1
 intro W' hW
 have q1 := Kd.F_mono (Kd.N_F g1) h1 W' hW
 have q2 := Kd.F_mono (Kd.N_F g3) h3 W' hW
 have hb := (hW r hok (qBf hr)).trans hr
 refine ⟨rfl, by decide, fun _ => ⟨_, rfl, fun j p hj => ?_⟩⟩
 rcases j with _ | j
 ·simp at hj
  subst hj
  refine ⟨_, ?_, k157_mk W' ⟨n, ⟨m, st, tr⟩⟩ l1 q1 l2 q2, fun i u hi => ?_⟩
  ·rfl
  ·have hc := qAc hb i
   have : (⟨r, 0, none⟩ : Addr).add (0 * k157.sz + i) = ⟨r, i, none⟩ := by simp [Addr.add]; intro h; exact h.symm
   rw [this, hc]
   simpa using hi
 ·simp at hj
theorem after_8 {W : World} (at_ : Int) (A1 A2 A3 A4 A5 : Option Addr) (n1 c1 n2 c2 n3 c3 n4 c4 n5 c5 : Nat) (res : Int) (code : List S51) (hC : Kd.C k51 W A3 n3 code) (h0 : 0 ≤ at_) (h1 : at_ < n3) (hop : (qAl code at_).f0 = 8)
  {m : Bool} {st : List Int} {tr : List S160} {v1 v2 : Value} {S okT : Nat → Prop} (g1 : Kd.N (Kd.int .i64) 3 W 0 S v1 st) (g2 : ∀ k, v2.ownBlock = some k → S k) (g3 : Kd.N k160 160 W 0 (fun q => (S q ∨ okT q) ∧ some q ≠ v1.ownBlock) v2 tr) :
  Calls Tryz.prog 63 #[.agg #[.slice A1 n1 c1, .int .i64 res, .slice A2 n2 c2, .slice A3 n3 c3], .agg #[.slice A4 n4 c4, .slice A5 n5 c5], .int .i64 at_, .agg #[.bool m, v1, v2]] W fun e w' => ∃ r, e = .returned (.tuple #[.slice (some ⟨r, 0, none⟩) 1 1, .bool true]) ∧ Kd.F k157 w' (fun q => (S q ∨ okT q) ∨ W.heap.size ≤ q) (some ⟨r, 0, none⟩) 1 [⟨(qAl code at_).f1, ⟨m, st, tr⟩⟩] ∧ Below W.heap.size W w' := by
 obtain ⟨ad, rfl, k0, k1, k2, k3⟩ := qBn hC at_ h0 h1
 obtain ⟨B1, d1, rfl⟩ := Kd.N_slice g1
 obtain ⟨B2, d2, rfl⟩ := Kd.N_slice g3
 obtain ⟨x, hx⟩ : ∃ x, x = qAl code at_ := ⟨_, rfl⟩
 rw [← hx] at k0 k1 k2 k3 hop
 rw [hop] at k0
 have hB := qAU W #[.slice A1 n1 c1, .int .i64 res, .slice A2 n2 c2, .slice (some ad) n3 c3] #[.slice A4 n4 c4, .slice A5 n5 c5] at_ #[.bool m, .slice B1 st.length d1, .slice B2 tr.length d2]
 replace k0 := (hB.cell (World.block_lt_of_cell? _ _ k0)).trans k0
 replace k1 := (hB.cell (World.block_lt_of_cell? _ _ k1)).trans k1
 replace k2 := (hB.cell (World.block_lt_of_cell? _ _ k2)).trans k2
 replace k3 := (hB.cell (World.block_lt_of_cell? _ _ k3)).trans k3
 have hlt : (ad.add (at_.toNat * 4)).block < W.heap.size := World.block_lt_of_cell? _ _ (show W.cell? (ad.add (at_.toNat * 4)) = some (.int .i64 8) by obtain ⟨ad', he, q0, _⟩ := qBn hC at_ h0 h1; injection he with he; subst he; rw [← hx, hop] at q0; exact q0)
 simp only [afW] at k0 k1 k2 k3
 obtain ⟨s1, hs1⟩ : ∃ k, k = st.length := ⟨_, rfl⟩
 obtain ⟨s2, hs2⟩ : ∃ k, k = tr.length := ⟨_, rfl⟩
 rw [← hs1, ← hs2] at k0 k1 k2 k3 hB ⊢
 rw [← hs1] at g1 g3
 rw [← hs2] at g2 g3
 have G1 := am g1
 have G3 := am g3
 have HBB := am hB
 clear g1 g3 hC hB hs1 hs2
 go_enter Tryz.func63, Tryz.ntmps63
 go_wp2_with fail
 refine bodyPost_ret (results_tmp2 rfl _ _ _) rfl ?_
 have hB6 := am (((HBB.out.alloc (by rw [qAO]; omega) (.cells #[.int .i64 8, .int .i64 (qAl code at_).f1, .int .i64 (qAl code at_).f2.f0, .int .u64 (qAl code at_).f2.f1] 51)).alloc (by simp [qAO]; omega) (.cells #[.int .i64 (qAl code at_).f1, .bool m, .slice B1 s1 d1, .slice B2 s2 d2] 157)))
 have hr6 := am (qAF ((afW W #[.slice A1 n1 c1, .int .i64 res, .slice A2 n2 c2, .slice (some ad) n3 c3] #[.slice A4 n4 c4, .slice A5 n5 c5] at_ #[.bool m, .slice B1 s1 d1, .slice B2 s2 d2]).alloc (.cells #[.int .i64 8, .int .i64 (qAl code at_).f1, .int .i64 (qAl code at_).f2.f0, .int .u64 (qAl code at_).f2.f1] 51)) (.cells #[.int .i64 (qAl code at_).f1, .bool m, .slice B1 s1 d1, .slice B2 s2 d2] 157))
 refine ⟨W.heap.size + 1 + 1 + 1 + 1 + 1, rfl, ?_, hB6.out⟩
 refine ways_one (by have := hr6.out; rw [World.size_alloc, qAO] at this; exact this) (.inr (by omega)) (Kd.N_below (G1.out) hB6.out) (fun q hq => .inl (.inl hq)) (Kd.N_below G3.out hB6.out) (fun q hq => .inl hq.1)
theorem after_13 {W : World} (at_ : Int) (A1 A2 A3 A4 A5 : Option Addr) (n1 c1 n2 c2 n3 c3 n4 c4 n5 c5 : Nat) (res : Int) (code : List S51) (hC : Kd.C k51 W A3 n3 code) (h0 : 0 ≤ at_) (h1 : at_ < n3) (hop : (qAl code at_).f0 = 13)
  {m : Bool} {st : List Int} {tr : List S160} {v1 v2 : Value} {S okT : Nat → Prop} (g1 : Kd.N (Kd.int .i64) 3 W 0 S v1 st) (g2 : ∀ k, v2.ownBlock = some k → S k) (g3 : Kd.N k160 160 W 0 (fun q => (S q ∨ okT q) ∧ some q ≠ v1.ownBlock) v2 tr) (hl : st.length ≤ 2000000) :
  Calls Tryz.prog 63 #[.agg #[.slice A1 n1 c1, .int .i64 res, .slice A2 n2 c2, .slice A3 n3 c3], .agg #[.slice A4 n4 c4, .slice A5 n5 c5], .int .i64 at_, .agg #[.bool m, v1, v2]] W fun e w' => e = .returned (.tuple #[.slice none 0 0, .bool (qBb 1 st)]) ∧ Fr W w' S := by
 obtain ⟨ad, rfl, k0, k1, k2, k3⟩ := qBn hC at_ h0 h1
 obtain ⟨B1, d1, rfl⟩ := Kd.N_slice g1
 obtain ⟨B2, d2, rfl⟩ := Kd.N_slice g3
 have hV := qBz (m := m) (fv := #[.slice A1 n1 c1, .int .i64 res, .slice A2 n2 c2, .slice (some ad) n3 c3]) (pv := #[.slice A4 n4 c4, .slice A5 n5 c5]) (at_ := at_) g1 g2 g3
 obtain ⟨x, hx⟩ : ∃ x, x = qAl code at_ := ⟨_, rfl⟩
 rw [← hx] at k0 k1 k2 k3 hop
 rw [hop] at k0
 have hB := qAU W #[.slice A1 n1 c1, .int .i64 res, .slice A2 n2 c2, .slice (some ad) n3 c3] #[.slice A4 n4 c4, .slice A5 n5 c5] at_ #[.bool m, .slice B1 st.length d1, .slice B2 tr.length d2]
 have hbox := qBB W #[.slice A1 n1 c1, .int .i64 res, .slice A2 n2 c2, .slice (some ad) n3 c3] #[.slice A4 n4 c4, .slice A5 n5 c5] at_ #[.bool m, .slice B1 st.length d1, .slice B2 tr.length d2]
 replace k0 := (hB.cell (World.block_lt_of_cell? _ _ k0)).trans k0
 replace k1 := (hB.cell (World.block_lt_of_cell? _ _ k1)).trans k1
 replace k2 := (hB.cell (World.block_lt_of_cell? _ _ k2)).trans k2
 replace k3 := (hB.cell (World.block_lt_of_cell? _ _ k3)).trans k3
 simp only [afW] at k0 k1 k2 k3
 obtain ⟨s1, hs1⟩ : ∃ k, k = st.length := ⟨_, rfl⟩
 obtain ⟨s2, hs2⟩ : ∃ k, k = tr.length := ⟨_, rfl⟩
 rw [← hs1, ← hs2] at k0 k1 k2 k3 hB hbox hV ⊢
 have HV := am hV
 have HBB := am hB
 have HBX := am hbox
 have HL := am hl
 clear g1 g2 g3 hC hB hs1 hs2 hV hbox hl
 have HFR : qAi (∀ w' o, Fr ((afW W #[.slice A1 n1 c1, .int .i64 res, .slice A2 n2 c2, .slice (some ad) n3 c3] #[.slice A4 n4 c4, .slice A5 n5 c5] at_ #[.bool m, .slice B1 s1 d1, .slice B2 s2 d2]).alloc o) w' (fun q => (((S q ∧ q < W.heap.size) ∨ W.heap.size + 1 + 1 + 1 ≤ q) ∧ q < (afW W #[.slice A1 n1 c1, .int .i64 res, .slice A2 n2 c2, .slice (some ad) n3 c3] #[.slice A4 n4 c4, .slice A5 n5 c5] at_ #[.bool m, .slice B1 s1 d1, .slice B2 s2 d2]).heap.size) ∨ ((afW W #[.slice A1 n1 c1, .int .i64 res, .slice A2 n2 c2, .slice (some ad) n3 c3] #[.slice A4 n4 c4, .slice A5 n5 c5] at_ #[.bool m, .slice B1 s1 d1, .slice B2 s2 d2]).alloc o).heap.size ≤ q) → Fr W w' S) :=
  ⟨fun w' o h => (Fr.of_below (HBB.out.alloc (by rw [qAO]; omega) o)).then_ h (fun q hq => by
    rcases hq with ⟨⟨h, _⟩ | h, _⟩ | h
    · exact .inl h
    · exact .inr (by omega)
    · exact .inr (by rw [World.size_alloc, qAO] at h; omega))⟩
 go_enter Tryz.func63, Tryz.ntmps63
 go_wp2_with (go_at_call 88; refine (qCI 1 (ShO.below ⟨_, _, HV.out⟩ (qAb (Below.refl _ _) _)) HL.out).mono ?_; rintro e w1 ⟨rfl, hS1, hF1⟩; have HF1 := am (HFR.out _ _ hF1); clear hS1 hF1)
 go_ret2
 exact ⟨rfl, HF1.out⟩
theorem after_11 {W : World} (at_ : Int) (A1 A2 A3 A4 A5 : Option Addr) (n1 c1 n2 c2 n3 c3 n4 c4 n5 c5 : Nat) (res : Int) (code : List S51) (hC : Kd.C k51 W A3 n3 code) (h0 : 0 ≤ at_) (h1 : at_ < n3) (hop : (qAl code at_).f0 = 11)
  {m : Bool} {st : List Int} {tr : List S160} {v1 v2 : Value} {S okT : Nat → Prop} (g1 : Kd.N (Kd.int .i64) 3 W 0 S v1 st) (g2 : ∀ k, v2.ownBlock = some k → S k) (g3 : Kd.N k160 160 W 0 (fun q => (S q ∨ okT q) ∧ some q ≠ v1.ownBlock) v2 tr) (hl : st.length ≤ 2000000) (hres : (res == 0) = false) :
  Calls Tryz.prog 63 #[.agg #[.slice A1 n1 c1, .int .i64 res, .slice A2 n2 c2, .slice A3 n3 c3], .agg #[.slice A4 n4 c4, .slice A5 n5 c5], .int .i64 at_, .agg #[.bool m, v1, v2]] W fun e w' => e = .returned (.tuple #[.slice none 0 0, .bool (qBb res st)]) ∧ Fr W w' S := by
 obtain ⟨ad, rfl, k0, k1, k2, k3⟩ := qBn hC at_ h0 h1
 obtain ⟨B1, d1, rfl⟩ := Kd.N_slice g1
 obtain ⟨B2, d2, rfl⟩ := Kd.N_slice g3
 have hV := qBz (m := m) (fv := #[.slice A1 n1 c1, .int .i64 res, .slice A2 n2 c2, .slice (some ad) n3 c3]) (pv := #[.slice A4 n4 c4, .slice A5 n5 c5]) (at_ := at_) g1 g2 g3
 obtain ⟨x, hx⟩ : ∃ x, x = qAl code at_ := ⟨_, rfl⟩
 rw [← hx] at k0 k1 k2 k3 hop
 rw [hop] at k0
 have hB := qAU W #[.slice A1 n1 c1, .int .i64 res, .slice A2 n2 c2, .slice (some ad) n3 c3] #[.slice A4 n4 c4, .slice A5 n5 c5] at_ #[.bool m, .slice B1 st.length d1, .slice B2 tr.length d2]
 have hbox := qBB W #[.slice A1 n1 c1, .int .i64 res, .slice A2 n2 c2, .slice (some ad) n3 c3] #[.slice A4 n4 c4, .slice A5 n5 c5] at_ #[.bool m, .slice B1 st.length d1, .slice B2 tr.length d2]
 replace k0 := (hB.cell (World.block_lt_of_cell? _ _ k0)).trans k0
 replace k1 := (hB.cell (World.block_lt_of_cell? _ _ k1)).trans k1
 replace k2 := (hB.cell (World.block_lt_of_cell? _ _ k2)).trans k2
 replace k3 := (hB.cell (World.block_lt_of_cell? _ _ k3)).trans k3
 simp only [afW] at k0 k1 k2 k3
 obtain ⟨s1, hs1⟩ : ∃ k, k = st.length := ⟨_, rfl⟩
 obtain ⟨s2, hs2⟩ : ∃ k, k = tr.length := ⟨_, rfl⟩
 rw [← hs1, ← hs2] at k0 k1 k2 k3 hB hbox hV ⊢
 have HV := am hV
 have HBB := am hB
 have HBX := am hbox
 have HL := am hl
 clear g1 g2 g3 hC hB hs1 hs2 hV hbox hl
 have HFR : qAi (∀ w' o, Fr ((afW W #[.slice A1 n1 c1, .int .i64 res, .slice A2 n2 c2, .slice (some ad) n3 c3] #[.slice A4 n4 c4, .slice A5 n5 c5] at_ #[.bool m, .slice B1 s1 d1, .slice B2 s2 d2]).alloc o) w' (fun q => (((S q ∧ q < W.heap.size) ∨ W.heap.size + 1 + 1 + 1 ≤ q) ∧ q < (afW W #[.slice A1 n1 c1, .int .i64 res, .slice A2 n2 c2, .slice (some ad) n3 c3] #[.slice A4 n4 c4, .slice A5 n5 c5] at_ #[.bool m, .slice B1 s1 d1, .slice B2 s2 d2]).heap.size) ∨ ((afW W #[.slice A1 n1 c1, .int .i64 res, .slice A2 n2 c2, .slice (some ad) n3 c3] #[.slice A4 n4 c4, .slice A5 n5 c5] at_ #[.bool m, .slice B1 s1 d1, .slice B2 s2 d2]).alloc o).heap.size ≤ q) → Fr W w' S) :=
  ⟨fun w' o h => (Fr.of_below (HBB.out.alloc (by rw [qAO]; omega) o)).then_ h (fun q hq => by
    rcases hq with ⟨⟨h, _⟩ | h, _⟩ | h
    · exact .inl h
    · exact .inr (by omega)
    · exact .inr (by rw [World.size_alloc, qAO] at h; omega))⟩
 go_enter Tryz.func63, Tryz.ntmps63
 go_wp2_with (go_at_call 88; refine (qCI res (ShO.below ⟨_, _, HV.out⟩ (qAb (Below.refl _ _) _)) HL.out).mono ?_; rintro e w1 ⟨rfl, hS1, hF1⟩; have HF1 := am (HFR.out _ _ hF1); clear hS1 hF1)
 go_ret2
 exact ⟨rfl, HF1.out⟩
theorem after_11_none {W : World} (at_ : Int) (A1 A2 A3 A4 A5 : Option Addr) (n1 c1 n2 c2 n3 c3 n4 c4 n5 c5 : Nat) (res : Int) (code : List S51) (hC : Kd.C k51 W A3 n3 code) (h0 : 0 ≤ at_) (h1 : at_ < n3) (hop : (qAl code at_).f0 = 11)
  {m : Bool} {st : List Int} {tr : List S160} {v1 v2 : Value} {S okT : Nat → Prop} (g1 : Kd.N (Kd.int .i64) 3 W 0 S v1 st) (g2 : ∀ k, v2.ownBlock = some k → S k) (g3 : Kd.N k160 160 W 0 (fun q => (S q ∨ okT q) ∧ some q ≠ v1.ownBlock) v2 tr) (hl : st.length ≤ 2000000) (hres : (res == 0) = true) :
  Calls Tryz.prog 63 #[.agg #[.slice A1 n1 c1, .int .i64 res, .slice A2 n2 c2, .slice A3 n3 c3], .agg #[.slice A4 n4 c4, .slice A5 n5 c5], .int .i64 at_, .agg #[.bool m, v1, v2]] W fun e w' => e = .returned (.tuple #[.slice none 0 0, .bool true]) ∧ Fr W w' S := by
 obtain ⟨ad, rfl, k0, k1, k2, k3⟩ := qBn hC at_ h0 h1
 obtain ⟨B1, d1, rfl⟩ := Kd.N_slice g1
 obtain ⟨B2, d2, rfl⟩ := Kd.N_slice g3
 have hV := qBz (m := m) (fv := #[.slice A1 n1 c1, .int .i64 res, .slice A2 n2 c2, .slice (some ad) n3 c3]) (pv := #[.slice A4 n4 c4, .slice A5 n5 c5]) (at_ := at_) g1 g2 g3
 obtain ⟨x, hx⟩ : ∃ x, x = qAl code at_ := ⟨_, rfl⟩
 rw [← hx] at k0 k1 k2 k3 hop
 rw [hop] at k0
 have hB := qAU W #[.slice A1 n1 c1, .int .i64 res, .slice A2 n2 c2, .slice (some ad) n3 c3] #[.slice A4 n4 c4, .slice A5 n5 c5] at_ #[.bool m, .slice B1 st.length d1, .slice B2 tr.length d2]
 have hbox := qBB W #[.slice A1 n1 c1, .int .i64 res, .slice A2 n2 c2, .slice (some ad) n3 c3] #[.slice A4 n4 c4, .slice A5 n5 c5] at_ #[.bool m, .slice B1 st.length d1, .slice B2 tr.length d2]
 replace k0 := (hB.cell (World.block_lt_of_cell? _ _ k0)).trans k0
 replace k1 := (hB.cell (World.block_lt_of_cell? _ _ k1)).trans k1
 replace k2 := (hB.cell (World.block_lt_of_cell? _ _ k2)).trans k2
 replace k3 := (hB.cell (World.block_lt_of_cell? _ _ k3)).trans k3
 simp only [afW] at k0 k1 k2 k3
 obtain ⟨s1, hs1⟩ : ∃ k, k = st.length := ⟨_, rfl⟩
 obtain ⟨s2, hs2⟩ : ∃ k, k = tr.length := ⟨_, rfl⟩
 rw [← hs1, ← hs2] at k0 k1 k2 k3 hB hbox hV ⊢
 have HV := am hV
 have HBB := am hB
 have HBX := am hbox
 have HL := am hl
 clear g1 g2 g3 hC hB hs1 hs2 hV hbox hl
 go_enter Tryz.func63, Tryz.ntmps63
 go_wp2_with fail
 go_ret2
 exact ⟨rfl, Fr.of_below (HBB.out.alloc (by rw [qAO]; omega) _)⟩
theorem N_way {W : World} {n : Int} {m : Bool} {v1 v2 : Value} {st : List Int} {tr : List S160} {ok1 ok3 okW : Nat → Prop} (hok : okW W.heap.size) (g1 : Kd.N (Kd.int .i64) 3 W 0 ok1 v1 st) (h1 : ∀ q, ok1 q → okW q) (g3 : Kd.N k160 160 W 0 ok3 v2 tr) (h3 : ∀ q, ok3 q → okW q) :
  Kd.N k157 157 (W.alloc (.cells #[.int .i64 n, .bool m, v1, v2] 157)) 0 okW (.slice (some ⟨W.heap.size, 0, none⟩) 1 1) [⟨n, ⟨m, st, tr⟩⟩] := by
 have hB := qAb (Below.refl W.heap.size W) (.cells #[.int .i64 n, .bool m, v1, v2] 157)
 have e1 := Kd.N_val g1
 have e3 := Kd.N_val g3
 refine ⟨fun k hk => ?_, [[.int .i64 n, .bool m, v1, v2]], rfl, ⟨fun k hk => hk.symm, [.int .i64 n, .bool m, v1, v2], World.ownsRow_lit W #[.int .i64 n, .bool m, v1, v2] 1 (Nat.zero_le _) (by decide) rfl, ?_⟩, ?_⟩
 ·simp [Value.ownBlock] at hk; rw [← hk]; exact hok
 ·refine ⟨rfl, fun j p hj => ?_⟩
  rcases j with _ | j
  ·simp at hj
   subst hj
   refine ⟨rfl, rfl, fun (u : Value) hu => ?_⟩
   replace hu : u ∈ [Value.int .i64 n, Value.bool m, v1, v2] := hu
   simp only [List.mem_cons, List.not_mem_nil, or_false] at hu
   rcases hu with rfl | rfl | rfl | rfl
   ·rfl
   ·rfl
   ·exact e1.2
   ·exact e3.2
  ·simp at hj
 ·intro j x c hx hc
  rcases j with _ | j
  ·simp at hx hc
   subst hx; subst hc
   obtain ⟨A1, c1, rfl⟩ := Kd.N_slice g1
   obtain ⟨A2, c2, rfl⟩ := Kd.N_slice g3
   intro W' hW
   have q1 := Kd.N_F (Kd.N_below (Kd.N_bound g1) hB) W' (fun k hk hlt => hW k ⟨h1 k hk.1, by simp [Value.ownBlock]; omega⟩ hlt)
   have q2 := Kd.N_F (Kd.N_below (Kd.N_bound g3) hB) W' (fun k hk hlt => hW k ⟨h3 k hk.1, by simp [Value.ownBlock]; omega⟩ hlt)
   exact k157_mk W' ⟨n, ⟨m, st, tr⟩⟩ (Kd.N_reads' g1).2.1 q1 (Kd.N_reads' g3).2.1 q2
  ·simp at hx
theorem qCw {W : World} (b : Nat) (at_ : Int) (hb : W.cell? ⟨b, 0, none⟩ = some (.int .i64 at_)) (h0 : 0 ≤ at_) (h1 : at_ ≤ 2000000) {m : Bool} {v1 v2 : Value} {st : List Int} {tr : List S160} {ok1 ok3 okW : Nat → Prop} (hok : ∀ k, W.heap.size ≤ k → okW k) (g1 : Kd.N (Kd.int .i64) 3 W 0 ok1 v1 st) (i1 : ∀ q, ok1 q → okW q) (g3 : Kd.N k160 160 W 0 ok3 v2 tr) (i3 : ∀ q, ok3 q → okW q) :
  Calls Tryz.prog 87 #[.agg #[.bool m, v1, v2], .pointer (some ⟨b, 0, none⟩)] W fun e w' => ∃ r, W.heap.size ≤ r ∧ e = .returned (.slice (some ⟨r, 0, none⟩) 1 1) ∧ Kd.N k157 157 w' 0 okW (.slice (some ⟨r, 0, none⟩) 1 1) [⟨at_ + 1, ⟨m, st, tr⟩⟩] ∧ Below W.heap.size W w' := by
 have hw : IntKind.i64.wrap (at_ + 1) = at_ + 1 := by simp [IntKind.wrap, IntKind.bits, IntKind.signed]; omega
 have hbl := World.block_lt_of_cell? _ _ hb
 obtain ⟨B1, d1, rfl⟩ := Kd.N_slice g1
 obtain ⟨B2, d2, rfl⟩ := Kd.N_slice g3
 obtain ⟨s1, hs1⟩ : ∃ k, k = st.length := ⟨_, rfl⟩
 obtain ⟨s2, hs2⟩ : ∃ k, k = tr.length := ⟨_, rfl⟩
 rw [← hs1] at g1
 rw [← hs2] at g3
 rw [← hs1, ← hs2]
 have G1 := am g1
 have G3 := am g3
 clear g1 g3 hs1 hs2
 go_enter Tryz.func87, Tryz.ntmps87
 go_wp2
 go_ret
 refine ⟨W.heap.size + 1, by omega, rfl, ?_, ((Below.refl _ _).alloc (Nat.le_refl _) _).alloc (by simp) _⟩
 have hq := N_way (W := W.alloc (.cells #[.bool m, .slice B1 s1 d1, .slice B2 s2 d2] 113)) (n := at_ + 1) (m := m) (okW := okW) (hok _ (by simp)) (Kd.N_alloc G1.out _) i1 (Kd.N_alloc G3.out _) i3
 rw [World.size_alloc] at hq
 exact hq
def qBu (ok : Bool) (ways : List S157) (S okT : Nat → Prop) (W : World) (e : Ending) (w' : World) : Prop :=
 ∃ A n c, e = .returned (.tuple #[.slice A n c, .bool ok]) ∧ (ok = true → Kd.F k157 w' (fun q => (S q ∨ okT q) ∨ W.heap.size ≤ q) A n ways) ∧ Fr W w' S
theorem after_16_bad {W : World} (at_ : Int) (A1 A2 A3 A4 A5 : Option Addr) (n1 c1 n2 c2 n3 c3 n4 c4 n5 c5 : Nat) (res : Int) (code : List S51) (hC : Kd.C k51 W A3 n3 code) (h0 : 0 ≤ at_) (h1 : at_ < n3) (hop : (qAl code at_).f0 = 16)
  {m : Bool} {st : List Int} {tr : List S160} {v1 v2 : Value} {S okT : Nat → Prop} (g1 : Kd.N (Kd.int .i64) 3 W 0 S v1 st) (g2 : ∀ k, v2.ownBlock = some k → S k) (g3 : Kd.N k160 160 W 0 (fun q => (S q ∨ okT q) ∧ some q ≠ v1.ownBlock) v2 tr) (hl : st.length ≤ 2000000) (htr : tr = []) :
  Calls Tryz.prog 63 #[.agg #[.slice A1 n1 c1, .int .i64 res, .slice A2 n2 c2, .slice A3 n3 c3], .agg #[.slice A4 n4 c4, .slice A5 n5 c5], .int .i64 at_, .agg #[.bool m, v1, v2]] W fun e w' => qBu false [] S okT W e w' := by
 obtain ⟨ad, rfl, k0, k1, k2, k3⟩ := qBn hC at_ h0 h1
 obtain ⟨B1, d1, rfl⟩ := Kd.N_slice g1
 obtain ⟨B2, d2, rfl⟩ := Kd.N_slice g3
 have hV := qBz (m := m) (fv := #[.slice A1 n1 c1, .int .i64 res, .slice A2 n2 c2, .slice (some ad) n3 c3]) (pv := #[.slice A4 n4 c4, .slice A5 n5 c5]) (at_ := at_) g1 g2 g3
 obtain ⟨x, hx⟩ : ∃ x, x = qAl code at_ := ⟨_, rfl⟩
 rw [← hx] at k0 k1 k2 k3 hop
 rw [hop] at k0
 have hB := qAU W #[.slice A1 n1 c1, .int .i64 res, .slice A2 n2 c2, .slice (some ad) n3 c3] #[.slice A4 n4 c4, .slice A5 n5 c5] at_ #[.bool m, .slice B1 st.length d1, .slice B2 tr.length d2]
 have hbox := qBB W #[.slice A1 n1 c1, .int .i64 res, .slice A2 n2 c2, .slice (some ad) n3 c3] #[.slice A4 n4 c4, .slice A5 n5 c5] at_ #[.bool m, .slice B1 st.length d1, .slice B2 tr.length d2]
 replace k0 := (hB.cell (World.block_lt_of_cell? _ _ k0)).trans k0
 replace k1 := (hB.cell (World.block_lt_of_cell? _ _ k1)).trans k1
 replace k2 := (hB.cell (World.block_lt_of_cell? _ _ k2)).trans k2
 replace k3 := (hB.cell (World.block_lt_of_cell? _ _ k3)).trans k3
 simp only [afW] at k0 k1 k2 k3
 obtain ⟨s1, hs1⟩ : ∃ k, k = st.length := ⟨_, rfl⟩
 obtain ⟨s2, hs2⟩ : ∃ k, k = tr.length := ⟨_, rfl⟩
 rw [← hs1, ← hs2] at k0 k1 k2 k3 hB hbox hV ⊢
 have HV := am hV
 have HBB := am hB
 have HBX := am hbox
 have HL := am hl
 have h20 : s2 = 0 := by rw [hs2, htr]; rfl
 subst h20
 clear g1 g2 g3 hC hB hs1 hs2 hV hbox hl
 go_enter Tryz.func63, Tryz.ntmps63
 go_wp2_with fail
 go_ret2
 exact ⟨none, 0, 0, rfl, (fun h => by cases h), Fr.of_below (HBB.out.alloc (by rw [qAO]; omega) _)⟩
theorem after_16 {W : World} (at_ : Int) (A1 A2 A3 A4 A5 : Option Addr) (n1 c1 n2 c2 n3 c3 n4 c4 n5 c5 : Nat) (res : Int) (code : List S51) (hC : Kd.C k51 W A3 n3 code) (h0 : 0 ≤ at_) (h1 : at_ < n3) (hop : (qAl code at_).f0 = 16)
  {m : Bool} {st : List Int} {tr : List S160} {v1 v2 : Value} {S okT : Nat → Prop} (g1 : Kd.N (Kd.int .i64) 3 W 0 S v1 st) (g2 : ∀ k, v2.ownBlock = some k → S k) (g3 : Kd.N k160 160 W 0 (fun q => (S q ∨ okT q) ∧ some q ≠ v1.ownBlock) v2 tr) (hl : st.length ≤ 2000000) (htr : tr ≠ []) (htl : tr.length ≤ 2000000) (hat : at_ ≤ 2000000) :
  Calls Tryz.prog 63 #[.agg #[.slice A1 n1 c1, .int .i64 res, .slice A2 n2 c2, .slice A3 n3 c3], .agg #[.slice A4 n4 c4, .slice A5 n5 c5], .int .i64 at_, .agg #[.bool m, v1, v2]] W fun e w' => qBu true [⟨at_ + 1, ⟨m, st, tr.dropLast⟩⟩] S okT W e w' := by
 obtain ⟨ad, rfl, k0, k1, k2, k3⟩ := qBn hC at_ h0 h1
 obtain ⟨B1, d1, rfl⟩ := Kd.N_slice g1
 obtain ⟨B2, d2, rfl⟩ := Kd.N_slice g3
 have hV := qBz (m := m) (fv := #[.slice A1 n1 c1, .int .i64 res, .slice A2 n2 c2, .slice (some ad) n3 c3]) (pv := #[.slice A4 n4 c4, .slice A5 n5 c5]) (at_ := at_) g1 g2 g3
 obtain ⟨x, hx⟩ : ∃ x, x = qAl code at_ := ⟨_, rfl⟩
 rw [← hx] at k0 k1 k2 k3 hop
 rw [hop] at k0
 have hB := qAU W #[.slice A1 n1 c1, .int .i64 res, .slice A2 n2 c2, .slice (some ad) n3 c3] #[.slice A4 n4 c4, .slice A5 n5 c5] at_ #[.bool m, .slice B1 st.length d1, .slice B2 tr.length d2]
 have hbox := qBB W #[.slice A1 n1 c1, .int .i64 res, .slice A2 n2 c2, .slice (some ad) n3 c3] #[.slice A4 n4 c4, .slice A5 n5 c5] at_ #[.bool m, .slice B1 st.length d1, .slice B2 tr.length d2]
 replace k0 := (hB.cell (World.block_lt_of_cell? _ _ k0)).trans k0
 replace k1 := (hB.cell (World.block_lt_of_cell? _ _ k1)).trans k1
 replace k2 := (hB.cell (World.block_lt_of_cell? _ _ k2)).trans k2
 replace k3 := (hB.cell (World.block_lt_of_cell? _ _ k3)).trans k3
 simp only [afW] at k0 k1 k2 k3
 obtain ⟨s1, hs1⟩ : ∃ k, k = st.length := ⟨_, rfl⟩
 obtain ⟨s2, hs2⟩ : ∃ k, k = tr.length := ⟨_, rfl⟩
 rw [← hs1, ← hs2] at k0 k1 k2 k3 hB hbox hV ⊢
 have HV := am hV
 have HBB := am hB
 have HBX := am hbox
 have HL := am hl
 have hcd : s2 ≤ d2 := by rw [hs2]; exact (Kd.N_reads' g3).2.1
 have hs2p : 0 < s2 := by rw [hs2]; exact List.length_pos_iff.2 htr
 have hs2l : s2 ≤ 2000000 := by rw [hs2]; exact htl
 have htrl := hs2.symm
 rw [← hs1] at g1 g3
 rw [← hs2] at g3
 have G1 := am g1
 have G3 := am g3
 clear g1 g2 g3 hC hB hs1 hs2 hV hbox hl
 obtain ⟨t2, rfl⟩ : ∃ t2, s2 = t2 + 1 := ⟨s2 - 1, by omega⟩
 have hz : (((t2 + 1 : Nat) : Int) == 0) = false := beq_eq_false_iff_ne.mpr (by omega)
 have hwr : IntKind.i64.wrap (((t2 + 1 : Nat) : Int) - 1) = (t2 : Int) := by simp [IntKind.wrap, IntKind.bits, IntKind.signed]; omega
 have HW := am ((qAU W #[.slice A1 n1 c1, .int .i64 res, .slice A2 n2 c2, .slice (some ad) n3 c3] #[.slice A4 n4 c4, .slice A5 n5 c5] at_ #[.bool m, .slice B1 s1 d1, .slice B2 t2 d2]).alloc (by rw [qAO]; omega) (.cells #[.int .i64 16, .int .i64 (qAl code at_).f1, .int .i64 (qAl code at_).f2.f0, .int .u64 (qAl code at_).f2.f1] 51))
 go_enter Tryz.func63, Tryz.ntmps63
 go_wp2_with (go_at_call 87; refine (qCw (okW := fun q => (S q ∨ okT q) ∨ W.heap.size ≤ q) (W.heap.size + 1 + 1) at_ (qAz _ ((qAc (qBB W _ _ at_ _).1.a 0).trans rfl)) h0 hat (fun k hk => .inr (Nat.le_trans HW.out.size hk)) (Kd.N_below G1.out HW.out) (fun q hq => .inl (.inl hq)) (Kd.N_take (Kd.N_below G3.out HW.out) (m := t2) (by omega)) (fun q hq => .inl hq.1)).mono ?_; rintro e w1 ⟨r, hr, rfl, hN, hb1⟩; have HN1 := am hN; have HB1 := am hb1; clear hN hb1)
 go_ret2
 refine ⟨_, _, _, rfl, fun _ => ?_, Fr.of_below ((HW.out).trans (HB1.out.mono HW.out.size))⟩
 have := Kd.N_F HN1.out
 rwa [show tr.take t2 = tr.dropLast by rw [List.dropLast_eq_take]; congr 1; omega] at this
theorem after_pl {W : World} (at_ : Int) (A1 A2 A3 A4 A5 : Option Addr) (n1 c1 c2 n3 c3 c4 c5 : Nat) (res : Int) (code : List S51) (hC : Kd.C k51 W A3 n3 code) (h0 : 0 ≤ at_) (h1 : at_ < n3) (hop : plainOp (qAl code at_).f0)
  {m : Bool} {st : List Int} {tr : List S160} {v1 v2 : Value} {S okT : Nat → Prop} (g1 : Kd.N (Kd.int .i64) 3 W 0 S v1 st) (g2 : ∀ k, v2.ownBlock = some k → S k) (g3 : Kd.N k160 160 W 0 (fun q => (S q ∨ okT q) ∧ some q ≠ v1.ownBlock) v2 tr) (hl : st.length ≤ 2000000) {okF : Nat → Prop} {ls vs : List Int} {fs : List S34} (hL : Kd.F (Kd.int .i64) W okF A2 ls.length ls) (hVs : Kd.F (Kd.int .i64) W okF A5 vs.length vs) (hF : Kd.F k34 W okF A4 fs.length fs) (hoff : ∀ q, okF q → ¬ S q) (hpl : ∀ x ∈ fs, x.f0.length ≤ 2000000) (hn0 : 0 ≤ (qAl code at_).f1) (hat : at_ ≤ 2000000):
  Calls Tryz.prog 63 #[.agg #[.slice A1 n1 c1, .int .i64 res, .slice A2 ls.length c2, .slice A3 n3 c3], .agg #[.slice A4 fs.length c4, .slice A5 vs.length c5], .int .i64 at_, .agg #[.bool m, v1, v2]] W fun e w' => qBu (qAR ls vs fs (qAl code at_).f0 (qAl code at_).f1 (qAl code at_).f2.f0 st).1 [⟨at_ + 1, ⟨m, (qAR ls vs fs (qAl code at_).f0 (qAl code at_).f1 (qAl code at_).f2.f0 st).2, tr⟩⟩] S okT W e w' := by
 obtain ⟨ad, rfl, k0, k1, k2, k3⟩ := qBn hC at_ h0 h1
 obtain ⟨B1, d1, rfl⟩ := Kd.N_slice g1
 obtain ⟨B2, d2, rfl⟩ := Kd.N_slice g3
 have hV := qBz (m := m) (fv := #[.slice A1 n1 c1, .int .i64 res, .slice A2 ls.length c2, .slice (some ad) n3 c3]) (pv := #[.slice A4 fs.length c4, .slice A5 vs.length c5]) (at_ := at_) g1 g2 g3
 obtain ⟨x, hx⟩ : ∃ x, x = qAl code at_ := ⟨_, rfl⟩
 rw [← hx] at k0 k1 k2 k3 hop hn0 ⊢
 obtain ⟨op, hopv⟩ : ∃ op, op = x.f0 := ⟨_, rfl⟩
 obtain ⟨nn, hnn⟩ : ∃ nn, nn = x.f1 := ⟨_, rfl⟩
 obtain ⟨ty, hty⟩ : ∃ ty, ty = x.f2.f0 := ⟨_, rfl⟩
 obtain ⟨bb, hbb⟩ : ∃ bb, bb = x.f2.f1 := ⟨_, rfl⟩
 rw [← hopv] at k0 hop ⊢
 rw [← hnn] at k1 hn0 ⊢
 rw [← hty] at k2 ⊢
 rw [← hbb] at k3
 have hB := qAU W #[.slice A1 n1 c1, .int .i64 res, .slice A2 ls.length c2, .slice (some ad) n3 c3] #[.slice A4 fs.length c4, .slice A5 vs.length c5] at_ #[.bool m, .slice B1 st.length d1, .slice B2 tr.length d2]
 have hbox := qBB W #[.slice A1 n1 c1, .int .i64 res, .slice A2 ls.length c2, .slice (some ad) n3 c3] #[.slice A4 fs.length c4, .slice A5 vs.length c5] at_ #[.bool m, .slice B1 st.length d1, .slice B2 tr.length d2]
 replace k0 := (hB.cell (World.block_lt_of_cell? _ _ k0)).trans k0
 replace k1 := (hB.cell (World.block_lt_of_cell? _ _ k1)).trans k1
 replace k2 := (hB.cell (World.block_lt_of_cell? _ _ k2)).trans k2
 replace k3 := (hB.cell (World.block_lt_of_cell? _ _ k3)).trans k3
 simp only [afW] at k0 k1 k2 k3
 obtain ⟨s1, hs1⟩ : ∃ k, k = st.length := ⟨_, rfl⟩
 obtain ⟨s2, hs2⟩ : ∃ k, k = tr.length := ⟨_, rfl⟩
 rw [← hs1, ← hs2] at k0 k1 k2 k3 hB hbox hV ⊢
 have HV := am hV
 have HBB := am hB
 have HBX := am hbox
 have HL := am hl
 have e8 : (op == 8) = false := by rcases hop with h | h | h | h | h | h | h | h | h | h | h <;> subst h <;> rfl
 have e9 : (op == 9) = false := by rcases hop with h | h | h | h | h | h | h | h | h | h | h <;> subst h <;> rfl
 have e11 : (op == 11) = false := by rcases hop with h | h | h | h | h | h | h | h | h | h | h <;> subst h <;> rfl
 have e13 : (op == 13) = false := by rcases hop with h | h | h | h | h | h | h | h | h | h | h <;> subst h <;> rfl
 have e15 : (op == 15) = false := by rcases hop with h | h | h | h | h | h | h | h | h | h | h <;> subst h <;> rfl
 have e16 : (op == 16) = false := by rcases hop with h | h | h | h | h | h | h | h | h | h | h <;> subst h <;> rfl
 have HW := am ((qAU W #[.slice A1 n1 c1, .int .i64 res, .slice A2 ls.length c2, .slice (some ad) n3 c3] #[.slice A4 fs.length c4, .slice A5 vs.length c5] at_ #[.bool m, .slice B1 s1 d1, .slice B2 s2 d2]).alloc (by rw [qAO]; omega) (.cells #[.int .i64 op, .int .i64 nn, .int .i64 ty, .int .u64 bb] 51))
 have HP := am (plain_any (W := (afW W #[.slice A1 n1 c1, .int .i64 res, .slice A2 ls.length c2, .slice (some ad) n3 c3] #[.slice A4 fs.length c4, .slice A5 vs.length c5] at_ #[.bool m, .slice B1 s1 d1, .slice B2 s2 d2]).alloc (.cells #[.int .i64 op, .int .i64 nn, .int .i64 ty, .int .u64 bb] 51)) op nn ty bb A1 A2 (some ad) A4 A5 n1 c1 n3 c3 c2 c4 c5 res ls vs fs hop hn0 (Kd.F_below (Kd.F_bound hL) HW.out) (Kd.F_below (Kd.F_bound hVs) HW.out) (Kd.F_below (Kd.F_bound hF) HW.out) (by
     rintro q ⟨hq, hlt⟩ h
     rcases h with ⟨h | h, _⟩ | h
     · exact hoff q hq h.1
     · omega
     · have := HW.out.size; omega) hpl (ShO.below ⟨_, _, HV.out⟩ (qAb (Below.refl _ _) _)) hl (fun k hk => .inr hk) (fun k hk => by have := HW.out.size; omega))
 obtain ⟨ok, hok⟩ : ∃ ok, ok = (qAR ls vs fs op nn ty st).1 := ⟨_, rfl⟩
 obtain ⟨st', hst'⟩ : ∃ st', st' = (qAR ls vs fs op nn ty st).2 := ⟨_, rfl⟩
 rw [← hok, ← hst'] at HP ⊢
 clear hopv hnn hty hbb
 clear hx
 clear g1 g2 g3 hC hB hs1 hs2 hV hbox hl hL hVs hF hoff hpl hop hok hst'
 have HS := am (fun q (h : (((S q ∧ q < W.heap.size) ∨ W.heap.size + 1 + 1 + 1 ≤ q) ∧ q < (afW W #[.slice A1 n1 c1, .int .i64 res, .slice A2 ls.length c2, .slice (some ad) n3 c3] #[.slice A4 fs.length c4, .slice A5 vs.length c5] at_ #[.bool m, .slice B1 s1 d1, .slice B2 s2 d2]).heap.size) ∨ ((afW W #[.slice A1 n1 c1, .int .i64 res, .slice A2 ls.length c2, .slice (some ad) n3 c3] #[.slice A4 fs.length c4, .slice A5 vs.length c5] at_ #[.bool m, .slice B1 s1 d1, .slice B2 s2 d2]).alloc (.cells #[.int .i64 op, .int .i64 nn, .int .i64 ty, .int .u64 bb] 51)).heap.size ≤ q) => show (S q ∧ q < W.heap.size) ∨ W.heap.size + 1 + 1 + 1 ≤ q by
   rcases h with ⟨h, _⟩ | h
   · exact h
   · right; rw [World.size_alloc, qAO] at h; omega)
 go_enter Tryz.func63, Tryz.ntmps63
 go_wp2_with (first
   | (go_at_call 89; refine HP.out.mono ?_; rintro e w1 ⟨rfl, ⟨u1, u2, hg, hs0, hN1, hv2, hN3⟩, hF1⟩; obtain ⟨C1, q1, rfl⟩ := Kd.N_slice hN1; obtain ⟨C2, q2, rfl⟩ := Kd.N_slice hN3; have HF1 := am hF1; have HN1 := am hN1; have HN3 := am hN3; have e0 := (qAc hg 0).trans rfl; have e1 := (qAc hg 1).trans rfl; have e2 := (qAc hg 2).trans rfl; clear hN1 hF1 hs0 hv2 hN3)
   | (go_at_call 87; refine (qCw (okW := fun q => (S q ∨ okT q) ∨ W.heap.size ≤ q) (W.heap.size + 1 + 1) at_ (HF1.out.cell (qAz _ ((qAc HBX.out.1.a 0).trans rfl)) (fun h => by have := HS.out _ h; simp at this; omega)) h0 hat (fun k hk => .inr (Nat.le_trans HW.out.size (Nat.le_trans HF1.out.size hk))) HN1.out (fun q hq => by rcases HS.out _ hq.1 with h | h; exact .inl (.inl h.1); exact .inr (by omega)) HN3.out (fun q hq => by rcases hq.1 with h | h; rcases HS.out _ h with h | h; exact .inl (.inl h.1); exact .inr (by omega); exact .inl (.inr h.1))).mono ?_; rintro e w2 ⟨r, hr, rfl, hN, hb1⟩; have HN2 := am hN; have HB2 := am hb1; clear hN hb1))
 go_ret2
 refine ⟨_, _, _, rfl, fun _ => Kd.N_F HN2.out, ?_⟩
 refine ((Fr.of_below HW.out).then_ HF1.out (fun q hq => ?_)).then_ (S1 := fun _ => False) (Fr.of_below HB2.out) (fun q hq => hq.elim)
 rcases HS.out _ hq with h | h
 ·exact .inl h.1
 ·exact .inr (by omega)
theorem qDx : (Tryz.prog.info? 157).map (fun i => (i.zero, i.size, i.bytes)) = some (some (.agg #[.int .i64 0, .bool false, .slice none 0 0, .slice none 0 0]), 4, 64) := by kernel_rfl
theorem FK_way {W : World} {n : Int} {m : Bool} {v1 v2 : Value} {st : List Int} {tr : List S160} {b1 b3 : Nat} {ok1 ok3 okp : Nat → Prop} (g1 : Kd.N (Kd.int .i64) 3 W b1 ok1 v1 st) (h1 : ∀ q, ok1 q → okp q) (g3 : Kd.N k160 160 W b3 ok3 v2 tr) (h3 : ∀ q, ok3 q → okp q) :
  Kd.FK k157 W okp ⟨n, ⟨m, st, tr⟩⟩ [.int .i64 n, .bool m, v1, v2] := by
 obtain ⟨A1, c1, rfl⟩ := Kd.N_slice g1
 obtain ⟨A2, c2, rfl⟩ := Kd.N_slice g3
 intro W' hW
 exact k157_mk W' ⟨n, ⟨m, st, tr⟩⟩ (Kd.N_reads' g1).2.1 (Kd.F_mono (Kd.N_F g1) h1 W' hW) (Kd.N_reads' g3).2.1 (Kd.F_mono (Kd.N_F g3) h3 W' hW)
theorem after_9 {W : World} (at_ : Int) (A1 A2 A3 A4 A5 : Option Addr) (n1 c1 n2 c2 n3 c3 n4 c4 n5 c5 : Nat) (res : Int) (code : List S51) (hC : Kd.C k51 W A3 n3 code) (h0 : 0 ≤ at_) (h1 : at_ < n3) (hop : (qAl code at_).f0 = 9)
  {m : Bool} {st : List Int} {tr : List S160} {v1 v2 : Value} {S okT : Nat → Prop} (g1 : Kd.N (Kd.int .i64) 3 W 0 S v1 st) (g2 : ∀ k, v2.ownBlock = some k → S k) (g3 : Kd.N k160 160 W 0 (fun q => (S q ∨ okT q) ∧ some q ≠ v1.ownBlock) v2 tr) (hl : st.length ≤ 2000000) (htl : tr.length ≤ 2000000) (hat : at_ ≤ 2000000) :
  Calls Tryz.prog 63 #[.agg #[.slice A1 n1 c1, .int .i64 res, .slice A2 n2 c2, .slice A3 n3 c3], .agg #[.slice A4 n4 c4, .slice A5 n5 c5], .int .i64 at_, .agg #[.bool m, v1, v2]] W fun e w' => qBu (qBb 3 st) [⟨at_ + 1, ⟨m, st.dropLast, tr⟩⟩, ⟨(qAl code at_).f1, ⟨m, st.dropLast, tr⟩⟩] S okT W e w' := by
 obtain ⟨ad, rfl, k0, k1, k2, k3⟩ := qBn hC at_ h0 h1
 obtain ⟨B1, d1, rfl⟩ := Kd.N_slice g1
 obtain ⟨B2, d2, rfl⟩ := Kd.N_slice g3
 have hV := qBz (m := m) (fv := #[.slice A1 n1 c1, .int .i64 res, .slice A2 n2 c2, .slice (some ad) n3 c3]) (pv := #[.slice A4 n4 c4, .slice A5 n5 c5]) (at_ := at_) g1 g2 g3
 obtain ⟨x, hx⟩ : ∃ x, x = qAl code at_ := ⟨_, rfl⟩
 rw [← hx] at k0 k1 k2 k3 hop ⊢
 rw [hop] at k0
 obtain ⟨nn, hnn⟩ : ∃ nn, nn = x.f1 := ⟨_, rfl⟩
 obtain ⟨ty, hty⟩ : ∃ ty, ty = x.f2.f0 := ⟨_, rfl⟩
 obtain ⟨bb, hbb⟩ : ∃ bb, bb = x.f2.f1 := ⟨_, rfl⟩
 rw [← hnn] at k1 ⊢
 rw [← hty] at k2
 rw [← hbb] at k3
 have hB := qAU W #[.slice A1 n1 c1, .int .i64 res, .slice A2 n2 c2, .slice (some ad) n3 c3] #[.slice A4 n4 c4, .slice A5 n5 c5] at_ #[.bool m, .slice B1 st.length d1, .slice B2 tr.length d2]
 have hbox := qBB W #[.slice A1 n1 c1, .int .i64 res, .slice A2 n2 c2, .slice (some ad) n3 c3] #[.slice A4 n4 c4, .slice A5 n5 c5] at_ #[.bool m, .slice B1 st.length d1, .slice B2 tr.length d2]
 replace k0 := (hB.cell (World.block_lt_of_cell? _ _ k0)).trans k0
 replace k1 := (hB.cell (World.block_lt_of_cell? _ _ k1)).trans k1
 replace k2 := (hB.cell (World.block_lt_of_cell? _ _ k2)).trans k2
 replace k3 := (hB.cell (World.block_lt_of_cell? _ _ k3)).trans k3
 simp only [afW] at k0 k1 k2 k3
 obtain ⟨s1, hs1⟩ : ∃ k, k = st.length := ⟨_, rfl⟩
 obtain ⟨s2, hs2⟩ : ∃ k, k = tr.length := ⟨_, rfl⟩
 rw [← hs1, ← hs2] at k0 k1 k2 k3 hB hbox hV ⊢
 have HV := am hV
 have HBB := am hB
 have HBX := am hbox
 have HL := am hl
 have HW := am ((qAU W #[.slice A1 n1 c1, .int .i64 res, .slice A2 n2 c2, .slice (some ad) n3 c3] #[.slice A4 n4 c4, .slice A5 n5 c5] at_ #[.bool m, .slice B1 s1 d1, .slice B2 s2 d2]).alloc (by rw [qAO]; omega) (.cells #[.int .i64 9, .int .i64 nn, .int .i64 ty, .int .u64 bb] 51))
 have HT := am (qCI 3 (ShO.below ⟨_, _, HV.out⟩ (qAb (Below.refl _ _) (.cells #[.int .i64 9, .int .i64 nn, .int .i64 ty, .int .u64 bb] 51))) hl)
 have hdl : st.dropLast.length ≤ 2000000 := by simp; omega
 obtain ⟨ok, hok⟩ : ∃ ok, ok = qBb 3 st := ⟨_, rfl⟩
 obtain ⟨st', hst'⟩ : ∃ st', st' = st.dropLast := ⟨_, rfl⟩
 rw [← hok, ← hst'] at HT ⊢
 rw [← hst'] at hdl
 have HDL := am hdl
 have HTL := am htl
 have HBI : qAi (((afW W #[.slice A1 n1 c1, .int .i64 res, .slice A2 n2 c2, .slice (some ad) n3 c3] #[.slice A4 n4 c4, .slice A5 n5 c5] at_ #[.bool m, .slice B1 s1 d1, .slice B2 s2 d2]).alloc (.cells #[.int .i64 9, .int .i64 nn, .int .i64 ty, .int .u64 bb] 51)).heap[W.heap.size + 1 + 1 + 1 + 1]? = some (.cells #[.int .i64 9, .int .i64 nn, .int .i64 ty, .int .u64 bb] 51 (0, 0))) := ⟨by have := qAF (afW W #[.slice A1 n1 c1, .int .i64 res, .slice A2 n2 c2, .slice (some ad) n3 c3] #[.slice A4 n4 c4, .slice A5 n5 c5] at_ #[.bool m, .slice B1 s1 d1, .slice B2 s2 d2]) (.cells #[.int .i64 9, .int .i64 nn, .int .i64 ty, .int .u64 bb] 51); rwa [qAO] at this⟩
 have HS := am (fun q (h : (((S q ∧ q < W.heap.size) ∨ W.heap.size + 1 + 1 + 1 ≤ q) ∧ q < (afW W #[.slice A1 n1 c1, .int .i64 res, .slice A2 n2 c2, .slice (some ad) n3 c3] #[.slice A4 n4 c4, .slice A5 n5 c5] at_ #[.bool m, .slice B1 s1 d1, .slice B2 s2 d2]).heap.size) ∨ ((afW W #[.slice A1 n1 c1, .int .i64 res, .slice A2 n2 c2, .slice (some ad) n3 c3] #[.slice A4 n4 c4, .slice A5 n5 c5] at_ #[.bool m, .slice B1 s1 d1, .slice B2 s2 d2]).alloc (.cells #[.int .i64 9, .int .i64 nn, .int .i64 ty, .int .u64 bb] 51)).heap.size ≤ q) => show (S q ∧ q < W.heap.size) ∨ W.heap.size + 1 + 1 + 1 = q ∨ W.heap.size + 1 + 1 + 1 + 1 < q by
   rw [World.size_alloc, qAO] at h
   rcases h with ⟨h | h, h2⟩ | h
   · exact .inl h
   · exact .inr (.inl (by omega))
   · exact .inr (.inr (by omega)))
 clear hnn hty hbb
 clear hx
 clear g1 g2 g3 hC hB hs1 hs2 hV hbox hl hok hst' hdl htl
 go_enter Tryz.func63, Tryz.ntmps63
 go_wp2_with (go_at_call 88; refine HT.out.mono ?_; rintro e w1 ⟨rfl, ⟨u1, u2, hg, hs0, hN1, hv2, hN3⟩, hF1⟩; obtain ⟨C1, q1, rfl⟩ := Kd.N_slice hN1; obtain ⟨C2, q2, rfl⟩ := Kd.N_slice hN3; have HF1 := am hF1; have HN1 := am hN1; have HN3 := am hN3; have e0 := (qAc hg 0).trans rfl; have e1 := (qAc hg 1).trans rfl; have e2 := (qAc hg 2).trans rfl; have ei := HF1.out.cell ((qAc HBI.out 1).trans rfl) (fun h => by have := HS.out _ h; dsimp only at this; omega); have ea := HF1.out.cell (qAz _ ((qAc HBX.out.1.a 0).trans rfl)) (fun h => by have := HS.out _ h; dsimp only at this; omega); clear hN1 hF1 hs0 hv2 hN3)
 have HWS := am (Nat.le_trans HW.out.size HF1.out.size)
 have hok1 : qAi (∀ k, w1.heap.size ≤ k → (S k ∨ okT k) ∨ W.heap.size ≤ k) := ⟨fun k hk => .inr (Nat.le_trans HW.out.size (Nat.le_trans HF1.out.size hk))⟩
 have hS1 : qAi (∀ q, (((S q ∧ q < W.heap.size) ∨ W.heap.size + 1 + 1 + 1 ≤ q) ∧ q < (afW W #[.slice A1 n1 c1, .int .i64 res, .slice A2 n2 c2, .slice (some ad) n3 c3] #[.slice A4 n4 c4, .slice A5 n5 c5] at_ #[.bool m, .slice B1 s1 d1, .slice B2 s2 d2]).heap.size) ∨ ((afW W #[.slice A1 n1 c1, .int .i64 res, .slice A2 n2 c2, .slice (some ad) n3 c3] #[.slice A4 n4 c4, .slice A5 n5 c5] at_ #[.bool m, .slice B1 s1 d1, .slice B2 s2 d2]).alloc (.cells #[.int .i64 9, .int .i64 nn, .int .i64 ty, .int .u64 bb] 51)).heap.size ≤ q → (S q ∨ okT q) ∨ W.heap.size ≤ q) := ⟨fun q hq => by
   rcases HS.out _ hq with h | h | h
   · exact .inl (.inl h.1)
   · exact .inr (by omega)
   · exact .inr (by omega)⟩
 have hs1 : qAi (∀ q, ((((S q ∧ q < W.heap.size) ∨ W.heap.size + 1 + 1 + 1 ≤ q) ∧ q < (afW W #[.slice A1 n1 c1, .int .i64 res, .slice A2 n2 c2, .slice (some ad) n3 c3] #[.slice A4 n4 c4, .slice A5 n5 c5] at_ #[.bool m, .slice B1 s1 d1, .slice B2 s2 d2]).heap.size) ∨ ((afW W #[.slice A1 n1 c1, .int .i64 res, .slice A2 n2 c2, .slice (some ad) n3 c3] #[.slice A4 n4 c4, .slice A5 n5 c5] at_ #[.bool m, .slice B1 s1 d1, .slice B2 s2 d2]).alloc (.cells #[.int .i64 9, .int .i64 nn, .int .i64 ty, .int .u64 bb] 51)).heap.size ≤ q) ∨ okT q ∧ q < W.heap.size → (S q ∨ okT q) ∨ W.heap.size ≤ q) := ⟨fun q hq => by
   rcases hq with h | h
   · exact hS1.out q h
   · exact .inl (.inr h.1)⟩
 go_region_held3 (fun W' => W'.cell? ⟨W.heap.size + 1 + 1 + 1, 0, none⟩ = some (.bool m) ∧ W'.cell? ⟨W.heap.size + 1 + 1 + 1, 1, none⟩ = some (.slice C1 st'.length q1) ∧ W'.cell? ⟨W.heap.size + 1 + 1 + 1, 2, none⟩ = some (.slice C2 tr.length q2) ∧ W'.cell? ⟨W.heap.size + 1 + 1 + 1 + 1, 1, none⟩ = some (.int .i64 nn))
  (first | go_keep | exact ⟨e0, e1, e2, ei⟩ | exact ⟨f0, f1, f2, fi⟩ | exact ⟨g0, g1, g2, gi⟩)
  (first
    | (go_at_call 87;
       refine (qCw (W := w1.drew) (okW := fun q => ((S q ∨ okT q) ∨ W.heap.size ≤ q)) (W.heap.size + 1 + 1) at_ ea h0 hat hok1.out (Kd.N_drew HN1.out) (fun q hq => hS1.out q hq.1) (Kd.N_drew HN3.out) (fun q hq => hs1.out q hq.1)).mono ?_;
       rintro e w2 ⟨r, hr, rfl, hN, hb1⟩;
       have f0 := (hb1.cell (World.block_lt_of_cell? _ _ e0)).trans e0;
       have f1 := (hb1.cell (World.block_lt_of_cell? _ _ e1)).trans e1;
       have f2 := (hb1.cell (World.block_lt_of_cell? _ _ e2)).trans e2;
       have fi := (hb1.cell (World.block_lt_of_cell? _ _ ei)).trans ei;
       have HNw := am hN;
       have HB1 := am hb1;
       have HRL := am hr;
       have HRLT := am (Kd.N_lt hN r rfl);
       clear hN hb1 hr)
    | (go_at_call 64;
       refine (qC8 m C1 q1 st' C2 tr.length q2 tr _ _ w2 (Kd.F_below (Kd.N_F (Kd.N_drew HN1.out)) HB1.out) (Kd.F_below (Kd.F_bound (Kd.N_F (Kd.N_drew HN3.out))) HB1.out) HDL.out HTL.out (Kd.N_reads' HN1.out).2.1).mono ?_;
       rintro e w3 ⟨v1, v2, rfl, hR, hN, hb2⟩;
       have f0 := (hb2.cell (World.block_lt_of_cell? _ _ f0)).trans f0;
       have f1 := (hb2.cell (World.block_lt_of_cell? _ _ f1)).trans f1;
       have f2 := (hb2.cell (World.block_lt_of_cell? _ _ f2)).trans f2;
       have fi := (hb2.cell (World.block_lt_of_cell? _ _ fi)).trans fi;
       have HR := am hR;
       have HN4 := am hN;
       have HB2 := am hb2;
       clear hR hN hb2)
    | (refine Kd.N_append_step k157 (w0 := w3) 0 rfl _ _ 132 157 _ 64 rfl Tryz.underlying132 qDx rfl (by decide) (by decide) (.slice (some ⟨r, 0, none⟩) 1 1) [⟨at_ + 1, ⟨m, st', tr⟩⟩] ⟨nn, ⟨m, st', tr⟩⟩ [.int .i64 nn, .bool m, v1, v2] (fun q => ((S q ∨ okT q) ∨ W.heap.size ≤ q)) (fun q => ((S q ∨ okT q) ∨ W.heap.size ≤ q) ∧ q ≠ r) rfl rfl (FK_way (Kd.R_N (Kd.R_bound HR.out)) (fun q hq => ⟨.inr (Nat.le_trans HWS.out (Nat.le_trans HB1.out.size hq.2.1)), fun e => by { have h1 := hq.2.1; have h2 := HRLT.out; omega }⟩) HN4.out (fun q hq => hq.1.elim (fun h => ⟨hs1.out q h.1.1, by { have h1 := HRL.out; have h2 := h.2; omega }⟩) (fun h => ⟨.inr (Nat.le_trans HWS.out (Nat.le_trans HB1.out.size h)), by { have h2 := HRLT.out; omega }⟩))) (fun k hk => ⟨hk.1, by { simp [Value.ownBlock]; exact hk.2 }⟩) (fun k hk => .inr (Nat.le_trans HWS.out (Nat.le_trans HB1.out.size (Nat.le_trans HB2.out.size hk)))) (Kd.N_below HNw.out HB2.out) (Below.refl _ _) (Nat.zero_le _) (by simp) ?_;
       intro v4 w4 hN5 _ hg5 _;
       have hne5 : some (W.heap.size + 1 + 1 + 1) ≠ (Value.slice (some ⟨r, 0, none⟩) 1 1).ownBlock := by { have h1 := World.block_lt_of_cell? _ _ e0; have h2 := HRL.out; have h4 : w1.drew.heap.size = w1.heap.size := rfl; simp [Value.ownBlock] at h1 ⊢; omega };
       have hne6 : some (W.heap.size + 1 + 1 + 1 + 1) ≠ (Value.slice (some ⟨r, 0, none⟩) 1 1).ownBlock := by { have h1 := World.block_lt_of_cell? _ _ ei; have h2 := HRL.out; have h4 : w1.drew.heap.size = w1.heap.size := rfl; simp [Value.ownBlock] at h1 ⊢; omega };
       have g0 := hg5.cell f0 hne5;
       have g1 := hg5.cell f1 hne5;
       have g2 := hg5.cell f2 hne5;
       have gi := hg5.cell fi hne6;
       have HN5 := am hN5;
       have HG5 := am hg5;
       obtain ⟨A5', c5', ev4⟩ := Kd.N_slice hN5;
       subst ev4;
       clear hN5 hg5))
 go_wp2_with fail
 go_ret2
 refine ⟨_, _, _, rfl, fun _ => Kd.N_F HN5.out, ?_⟩
 refine Fr.grown (((Fr.of_below HW.out).then_ HF1.out (fun q hq => ?_)).then_ (S1 := fun _ => False) (Fr.of_below ((qAr (Below.refl _ _)).trans (HB1.out.trans (HB2.out.mono HB1.out.size)))) (fun q hq => hq.elim)) HG5.out (fun k hk => ?_)
 ·rcases HS.out _ hq with h | h | h
  ·exact .inl h.1
  ·exact .inr (by omega)
  ·exact .inr (by omega)
 ·have h1 := HRL.out
  have h2 := HWS.out
  have h3 : r = k := by simpa [Value.ownBlock] using hk
  have h4 : w1.drew.heap.size = w1.heap.size := rfl
  omega
section
variable {P : Program} {ops : Array Oper} {rest : List Oper} {o : Oper} {a : Act} {Q : Exit → Act → World → Prop}
theorem N_append_rowsN {α : Type} (d : Kd α) {w0 W : World} (base : Nat) (hgd : o.guard = none) (s x : Operand) (t e : TypeId) (z : Value) (bytes : Nat)
  (ho : o.op = .call { callee := .builtin .append, args := #[s, x], argTypes := #[t, t] })
  (ht : P.underlying t = some (.slice e)) (hinfo : (P.info? e).map (fun i => (i.zero, i.size, i.bytes)) = some (some z, d.sz, bytes)) (hz : z.cells.size = d.sz) (hs0 : 0 < d.sz) (hb0 : 0 < bytes)
  (v : Value) (xs ys : List α) (A : Option Addr) (m c : Nat) (ok okr : Nat → Prop) (e2 b2 : Nat) (hs : a.eval s = v) (hx : a.eval x = .slice A m c)
  (HO : Kd.N d e W base ok v xs) (HR : Kd.N d e2 W b2 okr (.slice A m c) ys) (hokp : ∀ k, okr k ∧ some k ≠ (Value.slice A m c).ownBlock → ok k ∧ some k ≠ v.ownBlock) (hfresh : ∀ k, W.heap.size ≤ k → ok k)
  (HB : Below base w0 W) (hbase : base ≤ W.heap.size) (hl : (xs.length + m) * bytes ≤ 140737488355328)
  (h : ∀ v1 w1, Kd.N d e w1 base ok v1 (xs ++ ys) → Below base w0 w1 → W.grownBy w1 v.ownBlock → (v1.ownBlock = v.ownBlock ∨ ∃ b, v1.ownBlock = some b ∧ W.heap.size ≤ b) → wpList P ops Q rest (a.put o.dst v1) w1) :
  wpList P ops Q (o :: rest) a W := by
 obtain ⟨h0, rows, hlr, hR, hf⟩ := HO
 obtain ⟨_, news, hnl, hnr0, hnf⟩ := HR
 obtain ⟨hm, _, hnr⟩ := Kd.R_reads' hnr0
 subst hm
 refine Kd.R_append_rows (Kd.raw d.sz) base hgd s x t e z bytes ho ht hinfo hz hs0 hb0 v rows news A news.length c (fun _ => True) (fun _ => False) hs hx (Kd.raw_any hR) hnr (fun _ _ hk => hk) (fun _ hk => hk.elim) (fun _ _ => trivial) HB hbase (by rw [hlr]; exact hl) ?_
 intro v1 w1 hr hb hg hat
 exact h v1 w1 (Kd.N_appended h0 hlr hf hnl hnf hokp hfresh hr hg hat) hb hg hat
end
theorem cloneN_any (A : Option Addr) (n c : Nat) (tr : List S160) (ok : Nat → Prop) (W : World) (b2 : Nat) (HF : Kd.N k160 160 W b2 ok (.slice A n c) tr) (hn : n ≤ 2000000) :
  Calls Tryz.prog 90 #[.slice A n c] W fun e w' => ∃ v, e = .returned v ∧ Kd.N k160 160 w' W.heap.size (fun k => (ok k ∧ some k ≠ (Value.slice A n c).ownBlock) ∨ W.heap.size ≤ k) v tr ∧ Below W.heap.size W w' := by
 have hlen := (Kd.N_reads' HF).1.symm
 cases A with
 | none =>
  have h0 : n = 0 := by
   rcases Nat.eq_zero_or_pos n with h | h
   ·exact h
   obtain ⟨ad, had, _⟩ := (Kd.N_reads' HF).2.2.2.2 (by omega); cases had
  subst h0
  obtain rfl : tr = [] := List.length_eq_zero_iff.1 hlen
  have hq := Lib.run_eql_slice_nil (P := Tryz.prog) W 111 160 none 0 c 0 0 Tryz.underlying111
  clear HF hlen
  go_enter Tryz.func90, Tryz.ntmps90
  go_wp2
  go_ret
  exact ⟨_, rfl, Kd.N_nil _ _ _ _ _, Below.refl _ _⟩
 | some a =>
  have hq := Lib.run_eql_slice_nil (P := Tryz.prog) W 111 160 (some a) n c 0 0 Tryz.underlying111
  have hown : (W.alloc (.cells #[] 160)).ownsRow W.heap.size 160 2 (.slice (some ⟨W.heap.size, 0, none⟩) 0 0) 0 [] := World.ownsRow_made W #[] 0 (Nat.le_refl _) (by unfold maxLen; omega) rfl
  have HR : Kd.R k160 160 (W.alloc (.cells #[] 160)) W.heap.size (fun k => (ok k ∧ some k ≠ (Value.slice (some a) n c).ownBlock) ∨ W.heap.size ≤ k) (.slice (some ⟨W.heap.size, 0, none⟩) 0 0) [] := ⟨fun k hk => .inr (by cases hk; exact Nat.le_refl _), [], hown, Reps.none _ _⟩
  have HN := am (Kd.R_N HR)
  have HF' := am (Kd.N_alloc (Kd.N_bound HF) (.cells #[] 160))
  clear HF hown HR
  go_enter Tryz.func90, Tryz.ntmps90
  go_wp2_with (at_builtin; refine N_append_rowsN k160 (w0 := W) W.heap.size rfl (.tmp 5) (.tmp 6) 111 160 _ 32 rfl Tryz.underlying111 qCa rfl (by decide) (by decide) _ [] tr (some a) n c _ _ 160 b2 rfl rfl HN.out HF'.out ?h1 ?h2 ?h3 ?h4 ?h5 ?_; (case h1 => exact fun k hk => ⟨.inl ⟨hk.1.1, hk.2⟩, fun he => by cases he; exact absurd hk.1.2 (Nat.lt_irrefl _)⟩); (case h2 => intro k hk; exact .inr (by simp at hk; omega)); (case h3 => exact (Below.refl _ _).alloc (Nat.le_refl _) _); (case h4 => simp); (case h5 => simp; omega); intro v1 w1 hN hB _ _; have HN1 := am hN; have HB1 := am hB; clear hN hB)
  go_ret
  exact ⟨_, rfl, HN1.out, HB1.out⟩
theorem copiedN_any (m : Bool) (A : Option Addr) (c : Nat) (st : List Int) (B : Option Addr) (k d : Nat) (tr : List S160) (ok1 ok2 : Nat → Prop) (W : World) (H1 : Kd.F (Kd.int .i64) W ok1 A st.length st) (b2 : Nat) (H2 : Kd.N k160 160 W b2 ok2 (.slice B k d) tr) (hn : st.length ≤ 2000000) (hk : k ≤ 2000000) (hnc : st.length ≤ c) :
  Calls Tryz.prog 64 #[.agg #[.bool m, .slice A st.length c, .slice B k d]] W (qCV m st tr (fun q => ok2 q ∧ some q ≠ (Value.slice B k d).ownBlock) W) := by
 have HC1 : qAi (∀ W', Below W.heap.size W W' → Calls Tryz.prog 54 #[.slice A st.length c] W' fun e w' => ∃ v, e = .returned v ∧ Kd.R (Kd.int .i64) 3 w' W'.heap.size (fun _ => True) v st ∧ Below W'.heap.size W' w') :=
  ⟨fun W' hW => qCe A c st W' (Kd.F_now (Kd.F_below H1 hW)) hn⟩
 have HC2 : qAi (∀ W', Below W.heap.size W W' → Calls Tryz.prog 90 #[.slice B k d] W' fun e w' => ∃ v, e = .returned v ∧ Kd.N k160 160 w' W'.heap.size (fun q => ((ok2 q ∧ q < W.heap.size) ∧ some q ≠ (Value.slice B k d).ownBlock) ∨ W'.heap.size ≤ q) v tr ∧ Below W'.heap.size W' w') :=
  ⟨fun W' hW => cloneN_any B k d tr _ W' b2 (Kd.N_below (Kd.N_bound H2) hW) hk⟩
 obtain ⟨n, hn'⟩ : ∃ n, n = st.length := ⟨_, rfl⟩
 rw [← hn'] at HC1 ⊢
 clear H1 H2 hn hk hnc hn'
 obtain ⟨WB, hWB⟩ : ∃ WB, WB = (W.alloc (.cells #[.bool m, .slice A n c, .slice B k d] 113)).alloc (.cells #[.bool false, .slice none 0 0, .slice none 0 0] 113) := ⟨_, rfl⟩
 have hBB : Below W.heap.size W WB := hWB ▸ ((Below.refl _ _).alloc (Nat.le_refl _) _).alloc (by simp) _
 have hz : WB.heap.size = W.heap.size + 1 + 1 := by rw [hWB]; simp
 have b0 : WB.heap[W.heap.size]? = some (.cells #[.bool m, .slice A n c, .slice B k d] 113 (0, 0)) := by rw [hWB]; exact qAs (qAF W _) (qAb (Below.refl _ _) _)
 have b1 : WB.heap[W.heap.size + 1]? = some (.cells #[.bool false, .slice none 0 0, .slice none 0 0] 113 (0, 0)) := by rw [hWB]; simpa using qAF (W.alloc (.cells #[.bool m, .slice A n c, .slice B k d] 113)) _
 have HWB := am hWB
 have HBB := am hBB
 have e0 := (qAc b0 0).trans rfl
 have e1 := (qAc b0 1).trans rfl
 have e2 := (qAc b0 2).trans rfl
 go_enter Tryz.func64, Tryz.ntmps64
 go_wp2_with fail
 rw [← hWB]
 clear hWB
 go_region_held3 (fun W' => W'.cell? ⟨W.heap.size, 0, none⟩ = some (.bool m) ∧ W'.cell? ⟨W.heap.size, 1, none⟩ = some (.slice A n c) ∧ W'.cell? ⟨W.heap.size, 2, none⟩ = some (.slice B k d))
  (first | go_keep | exact ⟨g0, g1, g2⟩ | exact ⟨f0, f1, f2⟩ | exact ⟨e0, e1, e2⟩)
  (first
    | (go_at_call 54;
       refine (HC1.out _ (qAr HBB.out)).mono ?_;
       rintro e w1 ⟨v1, rfl, hR1, hb1⟩;
       have hb1' : Below WB.heap.size WB w1 := (qAr (Below.refl _ _)).trans hb1;
       have b0' := qAs b0 hb1';
       have b1' := qAs b1 hb1';
       have f0 := (qAc b0' 0).trans rfl;
       have f1 := (qAc b0' 1).trans rfl;
       have f2 := (qAc b0' 2).trans rfl;
       have hBB1 := Below.trans hBB (hb1'.mono (by omega));
       have HBB1 := am hBB1;
       obtain ⟨A1, c1, ev1⟩ := Kd.R_slice hR1;
       subst ev1;
       have HR1 := am hR1;
       have HB1 := am hb1';
       clear hR1 hb1 hb1' hBB1)
    | (go_at_call 90;
       refine (HC2.out _ HBB1.out).mono ?_;
       rintro e w2 ⟨v2, rfl, hN2, hb2⟩;
       have b0'' := qAs b0' hb2;
       have b1'' := qAs b1' hb2;
       have g0 := (qAc b0'' 0).trans rfl;
       have g1 := (qAc b0'' 1).trans rfl;
       have g2 := (qAc b0'' 2).trans rfl;
       have hcz0 := (qAc b1'' 0).trans rfl;
       have hcz1 := (qAc b1'' 1).trans rfl;
       have hcz2 := (qAc b1'' 2).trans rfl;
       have hfz0 := qAm b1'' 0;
       have hfz1 := qAm b1'' 1;
       have hfz2 := qAm b1'' 2;
       obtain ⟨A2, c2, ev2⟩ := Kd.N_slice hN2;
       subst ev2;
       have HN2 := am hN2;
       have HB2 := am hb2;
       clear hN2 hb2))
 have hv1a := Kd.R_base HR1.out
 have hv1b := Kd.R_lt HR1.out
 have hz' : WB.drew.heap.size = W.heap.size + 1 + 1 := hz
 have hs2 := HB2.out.size
 have hs1 : W.heap.size + 1 < w1.heap.size := by
  rcases Nat.lt_or_ge (W.heap.size + 1) w1.heap.size with h | h
  ·exact h
  rw [Array.getElem?_eq_none h] at b1'; cases b1'
 go_wp2
 refine bodyPost_ret (results_cell_row rfl _ _ (W.heap.size + 1) 113 #[.bool m, .slice A1 st.length c1, .slice A2 tr.length c2] (0, 0) _ rfl (by refine qAS (cs := #[.bool m, .slice A1 st.length c1, .slice none 0 0]) ?_ 2 _ rfl; refine qAS (cs := #[.bool m, .slice none 0 0, .slice none 0 0]) ?_ 1 _ rfl; refine qAS (cs := #[.bool false, .slice none 0 0, .slice none 0 0]) ?_ 0 _ rfl; exact b1'') Tryz.underlying113 rfl (by kernel_rfl)) rfl ?_
 generalize hWf : ((w2.setCell _ _).setCell _ _).setCell _ _ = Wf
 have hE : ∀ q, q ≠ W.heap.size + 1 → Wf.heap[q]? = w2.heap[q]? := fun q hq => by
  rw [← hWf, Below.heap_setCell _ _ _ _ hq, Below.heap_setCell _ _ _ _ hq, Below.heap_setCell _ _ _ _ hq]
 have hBf : Below W.heap.size W Wf := by
  rw [← hWf]
  exact qA8 (qA8 (qA8 (HBB1.out.trans (HB2.out.mono (by omega))) (by simp)) (by simp)) (by simp)
 refine ⟨_, _, rfl, ?_, ?_, hBf⟩
 ·have h1 := Kd.R_lower (Kd.R_below (Kd.R_bound HR1.out) HB2.out) (show W.heap.size ≤ WB.drew.heap.size by omega)
  exact Kd.R_mono (Kd.R_step h1 (fun q hq _ => hE q (by omega))) (fun _ _ => trivial)
 ·have h2 := Kd.N_lower HN2.out (show W.heap.size ≤ w1.heap.size by omega)
  refine Kd.N_mono (Kd.N_step h2 (fun q hq _ => hE q (by omega))) (fun q hq => ⟨?_, fun he => ?_⟩)
  ·rcases hq with h | h
   ·exact .inl ⟨h.1.1, h.2⟩
   ·exact .inr (by omega)
  ·have := hv1a q he.symm; have := hv1b q he.symm; omega
theorem ShO.grown3 {W W' : World} {g : Nat} {m : Bool} {st : List Int} {tr : List S160} {S okT : Nat → Prop} (h : ShO W g m st tr S okT) {row : Option Nat} (hg : W.grownBy W' row) (hne : ∀ q, S q ∨ okT q → some q ≠ row) : ShO W' g m st tr S okT := by
 obtain ⟨v1, v2, h0, h1, h2, h3, h4⟩ := h
 exact ⟨v1, v2, (hg.block g (qBf h0) (hne g (.inl h1))).trans h0, h1, Kd.N_grown h2 hg (fun k hk => hne k (.inl hk.1)), h3, Kd.N_grown h4 hg (fun k hk => hne k hk.1)⟩
theorem Fr.grownS {W W' W1 : World} {S : Nat → Prop} (h : Fr W1 W S) {row : Option Nat} (hg : W.grownBy W' row) (hr : ∀ r, row = some r → S r ∨ W1.heap.size ≤ r) : Fr W1 W' S :=
 ⟨h.1.grown hg (Nat.zero_le _) (fun _ _ => Nat.zero_le _), Nat.le_trans h.2.1 hg.size, fun i hi hn => (hg.block i (Nat.lt_of_lt_of_le hi h.2.1) (fun e => by rcases hr i e.symm with h | h; exact hn h; omega)).trans (h.2.2 i hi hn)⟩
theorem N_int_tight {W : World} {e b : Nat} {ok : Nat → Prop} {v : Value} {xs : List Int} (h : Kd.N (Kd.int .i64) e W b ok v xs) : Kd.N (Kd.int .i64) e W b (fun q => some q = v.ownBlock) v xs := by
 obtain ⟨_, rows, hl, hR, hf⟩ := h
 exact ⟨fun k hk => hk.symm, rows, hl, hR, fun j x c hx hc _ _ => by have h := Kd.FK_now (hf j x c hx hc); exact h⟩
theorem FK_opened {W : World} {n : Int} {v1 : Value} {st : List Int} {b1 : Nat} {ok1 okp : Nat → Prop} (g1 : Kd.N (Kd.int .i64) 3 W b1 ok1 v1 st) (h1 : ∀ q, ok1 q → okp q) :
  Kd.FK k160 W okp ⟨n, st⟩ [.int .i64 n, v1] := by
 obtain ⟨A1, c1, rfl⟩ := Kd.N_slice g1
 intro W' hW
 exact k160_mk W' ⟨n, st⟩ (Kd.N_reads' g1).2.1 (Kd.F_mono (Kd.N_F g1) h1 W' hW)
theorem after_15 {W : World} (at_ : Int) (A1 A2 A3 A4 A5 : Option Addr) (n1 c1 n2 c2 n3 c3 n4 c4 n5 c5 : Nat) (res : Int) (code : List S51) (hC : Kd.C k51 W A3 n3 code) (h0 : 0 ≤ at_) (h1 : at_ < n3) (hop : (qAl code at_).f0 = 15)
  {m : Bool} {st : List Int} {tr : List S160} {v1 v2 : Value} {S okT : Nat → Prop} (g1 : Kd.N (Kd.int .i64) 3 W 0 S v1 st) (g2 : ∀ k, v2.ownBlock = some k → S k) (g3 : Kd.N k160 160 W 0 (fun q => (S q ∨ okT q) ∧ some q ≠ v1.ownBlock) v2 tr) (hl : st.length ≤ 2000000) (htl : tr.length ≤ 2000000) (hat : at_ ≤ 2000000) :
  Calls Tryz.prog 63 #[.agg #[.slice A1 n1 c1, .int .i64 res, .slice A2 n2 c2, .slice A3 n3 c3], .agg #[.slice A4 n4 c4, .slice A5 n5 c5], .int .i64 at_, .agg #[.bool m, v1, v2]] W fun e w' => qBu true [⟨at_ + 1, ⟨m, st, tr ++ [⟨(qAl code at_).f1, st⟩]⟩⟩, ⟨(qAl code at_).f1, ⟨m, st ++ [1], tr⟩⟩] S okT W e w' := by
 obtain ⟨ad, rfl, k0, k1, k2, k3⟩ := qBn hC at_ h0 h1
 obtain ⟨B1, d1, rfl⟩ := Kd.N_slice g1
 obtain ⟨B2, d2, rfl⟩ := Kd.N_slice g3
 have hV := qBz (m := m) (fv := #[.slice A1 n1 c1, .int .i64 res, .slice A2 n2 c2, .slice (some ad) n3 c3]) (pv := #[.slice A4 n4 c4, .slice A5 n5 c5]) (at_ := at_) g1 g2 g3
 obtain ⟨x, hx⟩ : ∃ x, x = qAl code at_ := ⟨_, rfl⟩
 rw [← hx] at k0 k1 k2 k3 hop ⊢
 rw [hop] at k0
 obtain ⟨nn, hnn⟩ : ∃ nn, nn = x.f1 := ⟨_, rfl⟩
 obtain ⟨ty, hty⟩ : ∃ ty, ty = x.f2.f0 := ⟨_, rfl⟩
 obtain ⟨bb, hbb⟩ : ∃ bb, bb = x.f2.f1 := ⟨_, rfl⟩
 rw [← hnn] at k1 ⊢
 rw [← hty] at k2
 rw [← hbb] at k3
 have hB := qAU W #[.slice A1 n1 c1, .int .i64 res, .slice A2 n2 c2, .slice (some ad) n3 c3] #[.slice A4 n4 c4, .slice A5 n5 c5] at_ #[.bool m, .slice B1 st.length d1, .slice B2 tr.length d2]
 have hbox := qBB W #[.slice A1 n1 c1, .int .i64 res, .slice A2 n2 c2, .slice (some ad) n3 c3] #[.slice A4 n4 c4, .slice A5 n5 c5] at_ #[.bool m, .slice B1 st.length d1, .slice B2 tr.length d2]
 replace k0 := (hB.cell (World.block_lt_of_cell? _ _ k0)).trans k0
 replace k1 := (hB.cell (World.block_lt_of_cell? _ _ k1)).trans k1
 replace k2 := (hB.cell (World.block_lt_of_cell? _ _ k2)).trans k2
 replace k3 := (hB.cell (World.block_lt_of_cell? _ _ k3)).trans k3
 simp only [afW] at k0 k1 k2 k3
 obtain ⟨s1, hs1⟩ : ∃ k, k = st.length := ⟨_, rfl⟩
 obtain ⟨s2, hs2⟩ : ∃ k, k = tr.length := ⟨_, rfl⟩
 rw [← hs1, ← hs2] at k0 k1 k2 k3 hB hbox hV ⊢
 have HBX := am hbox
 have HL := am hl
 have HW := am ((qAU W #[.slice A1 n1 c1, .int .i64 res, .slice A2 n2 c2, .slice (some ad) n3 c3] #[.slice A4 n4 c4, .slice A5 n5 c5] at_ #[.bool m, .slice B1 s1 d1, .slice B2 s2 d2]).alloc (by rw [qAO]; omega) (.cells #[.int .i64 15, .int .i64 nn, .int .i64 ty, .int .u64 bb] 51))
 have HCP := copiedN_any m B1 d1 st B2 tr.length d2 tr _ _ ((afW W #[.slice A1 n1 c1, .int .i64 res, .slice A2 n2 c2, .slice (some ad) n3 c3] #[.slice A4 n4 c4, .slice A5 n5 c5] at_ #[.bool m, .slice B1 s1 d1, .slice B2 s2 d2]).alloc (.cells #[.int .i64 15, .int .i64 nn, .int .i64 ty, .int .u64 bb] 51)) (Kd.N_F (Kd.N_below (Kd.N_bound g1) HW.out)) 0 (Kd.N_below (Kd.N_bound g3) HW.out) hl htl (Kd.N_reads' g1).2.1
 have HCL : qAi (∀ (W' : World) (ok : Nat → Prop), Kd.N (Kd.int .i64) 3 W' 0 ok (.slice B1 st.length d1) st → Calls Tryz.prog 54 #[.slice B1 st.length d1] W' fun e w' => ∃ v, e = .returned v ∧ Kd.R (Kd.int .i64) 3 w' W'.heap.size (fun _ => True) v st ∧ Below W'.heap.size W' w') := ⟨fun W' ok h => qCe B1 d1 st W' (Kd.N_reads' h).2.2 hl⟩
 have hsz : ((afW W #[.slice A1 n1 c1, .int .i64 res, .slice A2 n2 c2, .slice (some ad) n3 c3] #[.slice A4 n4 c4, .slice A5 n5 c5] at_ #[.bool m, .slice B1 s1 d1, .slice B2 s2 d2]).alloc (.cells #[.int .i64 15, .int .i64 nn, .int .i64 ty, .int .u64 bb] 51)).heap.size = W.heap.size + 5 := by rw [World.size_alloc, qAO]
 unfold qCV at HCP
 rw [hsz] at HCP
 have G1 := N_int_tight g1
 have G3 := Kd.N_bound g3
 have hv1 := Kd.N_lt g1
 have hv2 := Kd.N_lt g3
 have hv2S := g2
 have hv1S := g1.1
 rw [← hs1] at HCP HCL G1 G3 hv1 hv1S
 rw [← hs2] at HCP G3 hv2 hv2S
 have HCP' := am HCP
 have HG1 := am G1
 have HG3 := am G3
 have HV1 := am hv1
 have HSv1 : qAi (∀ q, some q = (Value.slice B1 s1 d1).ownBlock → S q) := ⟨fun q hq => hv1S q hq.symm⟩
 have HV2 := am hv2
 have HV2S := am hv2S
 have HTL := am htl
 have HSZ := am hsz
 clear hsz
 have HBI : qAi (((afW W #[.slice A1 n1 c1, .int .i64 res, .slice A2 n2 c2, .slice (some ad) n3 c3] #[.slice A4 n4 c4, .slice A5 n5 c5] at_ #[.bool m, .slice B1 s1 d1, .slice B2 s2 d2]).alloc (.cells #[.int .i64 15, .int .i64 nn, .int .i64 ty, .int .u64 bb] 51)).heap[W.heap.size + 1 + 1 + 1 + 1]? = some (.cells #[.int .i64 15, .int .i64 nn, .int .i64 ty, .int .u64 bb] 51 (0, 0))) := ⟨by have := qAF (afW W #[.slice A1 n1 c1, .int .i64 res, .slice A2 n2 c2, .slice (some ad) n3 c3] #[.slice A4 n4 c4, .slice A5 n5 c5] at_ #[.bool m, .slice B1 s1 d1, .slice B2 s2 d2]) (.cells #[.int .i64 15, .int .i64 nn, .int .i64 ty, .int .u64 bb] 51); rwa [qAO] at this⟩
 clear hnn hty hbb
 clear hx
 clear G1 G3 HCP hv1 hv2 hv2S hv1S htl
 clear g1 g2 g3 hC hB hs1 hs2 hV hbox hl
 go_enter Tryz.func63, Tryz.ntmps63
 go_wp2_with (first
   | (go_at_call 64; (refine HCP'.out.mono ?_; rintro e w1 ⟨u1, u2, rfl, hR, hN, hb⟩; obtain ⟨C1, q1, rfl⟩ := Kd.R_slice hR; obtain ⟨C2, q2, rfl⟩ := Kd.N_slice hN; have hbz : Below ((afW W #[.slice A1 n1 c1, .int .i64 res, .slice A2 n2 c2, .slice (some ad) n3 c3] #[.slice A4 n4 c4, .slice A5 n5 c5] at_ #[.bool m, .slice B1 s1 d1, .slice B2 s2 d2]).alloc (.cells #[.int .i64 15, .int .i64 nn, .int .i64 ty, .int .u64 bb] 51)).heap.size ((afW W #[.slice A1 n1 c1, .int .i64 res, .slice A2 n2 c2, .slice (some ad) n3 c3] #[.slice A4 n4 c4, .slice A5 n5 c5] at_ #[.bool m, .slice B1 s1 d1, .slice B2 s2 d2]).alloc (.cells #[.int .i64 15, .int .i64 nn, .int .i64 ty, .int .u64 bb] 51)) w1 := HSZ.out.symm ▸ hb; have HB1W := am (HW.out.trans (hbz.mono HW.out.size)); have b0 := qAs (qAs HBX.out.2 (qAb (Below.refl _ _) (.cells #[.int .i64 15, .int .i64 nn, .int .i64 ty, .int .u64 bb] 51))) hbz; have bi := qAs HBI.out hbz; have ba := qAs (qAs HBX.out.1.a (qAb (Below.refl _ _) (.cells #[.int .i64 15, .int .i64 nn, .int .i64 ty, .int .u64 bb] 51))) hbz; have hz1 : W.heap.size + 5 ≤ w1.heap.size := HSZ.out ▸ hb.size; have HT := am (show ShV (w1.alloc (.cells #[.bool m, .slice C1 st.length q1, .slice C2 tr.length q2] 113)) w1.heap.size m st tr (fun q => W.heap.size + 5 ≤ q) (fun q => (((S q ∨ okT q) ∧ some q ≠ (Value.slice B1 s1 d1).ownBlock) ∧ q < W.heap.size) ∧ some q ≠ (Value.slice B2 s2 d2).ownBlock) (.slice C1 st.length q1) (.slice C2 tr.length q2) from ⟨qAF _ _, Nat.le_trans hz1 (Nat.le_refl _), Kd.N_alloc (Kd.N_mono (Kd.N_lower (Kd.R_N (Kd.R_bound hR)) (Nat.zero_le _)) (fun q hq => ⟨hq.2.1, fun e => Nat.lt_irrefl _ (e ▸ hq.2.2.1)⟩)) _, Kd.N_base hN, Kd.N_alloc (Kd.N_mono (Kd.N_lower (Kd.N_bound hN) (Nat.zero_le _)) (fun q hq => ⟨hq.1.1.symm, fun e => Nat.lt_irrefl _ (e ▸ hq.2), hq.1.2⟩)) _⟩); clear hR hN hb hbz))
   | (at_builtin; (refine qCF HT.out 1 rfl _ _ rfl rfl (by rw [World.size_alloc]; rfl) (fun k hk => Nat.le_trans hz1 (Nat.le_trans (by simp) hk)) HL.out ?_; intro A6 c6 w3 h5 h5b h6 h7; have hns : ¬ (W.heap.size + 5 ≤ W.heap.size + 1 + 1 + 1) := (by omega); have hni : ¬ (W.heap.size + 5 ≤ W.heap.size + 1 + 1 + 1 + 1) := (by omega); have hna : ¬ (W.heap.size + 5 ≤ W.heap.size + 1 + 1) := (by omega); have bX := h7.blk (qAs b0 (qAb (Below.refl _ _) _)) hns; have biX := h7.blk (qAs bi (qAb (Below.refl _ _) _)) hni; have baX := h7.blk (qAs ba (qAb (Below.refl _ _) _)) hna; have e1 := (qAc bX 1).trans rfl; have eg3 := (qAc h5 1).trans rfl; have ef3 := qAm h5 1; have HB2W := am (HB1W.out.alloc (HB1W.out.size) (.cells #[.bool m, .slice C1 st.length q1, .slice C2 tr.length q2] 113)); have HX1 := am (Kd.N_kept (Kd.N_below HG1.out HB2W.out) h7.2 (fun k hk h => by (have := HV1.out k hk.symm; omega))); have HX3 := am (Kd.N_kept (Kd.N_below HG3.out HB2W.out) h7.2 (fun k hk h => by (have := hk.2; omega))); have hzW : W.heap.size + 5 ≤ (w3.setCell ⟨w1.heap.size, 1, none⟩ (.slice A6 (st.length + 1) c6)).heap.size := Nat.le_trans hz1 (Nat.le_trans (Nat.le_succ _) (by simpa using h7.size)); have H6 := am h6; have H7 := am h7; clear h5 h5b h6 h7))
   | (go_at_call 54; (refine (HCL.out _ _ HX1.out).mono ?_; rintro e w4 ⟨v, rfl, hR4, hb4⟩; obtain ⟨C4, q4, rfl⟩ := Kd.R_slice hR4; have b4 := qAs bX hb4; have bi4 := qAs biX hb4; have ba4 := qAs baX hb4; have f2 := (qAc b4 2).trans rfl; have fi := (qAc bi4 1).trans rfl; have HY1 := am (Kd.N_below HX1.out hb4); have HY3 := am (Kd.N_below HX3.out hb4); have HS4 := am (ShO.below H6.out hb4); have HR4 := am hR4; have HB4 := am hb4; have hz4 := hb4.size; clear hR4 hb4))
   | (at_builtin; (refine Kd.N_append k160 (w0 := w4) 0 rfl _ _ 111 160 _ 32 rfl Tryz.underlying111 qCa rfl (by decide) (by decide) (Value.slice B2 s2 d2) tr ⟨nn, st⟩ [.int .i64 nn, .slice C4 st.length q4] (fun q => ((S q ∨ okT q) ∨ W.heap.size ≤ q) ∧ some q ≠ (Value.slice B1 s1 d1).ownBlock ∧ q ≠ W.heap.size + 1 + 1 + 1) (fun q => W.heap.size + 5 ≤ q) rfl rfl (FK_opened (Kd.R_N (Kd.R_bound HR4.out)) (fun q hq => Nat.le_trans hzW hq.2.1)) (fun q hq => ⟨⟨.inr (by omega), fun h => by { have := HV1.out _ h.symm; omega }, by omega⟩, fun h => by { have := HV2.out _ h.symm; omega }⟩) (fun k hk => have h9 : W.heap.size + 5 ≤ k := Nat.le_trans hzW (Nat.le_trans hz4 hk); ⟨.inr (by omega), fun h => by { have := HV1.out _ h.symm; omega }, by omega⟩) (Kd.N_mono HY3.out (fun q hq => ⟨.inl hq.1.1, hq.1.2, by { have := hq.2; omega }⟩)) (Below.refl _ _) (Nat.zero_le _) (by { have := HTL.out; omega }) ?_; intro v5 w5 hN5 _ hg5 _; obtain ⟨C5, q5, rfl⟩ := Kd.N_slice hN5; have hn2 : some (W.heap.size + 1 + 1 + 1) ≠ (Value.slice B2 s2 d2).ownBlock := (fun h => by { have := HV2.out _ h.symm; omega }); have b5 := (hg5.block _ (qBf b4) hn2).trans b4; have bi5 := (hg5.block _ (qBf bi4) (fun h => by { have := HV2.out _ h.symm; omega })).trans bi4; have ba5 := (hg5.block _ (qBf ba4) (fun h => by { have := HV2.out _ h.symm; omega })).trans ba4; rw [show (tr ++ [(⟨nn, st⟩ : S160)]).length = tr.length + 1 by simp] at hN5; have eg5 := (qAc b5 2).trans rfl; have ef5 := qAm b5 2; have HN5 := am hN5; have HG5 := am hg5; clear hN5 hg5)))
 obtain ⟨WZ, hWZ⟩ : ∃ WZ, WZ = (w5.setCell ⟨W.heap.size + 1 + 1 + 1, 2, none⟩ (.slice C5 (tr.length + 1) q5)) := ⟨_, rfl⟩
 have bZ := qAS (cs := #[.bool m, .slice B1 s1 d1, .slice B2 s2 d2]) b5 2 (.slice C5 (tr.length + 1) q5) rfl
 have biZ : WZ.heap[W.heap.size + 1 + 1 + 1 + 1]? = some (.cells #[.int .i64 15, .int .i64 nn, .int .i64 ty, .int .u64 bb] 51 (0, 0)) := by rw [hWZ]; exact (Below.heap_setCell _ _ _ _ (by simp)).trans bi5
 have baZ : WZ.heap[W.heap.size + 1 + 1]? = some (.cells #[.int .i64 at_] 3 (0, 0)) := by rw [hWZ]; exact (Below.heap_setCell _ _ _ _ (by simp)).trans ba5
 rw [← hWZ] at bZ
 have HT5 := ShO.far (ShO.grown3 HS4.out HG5.out (fun q hq h => by
   rcases hq with (h9 | h9) | h9
   · have := HV2.out _ h.symm; have := h9.1; omega
   · have := HV2.out _ h.symm; omega
   · exact h9.2 h)) (p := ⟨W.heap.size + 1 + 1 + 1, 2, none⟩) (by rintro (h | h); exact hns h.1; dsimp only at h; omega) (by intro h; have := h.1.2; simp at this; omega) (.slice C5 (tr.length + 1) q5)
 have HZ1 := am (Kd.N_far (p := ⟨W.heap.size + 1 + 1 + 1, 2, none⟩) (Kd.N_grown HY1.out HG5.out (fun k hk h => (HG3.out.1 k h.symm).1.2 hk)) (fun k hk => by have := HV1.out k hk.symm; show k ≠ W.heap.size + 1 + 1 + 1; omega) (.slice C5 (tr.length + 1) q5))
 have HZ5 := am (Kd.N_far (p := ⟨W.heap.size + 1 + 1 + 1, 2, none⟩) HN5.out (fun k hk => hk.2.2) (.slice C5 (tr.length + 1) q5))
 have HFZ : qAi (Fr W WZ S) := ⟨by
   rw [hWZ]
   refine Fr.set (Fr.grownS ((((Fr.of_below HB2W.out).then_ H7.out (fun q hq => .inr (by omega))).then_ (S1 := fun _ => False) (Fr.of_below HB4.out) (fun q hq => hq.elim))) HG5.out (fun k hk => .inl (HV2S.out k hk))) (.inr (by show W.heap.size ≤ W.heap.size + 1 + 1 + 1; omega)) _⟩
 rw [← hWZ] at HT5 HZ1 HZ5 ⊢
 have hszZ : W.heap.size + 5 ≤ WZ.heap.size := Nat.le_trans hzW (by rw [hWZ]; simpa using Nat.le_trans hz4 HG5.out.size)
 clear hWZ
 obtain ⟨t1, t2, hbt, _, hT1, _, hT3⟩ := HT5
 obtain ⟨E1, r1, rfl⟩ := Kd.N_slice hT1
 obtain ⟨E2, r2, rfl⟩ := Kd.N_slice hT3
 have hl1 : (st ++ [(1 : Int)]).length = st.length + 1 := by simp
 rw [hl1] at hbt hT1 hT3
 have HQ1 := am (Kd.N_bound hT1)
 have HQ3 := am (Kd.N_bound hT3)
 have z0 := (qAc bZ 0).trans rfl
 have z1 := (qAc bZ 1).trans rfl
 have z2 := (qAc bZ 2).trans rfl
 have z3 := (qAc hbt 0).trans rfl
 have z4 := (qAc hbt 1).trans rfl
 have z5 := (qAc hbt 2).trans rfl
 have z6 := (qAc biZ 1).trans rfl
 have za := (qAc baZ 0).trans rfl
 have hbase : qAi (∀ k, WZ.heap.size ≤ k → (S k ∨ okT k) ∨ W.heap.size ≤ k) := ⟨fun k hk => .inr (by omega)⟩
 have hsS : qAi (∀ q, ((W.heap.size + 5 ≤ q ∧ q < (w3.setCell ⟨w1.heap.size, 1, none⟩ (.slice A6 (st.length + 1) c6)).heap.size) ∨ w4.heap.size ≤ q) ∨ ((((S q ∨ okT q) ∧ some q ≠ (Value.slice B1 s1 d1).ownBlock) ∧ q < W.heap.size) ∧ some q ≠ (Value.slice B2 s2 d2).ownBlock) → (S q ∨ okT q) ∨ W.heap.size ≤ q) := ⟨fun q hq => by
   rcases hq with (h | h) | h
   · exact .inr (by omega)
   · exact .inr (by omega)
   · exact .inl h.1.1.1⟩
 clear hT1 hT3
 have HLW : qAi (((WZ.alloc (.cells #[.int .i64 nn, .bool m, .slice E1 (st.length + 1) r1, .slice E2 tr.length r2] 157)).drew).heap[WZ.heap.size]? = some (.cells #[.int .i64 nn, .bool m, .slice E1 (st.length + 1) r1, .slice E2 tr.length r2] 157 (0, 0))) := ⟨qAF WZ _⟩
 have u0 := qAz (.cells #[.int .i64 nn, .bool m, .slice E1 (st.length + 1) r1, .slice E2 tr.length r2] 157) z0
 have u1 := qAz (.cells #[.int .i64 nn, .bool m, .slice E1 (st.length + 1) r1, .slice E2 tr.length r2] 157) z1
 have u2 := qAz (.cells #[.int .i64 nn, .bool m, .slice E1 (st.length + 1) r1, .slice E2 tr.length r2] 157) z2
 have u3 := qAz (.cells #[.int .i64 nn, .bool m, .slice E1 (st.length + 1) r1, .slice E2 tr.length r2] 157) z3
 have u4 := qAz (.cells #[.int .i64 nn, .bool m, .slice E1 (st.length + 1) r1, .slice E2 tr.length r2] 157) z4
 have u5 := qAz (.cells #[.int .i64 nn, .bool m, .slice E1 (st.length + 1) r1, .slice E2 tr.length r2] 157) z5
 have u6 := qAz (.cells #[.int .i64 nn, .bool m, .slice E1 (st.length + 1) r1, .slice E2 tr.length r2] 157) z6
 go_region_held3 (fun W' => W'.cell? ⟨W.heap.size + 1 + 1 + 1, 0, none⟩ = some (.bool m) ∧ W'.cell? ⟨W.heap.size + 1 + 1 + 1, 1, none⟩ = some (.slice B1 s1 d1) ∧ W'.cell? ⟨W.heap.size + 1 + 1 + 1, 2, none⟩ = some (.slice C5 (tr.length + 1) q5) ∧ W'.cell? ⟨w1.heap.size, 0, none⟩ = some (.bool m) ∧ W'.cell? ⟨w1.heap.size, 1, none⟩ = some (.slice E1 (st.length + 1) r1) ∧ W'.cell? ⟨w1.heap.size, 2, none⟩ = some (.slice E2 tr.length r2) ∧ W'.cell? ⟨W.heap.size + 1 + 1 + 1 + 1, 1, none⟩ = some (.int .i64 nn))
  (first | exact ⟨z0, z1, z2, z3, z4, z5, z6⟩ | exact ⟨u0, u1, u2, u3, u4, u5, u6⟩ | exact ⟨x0, x1, x2, x3, x4, x5, x6⟩ | exact ⟨y0, y1, y2, y3, y4, y5, y6⟩ | exact ⟨qAz _ x0, qAz _ x1, qAz _ x2, qAz _ x3, qAz _ x4, qAz _ x5, qAz _ x6⟩)
  (first
    | (go_at_call 87;
       refine (qCw (W := WZ.drew) (okW := fun q => ((S q ∨ okT q) ∨ W.heap.size ≤ q)) (W.heap.size + 1 + 1) at_ za h0 hat hbase.out (Kd.N_drew HZ1.out) (fun q hq => .inl (.inl (HSv1.out q hq))) (Kd.N_drew HZ5.out) (fun q hq => hq.1)).mono ?_;
       rintro e w6 ⟨r, hr, rfl, hN, hb6⟩;
       have x0 := (hb6.cell (World.block_lt_of_cell? _ _ z0)).trans z0;
       have x1 := (hb6.cell (World.block_lt_of_cell? _ _ z1)).trans z1;
       have x2 := (hb6.cell (World.block_lt_of_cell? _ _ z2)).trans z2;
       have x3 := (hb6.cell (World.block_lt_of_cell? _ _ z3)).trans z3;
       have x4 := (hb6.cell (World.block_lt_of_cell? _ _ z4)).trans z4;
       have x5 := (hb6.cell (World.block_lt_of_cell? _ _ z5)).trans z5;
       have x6 := (hb6.cell (World.block_lt_of_cell? _ _ z6)).trans z6;
       have HNw := am hN;
       have HRL : qAi (WZ.heap.size ≤ r) := ⟨hr⟩;
       have HBZ : qAi (Below WZ.heap.size WZ w6) := ⟨(qAr (Below.refl _ _)).trans hb6⟩;
       clear hN hb6 hr)
    | (go_at_call 87;
       refine (qCw (W := (WZ.alloc (.cells #[.int .i64 nn, .bool m, .slice E1 (st.length + 1) r1, .slice E2 tr.length r2] 157)).drew) (okW := fun q => ((S q ∨ okT q) ∨ W.heap.size ≤ q)) (W.heap.size + 1 + 1) at_ (qAz _ za) h0 hat (fun k hk => hbase.out k (Nat.le_trans (Nat.le_of_lt (by { show WZ.heap.size < (WZ.alloc (.cells #[.int .i64 nn, .bool m, .slice E1 (st.length + 1) r1, .slice E2 tr.length r2] 157)).heap.size; simp })) hk)) (Kd.N_drew (Kd.N_alloc HZ1.out _)) (fun q hq => .inl (.inl (HSv1.out q hq))) (Kd.N_drew (Kd.N_alloc HZ5.out _)) (fun q hq => hq.1)).mono ?_;
       rintro e w6 ⟨r, hr, rfl, hN, hb6⟩;
       have x0 := (hb6.cell (World.block_lt_of_cell? _ _ u0)).trans u0;
       have x1 := (hb6.cell (World.block_lt_of_cell? _ _ u1)).trans u1;
       have x2 := (hb6.cell (World.block_lt_of_cell? _ _ u2)).trans u2;
       have x3 := (hb6.cell (World.block_lt_of_cell? _ _ u3)).trans u3;
       have x4 := (hb6.cell (World.block_lt_of_cell? _ _ u4)).trans u4;
       have x5 := (hb6.cell (World.block_lt_of_cell? _ _ u5)).trans u5;
       have x6 := (hb6.cell (World.block_lt_of_cell? _ _ u6)).trans u6;
       have HNw := am hN;
       have hr' : WZ.heap.size + 1 ≤ r := by { have h1 : (WZ.alloc (.cells #[.int .i64 nn, .bool m, .slice E1 (st.length + 1) r1, .slice E2 tr.length r2] 157)).heap.size ≤ r := hr; simpa using h1 };
       have HRL : qAi (WZ.heap.size ≤ r) := ⟨by omega⟩;
       have HRN : qAi (WZ.heap.size ≠ r) := ⟨by omega⟩;
       have HBZ : qAi (Below WZ.heap.size WZ w6) := ⟨((qAr (qAb (Below.refl _ _) (.cells #[.int .i64 nn, .bool m, .slice E1 (st.length + 1) r1, .slice E2 tr.length r2] 157))).trans (hb6.mono (Nat.le_of_lt (by { show WZ.heap.size < (WZ.alloc (.cells #[.int .i64 nn, .bool m, .slice E1 (st.length + 1) r1, .slice E2 tr.length r2] 157)).heap.size; simp }))))⟩;
       have HLIT : qAi (w6.heap[WZ.heap.size]? = some (.cells #[.int .i64 nn, .bool m, .slice E1 (st.length + 1) r1, .slice E2 tr.length r2] 157 (0, 0))) := ⟨qAs HLW.out hb6⟩;
       clear hN hb6 hr hr')
    | (refine Kd.N_append_step k157 (w0 := w6) 0 rfl _ _ 132 157 _ 64 rfl Tryz.underlying132 qDx rfl (by decide) (by decide) (.slice (some ⟨r, 0, none⟩) 1 1) [⟨at_ + 1, ⟨m, st, tr ++ [⟨nn, st⟩]⟩⟩] ⟨nn, ⟨m, st ++ [1], tr⟩⟩ [.int .i64 nn, .bool m, .slice E1 (st.length + 1) r1, .slice E2 tr.length r2] (fun q => ((S q ∨ okT q) ∨ W.heap.size ≤ q)) (fun q => ((S q ∨ okT q) ∨ W.heap.size ≤ q) ∧ q ≠ r) rfl rfl (FK_way (Kd.N_below HQ1.out HBZ.out) (fun q hq => ⟨hsS.out q (.inl hq.1.1), fun e => by { have h1 := HRL.out; omega }⟩) (Kd.N_below HQ3.out HBZ.out) (fun q hq => ⟨hsS.out q hq.1.1, fun e => by { have h1 := HRL.out; omega }⟩)) (fun k hk => ⟨hk.1, by { simp [Value.ownBlock]; exact hk.2 }⟩) (fun k hk => hbase.out k (Nat.le_trans HBZ.out.size hk)) HNw.out (Below.refl _ _) (Nat.zero_le _) (by simp) ?_;
       intro v7 w7 hN7 _ hg7 _;
       have hneA : ∀ (p : Addr) (v : Value), WZ.cell? p = some v → some p.block ≠ (Value.slice (some ⟨r, 0, none⟩) 1 1).ownBlock := fun p v hp => by { have h1 := World.block_lt_of_cell? _ _ hp; have h2 := HRL.out; simp [Value.ownBlock]; omega };
       have y0 := hg7.cell x0 (hneA _ _ z0);
       have y1 := hg7.cell x1 (hneA _ _ z1);
       have y2 := hg7.cell x2 (hneA _ _ z2);
       have y3 := hg7.cell x3 (hneA _ _ z3);
       have y4 := hg7.cell x4 (hneA _ _ z4);
       have y5 := hg7.cell x5 (hneA _ _ z5);
       have y6 := hg7.cell x6 (hneA _ _ z6);
       have HN7 := am hN7;
       have HG7 := am hg7;
       obtain ⟨A7, c7, ev7⟩ := Kd.N_slice hN7;
       subst ev7;
       clear hN7 hg7)
    | (refine Kd.N_append_rows_step k157 (w0 := w6) 0 rfl _ _ 132 157 _ 64 rfl Tryz.underlying132 qDx rfl (by decide) (by decide) (.slice (some ⟨r, 0, none⟩) 1 1) [⟨at_ + 1, ⟨m, st, tr ++ [⟨nn, st⟩]⟩⟩] [⟨nn, ⟨m, st ++ [1], tr⟩⟩] (some ⟨WZ.heap.size, 0, none⟩) 1 1 (fun q => ((S q ∨ okT q) ∨ W.heap.size ≤ q)) (fun q => ((S q ∨ okT q) ∨ W.heap.size ≤ q) ∧ q ≠ r) rfl rfl HNw.out (ways_one HLIT.out ⟨hbase.out _ (Nat.le_refl _), HRN.out⟩ (Kd.N_below HQ1.out HBZ.out) (fun q hq => ⟨hsS.out q (.inl hq.1.1), fun e => by { have h1 := HRL.out; omega }⟩) (Kd.N_below HQ3.out HBZ.out) (fun q hq => ⟨hsS.out q hq.1.1, fun e => by { have h1 := HRL.out; omega }⟩)) (fun k hk => ⟨hk.1, by { simp [Value.ownBlock]; exact hk.2 }⟩) (fun k hk => hbase.out k (Nat.le_trans HBZ.out.size hk)) (Below.refl _ _) (Nat.zero_le _) (by simp) ?_;
       intro v7 w7 hN7 _ hg7 _;
       have hneA : ∀ (p : Addr) (v : Value), WZ.cell? p = some v → some p.block ≠ (Value.slice (some ⟨r, 0, none⟩) 1 1).ownBlock := fun p v hp => by { have h1 := World.block_lt_of_cell? _ _ hp; have h2 := HRL.out; simp [Value.ownBlock]; omega };
       have y0 := hg7.cell x0 (hneA _ _ z0);
       have y1 := hg7.cell x1 (hneA _ _ z1);
       have y2 := hg7.cell x2 (hneA _ _ z2);
       have y3 := hg7.cell x3 (hneA _ _ z3);
       have y4 := hg7.cell x4 (hneA _ _ z4);
       have y5 := hg7.cell x5 (hneA _ _ z5);
       have y6 := hg7.cell x6 (hneA _ _ z6);
       have HN7 := am hN7;
       have HG7 := am hg7;
       obtain ⟨A7, c7, ev7⟩ := Kd.N_slice hN7;
       subst ev7;
       clear hN7 hg7))
 all_goals (
   go_wp2_with fail
   go_ret2
   refine ⟨_, _, _, rfl, fun _ => Kd.N_F HN7.out, ?_⟩
   refine Fr.grown (HFZ.out.then_ (S1 := fun _ => False) (Fr.of_below HBZ.out) (fun q hq => hq.elim)) HG7.out (fun k hk => ?_)
   have h1 := HRL.out
   have h3 : r = k := by simpa [Value.ownBlock] using hk
   omega)
def qAZ (ls vs : List Int) (fs : List S34) (res : Int) (x : S51) (at_ : Int) (m : Bool) (st : List Int) (tr : List S160) : Bool × List S157 :=
 if x.f0 = 8 then (true, [⟨x.f1, ⟨m, st, tr⟩⟩])
 else if x.f0 = 9 then (qBb 3 st, [⟨at_ + 1, ⟨m, st.dropLast, tr⟩⟩, ⟨x.f1, ⟨m, st.dropLast, tr⟩⟩])
 else if x.f0 = 11 then (res == 0 || qBb res st, [])
 else if x.f0 = 13 then (qBb 1 st, [])
 else if x.f0 = 15 then (true, [⟨at_ + 1, ⟨m, st, tr ++ [⟨x.f1, st⟩]⟩⟩, ⟨x.f1, ⟨m, st ++ [1], tr⟩⟩])
 else if x.f0 = 16 then (!tr.isEmpty, [⟨at_ + 1, ⟨m, st, tr.dropLast⟩⟩])
 else ((qAR ls vs fs x.f0 x.f1 x.f2.f0 st).1, [⟨at_ + 1, ⟨m, (qAR ls vs fs x.f0 x.f1 x.f2.f0 st).2, tr⟩⟩])
theorem qBu.none {W w' : World} {e : Ending} {b : Bool} {S okT : Nat → Prop} (he : e = .returned (.tuple #[.slice none 0 0, .bool b])) (hf : Fr W w' S) : qBu b [] S okT W e w' :=
 ⟨Option.none, 0, 0, he, fun _ => Kd.F_nil _ _ _, hf⟩
theorem qBu.bad {W w' : World} {e : Ending} {ws ws' : List S157} {S okT : Nat → Prop} (h : qBu false ws S okT W e w') : qBu false ws' S okT W e w' := by
 obtain ⟨A, n, c, he, _, hf⟩ := h
 exact ⟨A, n, c, he, (fun h => by cases h), hf⟩
theorem after_any {W : World} (at_ : Int) (A1 A2 A3 A4 A5 : Option Addr) (n1 c1 c2 n3 c3 c4 c5 : Nat) (res : Int) (code : List S51) (hC : Kd.C k51 W A3 n3 code) (h0 : 0 ≤ at_) (h1 : at_ < n3) (hop : 1 ≤ (qAl code at_).f0) (hop2 : (qAl code at_).f0 ≤ 17)
  {m : Bool} {st : List Int} {tr : List S160} {v1 v2 : Value} {S okT : Nat → Prop} (g1 : Kd.N (Kd.int .i64) 3 W 0 S v1 st) (g2 : ∀ k, v2.ownBlock = some k → S k) (g3 : Kd.N k160 160 W 0 (fun q => (S q ∨ okT q) ∧ some q ≠ v1.ownBlock) v2 tr) (hl : st.length ≤ 2000000) (htl : tr.length ≤ 2000000)
  {okF : Nat → Prop} {ls vs : List Int} {fs : List S34} (hL : Kd.F (Kd.int .i64) W okF A2 ls.length ls) (hVs : Kd.F (Kd.int .i64) W okF A5 vs.length vs) (hF : Kd.F k34 W okF A4 fs.length fs) (hoff : ∀ q, okF q → ¬ S q) (hpl : ∀ x ∈ fs, x.f0.length ≤ 2000000) (hn0 : 0 ≤ (qAl code at_).f1) (hat : at_ ≤ 2000000) :
  Calls Tryz.prog 63 #[.agg #[.slice A1 n1 c1, .int .i64 res, .slice A2 ls.length c2, .slice A3 n3 c3], .agg #[.slice A4 fs.length c4, .slice A5 vs.length c5], .int .i64 at_, .agg #[.bool m, v1, v2]] W fun e w' => qBu (qAZ ls vs fs res (qAl code at_) at_ m st tr).1 (qAZ ls vs fs res (qAl code at_) at_ m st tr).2 S okT W e w' := by
 by_cases h8 : (qAl code at_).f0 = 8
 ·rw [show qAZ ls vs fs res (qAl code at_) at_ m st tr = (true, [⟨(qAl code at_).f1, ⟨m, st, tr⟩⟩]) by simp [qAZ, h8]]
  refine (after_8 at_ A1 A2 A3 A4 A5 n1 c1 ls.length c2 n3 c3 fs.length c4 vs.length c5 res code hC h0 h1 h8 g1 g2 g3).mono ?_
  rintro e w' ⟨r, he, hf, hb⟩
  exact ⟨_, _, _, he, fun _ => hf, Fr.of_below hb⟩
 by_cases h9 : (qAl code at_).f0 = 9
 ·rw [show qAZ ls vs fs res (qAl code at_) at_ m st tr = (qBb 3 st, [⟨at_ + 1, ⟨m, st.dropLast, tr⟩⟩, ⟨(qAl code at_).f1, ⟨m, st.dropLast, tr⟩⟩]) by simp [qAZ, h9]]
  exact after_9 at_ A1 A2 A3 A4 A5 n1 c1 ls.length c2 n3 c3 fs.length c4 vs.length c5 res code hC h0 h1 h9 g1 g2 g3 hl htl hat
 by_cases h11 : (qAl code at_).f0 = 11
 ·rw [show qAZ ls vs fs res (qAl code at_) at_ m st tr = (res == 0 || qBb res st, []) by simp [qAZ, h11]]
  cases hr : (res == 0)
  ·refine (after_11 at_ A1 A2 A3 A4 A5 n1 c1 ls.length c2 n3 c3 fs.length c4 vs.length c5 res code hC h0 h1 h11 g1 g2 g3 hl hr).mono ?_
   rintro e w' ⟨he, hf⟩
   exact qBu.none he hf
  ·refine (after_11_none at_ A1 A2 A3 A4 A5 n1 c1 ls.length c2 n3 c3 fs.length c4 vs.length c5 res code hC h0 h1 h11 g1 g2 g3 hl hr).mono ?_
   rintro e w' ⟨he, hf⟩
   exact qBu.none he hf
 by_cases h13 : (qAl code at_).f0 = 13
 ·rw [show qAZ ls vs fs res (qAl code at_) at_ m st tr = (qBb 1 st, []) by simp [qAZ, h13]]
  refine (after_13 at_ A1 A2 A3 A4 A5 n1 c1 ls.length c2 n3 c3 fs.length c4 vs.length c5 res code hC h0 h1 h13 g1 g2 g3 hl).mono ?_
  rintro e w' ⟨he, hf⟩
  exact qBu.none he hf
 by_cases h15 : (qAl code at_).f0 = 15
 ·rw [show qAZ ls vs fs res (qAl code at_) at_ m st tr = (true, [⟨at_ + 1, ⟨m, st, tr ++ [⟨(qAl code at_).f1, st⟩]⟩⟩, ⟨(qAl code at_).f1, ⟨m, st ++ [1], tr⟩⟩]) by simp [qAZ, h15]]
  exact after_15 at_ A1 A2 A3 A4 A5 n1 c1 ls.length c2 n3 c3 fs.length c4 vs.length c5 res code hC h0 h1 h15 g1 g2 g3 hl htl hat
 by_cases h16 : (qAl code at_).f0 = 16
 ·rw [show qAZ ls vs fs res (qAl code at_) at_ m st tr = (!tr.isEmpty, [⟨at_ + 1, ⟨m, st, tr.dropLast⟩⟩]) by simp [qAZ, h16]]
  by_cases ht : tr = []
  ·rw [show (!tr.isEmpty) = false by simp [ht]]
   exact (after_16_bad at_ A1 A2 A3 A4 A5 n1 c1 ls.length c2 n3 c3 fs.length c4 vs.length c5 res code hC h0 h1 h16 g1 g2 g3 hl ht).mono (fun e w' h => h.bad)
  ·rw [show (!tr.isEmpty) = true by simp [ht]]
   exact after_16 at_ A1 A2 A3 A4 A5 n1 c1 ls.length c2 n3 c3 fs.length c4 vs.length c5 res code hC h0 h1 h16 g1 g2 g3 hl ht htl hat
 rw [show qAZ ls vs fs res (qAl code at_) at_ m st tr = ((qAR ls vs fs (qAl code at_).f0 (qAl code at_).f1 (qAl code at_).f2.f0 st).1, [⟨at_ + 1, ⟨m, (qAR ls vs fs (qAl code at_).f0 (qAl code at_).f1 (qAl code at_).f2.f0 st).2, tr⟩⟩]) by simp [qAZ, h8, h9, h11, h13, h15, h16]]
 exact after_pl at_ A1 A2 A3 A4 A5 n1 c1 c2 n3 c3 c4 c5 res code hC h0 h1 (by unfold plainOp; omega) g1 g2 g3 hl hL hVs hF hoff hpl hn0 hat
theorem eqints_any (A1 A2 : Option Addr) (c1 c2 : Nat) (l1 l2 : List Int) (w : World) (h1 : Kd.C (Kd.int .i64) w A1 l1.length l1) (h2 : Kd.C (Kd.int .i64) w A2 l2.length l2) (hc1 : l1.length ≤ c1) (hc2 : l2.length ≤ c2) (hl : l1.length ≤ 4611686018427387904) :
  Calls Tryz.prog 82 #[.slice A1 l1.length c1, .slice A2 l2.length c2] w fun e w' => e = .returned (.bool (l1 == l2)) ∧ Below w.heap.size w w' := by
 obtain ⟨k, hk⟩ := (eqints_ev l1 l2 hl).rounds
 rw [eqB_of (r := l1 == l2) (by simp)] at hk
 refine (qA1.calls k A1 c1 l1 A2 c2 l2 _ w h1 hc1 h2 hc2 hk).mono ?_
 rintro e w' ⟨rfl, hd⟩
 exact ⟨rfl, hd.below⟩
def tryB (x y : S160) : Bool := x.f0 == y.f0 && x.f1 == y.f1
theorem tryB_iff (x y : S160) : tryB x y = true ↔ x = y := by
 obtain ⟨a, b⟩ := x
 obtain ⟨c, d⟩ := y
 simp [tryB]
theorem sameTry_any (n1 n2 : Int) (A1 A2 : Option Addr) (c1 c2 : Nat) (l1 l2 : List Int) (w : World) (h1 : Kd.C (Kd.int .i64) w A1 l1.length l1) (h2 : Kd.C (Kd.int .i64) w A2 l2.length l2) (hc1 : l1.length ≤ c1) (hc2 : l2.length ≤ c2) (hl : l1.length ≤ 4611686018427387904) :
  Calls Tryz.prog 118 #[.agg #[.int .i64 n1, .slice A1 l1.length c1], .agg #[.int .i64 n2, .slice A2 l2.length c2]] w fun e w' => e = .returned (.bool (n1 == n2 && l1 == l2)) ∧ Below w.heap.size w w' := by
 have HE : qAi (∀ W, Below w.heap.size w W → Calls Tryz.prog 82 #[.slice A1 l1.length c1, .slice A2 l2.length c2] W fun e w' => e = .returned (.bool (l1 == l2)) ∧ Below W.heap.size W w') :=
  ⟨fun W hW => eqints_any A1 A2 c1 c2 l1 l2 W (Kd.C_below h1 hW) (Kd.C_below h2 hW) hc1 hc2 hl⟩
 obtain ⟨k1, hk1⟩ : ∃ k, k = l1.length := ⟨_, rfl⟩
 obtain ⟨k2, hk2⟩ : ∃ k, k = l2.length := ⟨_, rfl⟩
 obtain ⟨b, hb⟩ : ∃ b, b = (l1 == l2) := ⟨_, rfl⟩
 rw [← hk1, ← hk2, ← hb] at HE
 rw [← hk1, ← hk2, ← hb]
 clear h1 h2 hc1 hc2 hl hk1 hk2 hb
 go_enter Tryz.func118, Tryz.ntmps118
 go_wp2_with (go_at_call 82; refine (HE.out _ (((Below.refl _ _).alloc (Nat.le_refl _) _).alloc (by simp) _)).mono ?_; rintro e w1 ⟨rfl, hw⟩; have HB := am ((((Below.refl w.heap.size w).alloc (Nat.le_refl _) _).alloc (by simp) _).trans (hw.mono (by simp; omega))); clear hw)
 ·have e1 : (n1 == n2) = true := by simp_all
  rw [e1]
  go_ret
  exact ⟨by simp, HB.out⟩
 ·rename_i hne
  have e1 : (n1 == n2) = false := beq_eq_false_iff_ne.mpr hne
  rw [e1]
  go_ret
  exact ⟨rfl, ((Below.refl w.heap.size w).alloc (Nat.le_refl _) _).alloc (by simp) _⟩
def qB0 : List S160 → List S160 → Bool
 | [], [] => true
 | x :: xs, y :: ys => tryB x y && qB0 xs ys
 | _, _ => false
theorem qCi : ∀ a b : List S160, qB0 a b = true ↔ a = b
 | [], [] => by simp [qB0]
 | [], _ :: _ => by simp [qB0]
 | _ :: _, [] => by simp [qB0]
 | x :: xs, y :: ys => by simp [qB0, tryB_iff, qCi xs ys]
theorem triesB_of {a b : List S160} {r : Bool} (h : r = true ↔ a = b) : qB0 a b = r := by
 cases r with
 | true => exact (qCi a b).2 (h.1 rfl)
 | false =>
  cases e : qB0 a b with
  | false => rfl
  | true => exact (h.2 ((qCi a b).1 e)).symm
theorem eqtries_any (A1 A2 : Option Addr) (c1 c2 : Nat) (l1 l2 : List S160) (w : World) (hr1 : Kd.C k160 w A1 l1.length l1) (hr2 : Kd.C k160 w A2 l2.length l2) (hl : l1.length ≤ 4611686018427387904) (hs : ∀ x ∈ l1, x.f1.length ≤ 4611686018427387904) :
  Calls Tryz.prog 117 #[.slice A1 l1.length c1, .slice A2 l2.length c2, .func (.func 118) #[] #[]] w fun e w' => e = .returned (.bool (qB0 l1 l2)) ∧ Below w.heap.size w w' := by
 obtain ⟨n1, hn1⟩ : ∃ n, n = l1.length := ⟨_, rfl⟩
 obtain ⟨n2, hn2⟩ : ∃ n, n = l2.length := ⟨_, rfl⟩
 rw [← hn1] at hr1 hl ⊢
 rw [← hn2] at hr2 ⊢
 have HR1 := am hr1
 have HR2 := am hr2
 have HN1 := am hn1
 have HN2 := am hn2
 have HS := am hs
 clear hr1 hr2 hn1 hn2 hs
 by_cases hne : n1 = n2
 case neg =>
  have hq : ((n1 : Int) != (n2 : Int)) = true := bne_iff_ne.mpr (by omega)
  have hq2 : (n1 == n2) = false := beq_eq_false_iff_ne.mpr hne
  have HF : qAi (qB0 l1 l2 = false) := ⟨triesB_of ⟨nofun, fun h => absurd (by rw [HN1.out, HN2.out, h]) hne⟩⟩
  go_enter Tryz.func117, Tryz.ntmps117
  go_wp2
  go_ret
  exact ⟨by rw [HF.out]; rfl, Below.refl _ _⟩
 subst hne
 have hq : ((n1 : Int) != (n1 : Int)) = false := bne_eq_false_iff_eq.mpr rfl
 go_enter Tryz.func117, Tryz.ntmps117
 go_wp2
 go_loopg [7, 8, 9, 17] n1 (fun gg _ _ _ s17 wr => ∃ kk : Nat, kk ≤ n1 ∧ n1 - kk ≤ gg ∧ s17 = .int .i64 kk ∧ qAi (∀ (j : Nat) x y, j < kk → l1[j]? = some x → l2[j]? = some y → x = y) ∧ qAi (Below w.heap.size w wr))
 case atStart => exact ⟨0, Nat.zero_le _, by omega, rfl, ⟨fun j x y hj => absurd hj (Nat.not_lt_zero _)⟩, ⟨Below.refl _ _⟩⟩
 case round =>
  obtain ⟨kk, hkk, hg, rfl, HA, HB⟩ := hrel
  by_cases hlt : kk < n1
  rotate_left
  ·have hltz : ¬ (kk : Int) < (n1 : Int) := by omega
   have : kk = n1 := by omega
   subst this
   go_wp2
   go_ret
   refine ⟨?_, HB.out⟩
   rw [(qCi l1 l2).2 (eq_take l1 l2 (by rw [← HN1.out, ← HN2.out]) fun j x y hx hy => HA.out j x y (by rw [HN1.out]; exact (List.getElem?_eq_some_iff.1 hx).1) hx hy)]
   rfl
  have hltz : (kk : Int) < (n1 : Int) := by omega
  have h0 : (0 : Int) ≤ (kk : Int) := by omega
  obtain ⟨ad, D1, d1, ea, hx0, hx1, xl1, xC1⟩ := at_T160 HR1.out (kk : Int) h0 hltz
  subst ea
  obtain ⟨bd, E1, e1, eb, hy0, hy1, yl1, yC1⟩ := at_T160 HR2.out (kk : Int) h0 hltz
  subst eb
  rw [Int.toNat_natCast] at hx0 hx1 hy0 hy1
  replace hx0 := cb HB hx0
  replace hx1 := cb HB hx1
  replace hy0 := cb HB hy0
  replace hy1 := cb HB hy1
  obtain ⟨x, hx⟩ : ∃ x, x = qCn l1 (kk : Int) := ⟨_, rfl⟩
  obtain ⟨y, hy⟩ : ∃ x, x = qCn l2 (kk : Int) := ⟨_, rfl⟩
  rw [← hx] at hx0 hx1 xl1 xC1
  rw [← hy] at hy0 hy1 yl1 yC1
  have hgx : l1[kk]? = some x := by rw [hx]; exact qBW l1 z160 kk (by have := HN1.out; omega)
  have HX := am hgx
  have HY : qAi (l2[kk]? = some y) := ⟨by rw [hy]; exact qBW l2 z160 kk (by have := HN2.out; omega)⟩
  have HC : qAi (∀ W, Below w.heap.size w W → Calls Tryz.prog 118 #[.agg #[.int .i64 x.f0, .slice D1 x.f1.length d1], .agg #[.int .i64 y.f0, .slice E1 y.f1.length e1]] W fun e w' => e = .returned (.bool (tryB x y)) ∧ Below W.heap.size W w') :=
   ⟨fun W hW => sameTry_any x.f0 y.f0 D1 E1 d1 e1 x.f1 y.f1 W (Kd.C_below xC1 hW) (Kd.C_below yC1 hW) xl1 yl1 (HS.out x (List.mem_of_getElem? hgx))⟩
  clear hx hy xl1 xC1 yl1 yC1 hgx
  have hbl : (bd.add (kk * 2)).block < wr.heap.size := World.block_lt_of_cell? wr _ hy0
  obtain ⟨xa, hxa⟩ : ∃ q, q = x.f1.length := ⟨_, rfl⟩
  obtain ⟨ya, hya⟩ : ∃ q, q = y.f1.length := ⟨_, rfl⟩
  rw [← hxa, ← hya] at HC
  rw [← hxa] at hx1
  rw [← hya] at hy1
  obtain ⟨xs, hxs⟩ : ∃ q, q = x.f0 := ⟨_, rfl⟩
  obtain ⟨ys, hys⟩ : ∃ q, q = y.f0 := ⟨_, rfl⟩
  rw [← hxs, ← hys] at HC
  rw [← hxs] at hx0
  rw [← hys] at hy0
  clear hxa hya hxs hys
  obtain ⟨b, hb⟩ : ∃ b, b = tryB x y := ⟨_, rfl⟩
  rw [← hb] at HC
  have HQ := am hb
  clear hb
  cases b with
  | false =>
   go_wp2_with (go_at_call 118; refine (HC.out _ (qBx HB.out HB.out.size (((Below.refl wr.heap.size wr).alloc (Nat.le_refl _) _).alloc (by simp) _))).mono ?_; rintro e w1 ⟨rfl, hw⟩; have HB2 := am (qBx HB.out HB.out.size ((((Below.refl wr.heap.size wr).alloc (Nat.le_refl _) _).alloc (by simp) _).trans (hw.mono (by simp; omega)))); clear hw)
   go_ret
   refine ⟨?_, HB2.out⟩
   rw [triesB_of (r := false) ⟨nofun, fun h => by
     have h1 := HX.out
     rw [h, HY.out] at h1
     have h2 := (tryB_iff x y).2 (Option.some.inj h1).symm
     rw [← HQ.out] at h2; cases h2⟩]; rfl
  | true =>
   go_wp2_with (go_at_call 118; refine (HC.out _ (qBx HB.out HB.out.size (((Below.refl wr.heap.size wr).alloc (Nat.le_refl _) _).alloc (by simp) _))).mono ?_; rintro e w1 ⟨rfl, hw⟩; have HB2 := am (qBx HB.out HB.out.size ((((Below.refl wr.heap.size wr).alloc (Nat.le_refl _) _).alloc (by simp) _).trans (hw.mono (by simp; omega)))); clear hw)
   go_roundg (n1 - (kk + 1))
   case measure => omega
   case rel =>
    refine ⟨kk + 1, by omega, by omega, by go_num, ⟨fun j u v hj hu hv => ?_⟩, HB2⟩
    by_cases e : j = kk
    rotate_left
    ·exact HA.out j u v (by omega) hu hv
    subst e
    rw [HX.out] at hu; rw [HY.out] at hv
    injection hu with hu; injection hv with hv; subst hu; subst hv
    exact (tryB_iff x y).1 HQ.out.symm
theorem same_any (m1 m2 : Bool) (A1 A2 B1 B2 : Option Addr) (c1 c2 d1 d2 : Nat) (s1 s2 : List Int) (t1 t2 : List S160) (w : World) (h1 : Kd.C (Kd.int .i64) w A1 s1.length s1) (h2 : Kd.C (Kd.int .i64) w A2 s2.length s2) (g1 : Kd.C k160 w B1 t1.length t1) (g2 : Kd.C k160 w B2 t2.length t2) (hc1 : s1.length ≤ c1) (hc2 : s2.length ≤ c2)
  (hl : s1.length ≤ 4611686018427387904) (hm : t1.length ≤ 4611686018427387904) (hs : ∀ x ∈ t1, x.f1.length ≤ 4611686018427387904) :
  Calls Tryz.prog 91 #[.agg #[.bool m1, .slice A1 s1.length c1, .slice B1 t1.length d1], .agg #[.bool m2, .slice A2 s2.length c2, .slice B2 t2.length d2]] w fun e w' => e = .returned (.bool (s1 == s2 && qB0 t1 t2)) ∧ Below w.heap.size w w' := by
 have HE : qAi (∀ W, Below w.heap.size w W → Calls Tryz.prog 82 #[.slice A1 s1.length c1, .slice A2 s2.length c2] W fun e w' => e = .returned (.bool (s1 == s2)) ∧ Below W.heap.size W w') :=
  ⟨fun W hW => eqints_any A1 A2 c1 c2 s1 s2 W (Kd.C_below h1 hW) (Kd.C_below h2 hW) hc1 hc2 hl⟩
 have HF : qAi (∀ W, Below w.heap.size w W → Calls Tryz.prog 117 #[.slice B1 t1.length d1, .slice B2 t2.length d2, .func (.func 118) #[] #[]] W fun e w' => e = .returned (.bool (qB0 t1 t2)) ∧ Below W.heap.size W w') :=
  ⟨fun W hW => eqtries_any B1 B2 d1 d2 t1 t2 W (Kd.C_below g1 hW) (Kd.C_below g2 hW) hm hs⟩
 obtain ⟨k1, hk1⟩ : ∃ k, k = s1.length := ⟨_, rfl⟩
 obtain ⟨k2, hk2⟩ : ∃ k, k = s2.length := ⟨_, rfl⟩
 obtain ⟨k3, hk3⟩ : ∃ k, k = t1.length := ⟨_, rfl⟩
 obtain ⟨k4, hk4⟩ : ∃ k, k = t2.length := ⟨_, rfl⟩
 obtain ⟨a, ha⟩ : ∃ b, b = (s1 == s2) := ⟨_, rfl⟩
 obtain ⟨b, hb⟩ : ∃ b, b = qB0 t1 t2 := ⟨_, rfl⟩
 rw [← hk1, ← hk2, ← ha] at HE
 rw [← hk3, ← hk4, ← hb] at HF
 rw [← hk1, ← hk2, ← hk3, ← hk4, ← ha, ← hb]
 clear h1 h2 g1 g2 hc1 hc2 hl hm hs hk1 hk2 hk3 hk4 ha hb
 obtain ⟨WB, hWB⟩ : ∃ WB, WB = (w.alloc (.cells #[.bool m1, .slice A1 k1 c1, .slice B1 k3 d1] 113)).alloc (.cells #[.bool m2, .slice A2 k2 c2, .slice B2 k4 d2] 113) := ⟨_, rfl⟩
 have hBB : Below w.heap.size w WB := hWB ▸ ((Below.refl _ _).alloc (Nat.le_refl _) _).alloc (by simp) _
 have b0 : WB.heap[w.heap.size]? = some (.cells #[.bool m1, .slice A1 k1 c1, .slice B1 k3 d1] 113 (0, 0)) := by rw [hWB]; exact qAs (qAF w _) (qAb (Below.refl _ _) _)
 have b1 : WB.heap[w.heap.size + 1]? = some (.cells #[.bool m2, .slice A2 k2 c2, .slice B2 k4 d2] 113 (0, 0)) := by rw [hWB]; simpa using qAF (w.alloc (.cells #[.bool m1, .slice A1 k1 c1, .slice B1 k3 d1] 113)) _
 have HWB := am hWB
 have HBB := am hBB
 clear hWB hBB
 go_enter Tryz.func91, Tryz.ntmps91
 go_wp2_with (first
   | (go_at_call 82; rw [← HWB.out]; refine (HE.out _ HBB.out).mono ?_; rintro e w1 ⟨rfl, hw⟩; have f2 := (qAc (qAs b0 hw) 2).trans rfl; have g2 := (qAc (qAs b1 hw) 2).trans rfl; have HB1 := am (qBx HBB.out HBB.out.size hw); clear hw)
   | (go_at_call 117; refine (HF.out _ HB1.out).mono ?_; rintro e w2 ⟨rfl, hw⟩; have HB2 := am (qBx HB1.out HB1.out.size hw); clear hw))
 ·rename_i h
  subst h
  go_ret
  exact ⟨by simp, HB2.out⟩
 ·rename_i h
  have h' : a = false := by simpa using h
  subst h'
  go_ret
  exact ⟨rfl, HB1.out⟩
theorem way_F {W : World} {okF : Nat → Prop} {A : Option Addr} {n : Nat} {ws : List S157} (hF : Kd.F k157 W okF A n ws) (i : Int) (h0 : 0 ≤ i) (h1 : i < n) :
  ∃ ad D1 d1 D2 d2, A = some ad ∧ W.cell? (ad.add (i.toNat * 4)) = some (.int .i64 (qBr ws i).f0) ∧ W.cell? ⟨(ad.add (i.toNat * 4)).block, (ad.add (i.toNat * 4)).off + 1, none⟩ = some (.bool (qBr ws i).f1.f0) ∧ W.cell? ⟨(ad.add (i.toNat * 4)).block, (ad.add (i.toNat * 4)).off + 2, none⟩ = some (.slice D1 (qBr ws i).f1.f1.length d1) ∧ W.cell? ⟨(ad.add (i.toNat * 4)).block, (ad.add (i.toNat * 4)).off + 3, none⟩ = some (.slice D2 (qBr ws i).f1.f2.length d2) ∧ (qBr ws i).f1.f1.length ≤ d1 ∧ Kd.F (Kd.int .i64) W okF D1 (qBr ws i).f1.f1.length (qBr ws i).f1.f1 ∧ Kd.F k160 W okF D2 (qBr ws i).f1.f2.length (qBr ws i).f1.f2 ∧ okF ad.block := by
 obtain ⟨ad, c, rfl, hcl, hK, hcc0, hok⟩ := Kd.F_get hF z157 i h0 h1
 have hcc : ∀ j u, c[j]? = some u → W.cell? (ad.add (i.toNat * 4 + j)) = some u := hcc0
 obtain ⟨D1, d1, D2, d2, hcs, hd, _, _, _⟩ := qDj (Kd.FK_now hK)
 subst hcs
 refine ⟨ad, D1, d1, D2, d2, rfl, hcc 0 _ rfl, by rw [← qBi _ _ 1 (by omega)]; exact hcc 1 _ rfl, by rw [← qBi _ _ 2 (by omega)]; exact hcc 2 _ rfl, by rw [← qBi _ _ 3 (by omega)]; exact hcc 3 _ rfl, hd, fun W' hW => ?_, fun W' hW => ?_, hok (by decide)⟩
 ·obtain ⟨D1', d1', D2', d2', hcs', _, hC', _, _⟩ := qDj (hK W' hW)
  simp only [List.cons.injEq, Value.slice.injEq] at hcs'
  rw [hcs'.2.2.1.1]
  exact hC'
 ·obtain ⟨D1', d1', D2', d2', hcs', _, _, _, hC'⟩ := qDj (hK W' hW)
  simp only [List.cons.injEq, Value.slice.injEq] at hcs'
  rw [hcs'.2.2.2.1.1]
  exact hC'
theorem shape_N {W : World} {ok : Nat → Prop} {O n cap : Nat} {out : List S113} (h : Kd.N k113 113 W 0 ok (.slice (some ⟨O, 0, none⟩) n cap) out) (i : Int) (h0 : 0 ≤ i) (h1 : i < n) :
  ∃ D1 d1 D2 d2, W.cell? ⟨O, i.toNat * 3, none⟩ = some (.bool (qAB out i).f0) ∧ W.cell? ⟨O, i.toNat * 3 + 1, none⟩ = some (.slice D1 (qAB out i).f1.length d1) ∧ W.cell? ⟨O, i.toNat * 3 + 2, none⟩ = some (.slice D2 (qAB out i).f2.length d2) ∧ (qAB out i).f1.length ≤ d1 ∧ Kd.F (Kd.int .i64) W (fun k => ok k ∧ k ≠ O) D1 (qAB out i).f1.length (qAB out i).f1 ∧ Kd.F k160 W (fun k => ok k ∧ k ≠ O) D2 (qAB out i).f2.length (qAB out i).f2 ∧ ∀ j, W.frozen? ⟨O, i.toNat * 3 + j, none⟩ = false := by
 obtain ⟨c, hcl, hK, hcc0, hfr⟩ := Kd.N_elem h z113 i h0 h1
 have hcc : ∀ j u, c[j]? = some u → W.cell? ⟨O, i.toNat * 3 + j, none⟩ = some u := hcc0
 obtain ⟨D1, d1, D2, d2, hcs, hd, _, _, _⟩ := qBI (Kd.FK_now hK)
 subst hcs
 refine ⟨D1, d1, D2, d2, hcc 0 _ rfl, hcc 1 _ rfl, hcc 2 _ rfl, hd, fun W' hW => ?_, fun W' hW => ?_, hfr⟩
 ·obtain ⟨D1', d1', D2', d2', hcs', _, hC', _, _⟩ := qBI (hK W' hW)
  simp only [List.cons.injEq, Value.slice.injEq] at hcs'
  rw [hcs'.2.1.1]
  exact hC'
 ·obtain ⟨D1', d1', D2', d2', hcs', _, _, _, hC'⟩ := qBI (hK W' hW)
  simp only [List.cons.injEq, Value.slice.injEq] at hcs'
  rw [hcs'.2.2.1.1]
  exact hC'
theorem FK_shape {W : World} {m : Bool} {v1 v2 : Value} {st : List Int} {tr : List S160} {b1 b3 : Nat} {ok1 ok3 okp : Nat → Prop} (g1 : Kd.N (Kd.int .i64) 3 W b1 ok1 v1 st) (h1 : ∀ q, ok1 q → okp q) (g3 : Kd.N k160 160 W b3 ok3 v2 tr) (h3 : ∀ q, ok3 q → okp q) :
  Kd.FK k113 W okp ⟨m, st, tr⟩ [.bool m, v1, v2] := by
 obtain ⟨A1, c1, rfl⟩ := Kd.N_slice g1
 obtain ⟨A2, c2, rfl⟩ := Kd.N_slice g3
 intro W' hW
 exact k113_mk W' ⟨m, st, tr⟩ (Kd.N_reads' g1).2.1 (Kd.F_mono (Kd.N_F g1) h1 W' hW) (Kd.N_reads' g3).2.1 (Kd.F_mono (Kd.N_F g3) h3 W' hW)
theorem N_lay {W : World} {ok okp : Nat → Prop} {O n cap : Nat} {out : List S113} (h : Kd.N k113 113 W 0 ok (.slice (some ⟨O, 0, none⟩) n cap) out) (i : Int) (h0 : 0 ≤ i) (h1 : i < n) {y0 y1 y2 : Value} (c0 : W.cell? ⟨O, i.toNat * 3, none⟩ = some y0) (c1 : W.cell? ⟨O, i.toNat * 3 + 1, none⟩ = some y1) (c2 : W.cell? ⟨O, i.toNat * 3 + 2, none⟩ = some y2)
  {m : Bool} {v1 v2 : Value} {st : List Int} {tr : List S160} (hM : ∀ b : Bool, Kd.FK k113 W okp ⟨b, st, tr⟩ [.bool b, v1, v2]) (hokp : ∀ k, okp k → ok k ∧ k ≠ O) :
  Kd.N k113 113 ((((W.setCell ⟨O, i.toNat * 3, none⟩ (.bool m)).setCell ⟨O, i.toNat * 3 + 1, none⟩ v1).setCell ⟨O, i.toNat * 3 + 2, none⟩ v2).setCell ⟨O, i.toNat * 3, none⟩ (.bool true)) 0 ok (.slice (some ⟨O, 0, none⟩) n cap) (out.set i.toNat ⟨true, st, tr⟩) := by
 have hc : ∀ (j : Nat) u, [y0, y1, y2][j]? = some u → W.cell? ⟨O, i.toNat * 3 + j, none⟩ = some u := fun j u hj => by
  rcases j with _ | _ | _ | j
  ·injection hj with hj; subst hj; exact c0
  ·injection hj with hj; subst hj; exact c1
  ·injection hj with hj; subst hj; exact c2
  cases hj
 obtain ⟨hN1, hg1⟩ := Kd.N_seg h i h0 h1 (c := [y0, y1, y2]) (seg := [.bool m, v1, v2]) (j := 0) rfl hc (show (3 : Nat) ≤ 3 from Nat.le_refl 3) (hM m) hokp
 have e1 : W.setCells O (i.toNat * 3 + 0) [.bool m, v1, v2] = (((W.setCell ⟨O, i.toNat * 3, none⟩ (.bool m)).setCell ⟨O, i.toNat * 3 + 1, none⟩ v1).setCell ⟨O, i.toNat * 3 + 2, none⟩ v2) := rfl
 change Kd.N k113 113 (W.setCells O (i.toNat * 3 + 0) [.bool m, v1, v2]) _ _ _ _ at hN1
 change W.grownBy (W.setCells O (i.toNat * 3 + 0) [.bool m, v1, v2]) _ at hg1
 rw [e1] at hN1 hg1
 obtain ⟨W1, hW1⟩ : ∃ W1, W1 = (((W.setCell ⟨O, i.toNat * 3, none⟩ (.bool m)).setCell ⟨O, i.toNat * 3 + 1, none⟩ v1).setCell ⟨O, i.toNat * 3 + 2, none⟩ v2) := ⟨_, rfl⟩
 have d0 : W1.cell? ⟨O, i.toNat * 3, none⟩ = some (.bool m) := by
  rw [hW1, World.cell?_setCell_other _ _ _ _ (by simp), World.cell?_setCell_other _ _ _ _ (by simp)]
  exact World.cell?_setCell_same _ _ _ c0
 have d1 : W1.cell? ⟨O, i.toNat * 3 + 1, none⟩ = some v1 := by
  rw [hW1, World.cell?_setCell_other _ _ _ _ (by simp)]
  exact World.cell?_setCell_same _ _ _ ((World.cell?_setCell_other _ _ _ _ (by simp)).trans c1)
 have d2 : W1.cell? ⟨O, i.toNat * 3 + 2, none⟩ = some v2 := by
  rw [hW1]
  exact World.cell?_setCell_same _ _ _ ((World.cell?_setCell_other _ _ _ _ (by simp)).trans ((World.cell?_setCell_other _ _ _ _ (by simp)).trans c2))
 rw [← hW1] at hN1 hg1 ⊢
 have hd : ∀ (j : Nat) u, [.bool m, v1, v2][j]? = some u → W1.cell? ⟨O, i.toNat * 3 + j, none⟩ = some u := fun j u hj => by
  rcases j with _ | _ | _ | j
  ·injection hj with hj; subst hj; exact d0
  ·injection hj with hj; subst hj; exact d1
  ·injection hj with hj; subst hj; exact d2
  cases hj
 obtain ⟨hN2, _⟩ := Kd.N_seg hN1 i h0 h1 (c := [.bool m, v1, v2]) (seg := [.bool true]) (j := 0) rfl hd (show (1 : Nat) ≤ 3 by decide) (okp := okp) (x' := ⟨true, st, tr⟩) (Kd.FK_step (hM true) (fun k hk hlt => hg1.block k hlt (fun e => (hokp k hk).2 (by injection e)))) hokp
 rw [List.set_set] at hN2
 exact hN2
theorem qCP {W w5 : World} {m : Nat} (h : Below (W.drewN m).heap.size (W.drewN m) w5) : Below W.heap.size W w5 := (qAa (Below.refl _ W) m).trans (h.mono (qAa (Below.refl 0 W) m).size)
def qCl : List S113 → List S157 → Int × List S113
 | out, [] => (0, out)
 | out, w :: ws => if (qAB out w.f0).f0 = true then (if ((qAB out w.f0).f1 == w.f1.f1 && qB0 (qAB out w.f0).f2 w.f1.f2) = true then qCl out ws else (22, out)) else qCl (out.set w.f0.toNat ⟨true, w.f1.f1, w.f1.f2⟩) ws
theorem qDd (out : List S113) (w : S157) (ws : List S157) : qCl out (w :: ws) = if (qAB out w.f0).f0 = true then (if ((qAB out w.f0).f1 == w.f1.f1 && qB0 (qAB out w.f0).f2 w.f1.f2) = true then qCl out ws else (22, out)) else qCl (out.set w.f0.toNat ⟨true, w.f1.f1, w.f1.f2⟩) ws := rfl
def qBV (out : List S113) (ws : List S157) : Int × List S113 :=
 if (ws.any fun w => decide ((out.length : Int) ≤ w.f0)) = true then (51, out)
 else if (ws.any fun w => decide (512 < w.f1.f1.length) || decide (32 < w.f1.f2.length)) = true then (3, out)
 else qCl out ws
theorem noteS_far {out : List S113} {ws : List S157} {j : Nat} {x : S157} (hx : ws[j]? = some x) (h : (out.length : Int) ≤ x.f0) : qBV out ws = (51, out) := by
 unfold qBV
 rw [if_pos]
 rw [List.any_eq_true]
 exact ⟨x, List.mem_of_getElem? hx, by simpa using h⟩
theorem noteS_big {out : List S113} {ws : List S157} {j : Nat} {x : S157} (hn : ∀ (j : Nat) x, ws[j]? = some x → x.f0 < (out.length : Int)) (hx : ws[j]? = some x) (h : (decide (512 < x.f1.f1.length) || decide (32 < x.f1.f2.length)) = true) : qBV out ws = (3, out) := by
 unfold qBV
 rw [if_neg, if_pos]
 ·rw [List.any_eq_true]
  exact ⟨x, List.mem_of_getElem? hx, h⟩
 rw [List.any_eq_true]
 rintro ⟨y, hy, hb⟩
 obtain ⟨i, hi⟩ := List.getElem?_of_mem hy
 have := hn i y hi
 simp at hb
 omega
theorem noteS_go {out : List S113} {ws : List S157} (hn : ∀ (j : Nat) x, ws[j]? = some x → x.f0 < (out.length : Int)) (hb : ∀ (j : Nat) x, ws[j]? = some x → (decide (512 < x.f1.f1.length) || decide (32 < x.f1.f2.length)) = false) : qBV out ws = qCl out ws := by
 unfold qBV
 rw [if_neg, if_neg]
 ·rw [List.any_eq_true]
  rintro ⟨y, hy, h⟩
  obtain ⟨i, hi⟩ := List.getElem?_of_mem hy
  rw [hb i y hi] at h
  cases h
 rw [List.any_eq_true]
 rintro ⟨y, hy, h⟩
 obtain ⟨i, hi⟩ := List.getElem?_of_mem hy
 have := hn i y hi
 simp at h
 omega
theorem note_any {W : World} (O N cap : Nat) (out : List S113) {okO okW : Nat → Prop} (HN : Kd.N k113 113 W 0 okO (.slice (some ⟨O, 0, none⟩) N cap) out) (A : Option Addr) (n c : Nat) (ws : List S157) (HF : Kd.F k157 W okW A n ws) (hoff : ¬ okW O) (hto : ∀ w ∈ ws, 0 ≤ w.f0) (hn : n ≤ 2000000) (hN : N ≤ 2000000)
  (hsz : ∀ x ∈ out, x.f1.length ≤ 2000000 ∧ x.f2.length ≤ 2000000 ∧ ∀ y ∈ x.f2, y.f1.length ≤ 2000000) (hws : ∀ w ∈ ws, ∀ y ∈ w.f1.f2, y.f1.length ≤ 2000000) :
  Calls Tryz.prog 65 #[.slice (some ⟨O, 0, none⟩) N cap, .slice A n c] W fun e w' => e = .returned (.int .i64 (qBV out ws).1) ∧ Kd.N k113 113 w' 0 (fun q => (okO q ∨ okW q) ∨ W.heap.size ≤ q) (.slice (some ⟨O, 0, none⟩) N cap) (qBV out ws).2 ∧ Fr W w' (fun q => q = O) := by
 have hNl : N = out.length := (Kd.N_reads' HN).1
 have hnl : ws.length = n := Kd.F_len HF
 have HH := am HN
 have HW := am HF
 have HNl := am hNl
 have Hnl := am hnl
 have HTO := am hto
 have HSZ := am hsz
 have HWS := am hws
 have HOFF := am hoff
 clear HN HF hNl hnl hto hsz hws hoff
 go_enter Tryz.func65, Tryz.ntmps65
 go_wp2
 go_loopg [6, 13] n (fun gg _ s13 wr => ∃ kk : Nat, kk ≤ n ∧ n - kk ≤ gg ∧ s13 = .int .i64 kk ∧ qAi (∀ (j : Nat) x, j < kk → ws[j]? = some x → x.f0 < (N : Int)) ∧ qAi (Below W.heap.size W wr))
 case atStart => exact ⟨0, Nat.zero_le _, by omega, rfl, ⟨fun j x hj => absurd hj (Nat.not_lt_zero _)⟩, ⟨Below.refl _ _⟩⟩
 case round =>
  obtain ⟨kk, hkk, hg, rfl, HA, HB⟩ := hrel
  by_cases hlt : kk < n
  ·have hltz : (kk : Int) < (n : Int) := by omega
   have h0 : (0 : Int) ≤ (kk : Int) := by omega
   obtain ⟨ad, D1, d1, D2, d2, ea, k0, k1, k2, k3, _, _, _, _⟩ := way_F HW.out (kk : Int) h0 hltz
   subst ea
   rw [Int.toNat_natCast] at k0 k1 k2 k3
   have hx : ws[kk]? = some (qBr ws (kk : Int)) := qBW ws z157 kk (by have := Hnl.out; omega)
   obtain ⟨x, hxe⟩ : ∃ x, x = qBr ws (kk : Int) := ⟨_, rfl⟩
   rw [← hxe] at k0 k1 k2 k3 hx
   obtain ⟨tt, hto⟩ : ∃ q, q = x.f0 := ⟨_, rfl⟩
   obtain ⟨mm, hmm⟩ : ∃ q, q = x.f1.f0 := ⟨_, rfl⟩
   obtain ⟨l1, hl1⟩ : ∃ q, q = x.f1.f1.length := ⟨_, rfl⟩
   obtain ⟨l2, hl2⟩ : ∃ q, q = x.f1.f2.length := ⟨_, rfl⟩
   rw [← hto] at k0
   rw [← hmm] at k1
   rw [← hl1] at k2
   rw [← hl2] at k3
   replace k0 := (HB.out.cell (World.block_lt_of_cell? W _ k0)).trans k0
   replace k1 := (HB.out.cell (World.block_lt_of_cell? W _ k1)).trans k1
   replace k2 := (HB.out.cell (World.block_lt_of_cell? W _ k2)).trans k2
   replace k3 := (HB.out.cell (World.block_lt_of_cell? W _ k3)).trans k3
   have HX := am hx
   have HT := am hto
   clear hx hxe hto hmm hl1 hl2
   by_cases hb : (N : Int) ≤ tt
   ·go_wp2
    go_ret
    rw [noteS_far HX.out (by rw [← HNl.out, ← HT.out]; exact hb)]
    refine ⟨rfl, Kd.N_mono (Kd.N_below HH.out (HB.out.alloc HB.out.size _)) (fun q hq => .inl (.inl hq)), Fr.of_below (HB.out.alloc HB.out.size _)⟩
   go_wp2
   go_roundg (n - (kk + 1))
   case measure => omega
   case rel =>
    refine ⟨kk + 1, by omega, by omega, by go_num, ⟨fun j u hj hu => ?_⟩, ⟨HB.out.alloc HB.out.size _⟩⟩
    by_cases e : j = kk
    rotate_left
    ·exact HA.out j u (by omega) hu
    subst e
    rw [HX.out] at hu
    injection hu with hu; subst hu
    rw [← HT.out]; omega
  have e0 : n = kk := by omega
  subst e0
  have HA1 : qAi (∀ (j : Nat) x, ws[j]? = some x → x.f0 < (N : Int)) := ⟨fun j x hx => HA.out j x (by have := (List.getElem?_eq_some_iff.1 hx).1; have := Hnl.out; omega) hx⟩
  have hnot : ¬ (n : Int) < (n : Int) := by omega
  obtain ⟨wA, hwA⟩ : ∃ wA, wA = wr := ⟨_, rfl⟩
  rw [← hwA]
  rw [← hwA] at HB
  have HBA := HB
  clear hwA HA HB hg hlt hkk
  go_wp2
  clear hnot
  go_loopg [8, 25] n (fun gg _ s25 wr => ∃ kk : Nat, kk ≤ n ∧ n - kk ≤ gg ∧ s25 = .int .i64 kk ∧ qAi (∀ (j : Nat) x, j < kk → ws[j]? = some x → (decide (512 < x.f1.f1.length) || decide (32 < x.f1.f2.length)) = false) ∧ qAi (Below W.heap.size W wr))
  case atStart => exact ⟨0, Nat.zero_le _, by omega, rfl, ⟨fun j x hj => absurd hj (Nat.not_lt_zero _)⟩, HBA⟩
  case round =>
   obtain ⟨kk, hkk, hg, rfl, HA, HB⟩ := hrel
   by_cases hlt : kk < n
   ·have hltz : (kk : Int) < (n : Int) := by omega
    have h0 : (0 : Int) ≤ (kk : Int) := by omega
    obtain ⟨ad, D1, d1, D2, d2, ea, k0, k1, k2, k3, _, _, _, _⟩ := way_F HW.out (kk : Int) h0 hltz
    subst ea
    rw [Int.toNat_natCast] at k0 k1 k2 k3
    have hx : ws[kk]? = some (qBr ws (kk : Int)) := qBW ws z157 kk (by have := Hnl.out; omega)
    obtain ⟨x, hxe⟩ : ∃ x, x = qBr ws (kk : Int) := ⟨_, rfl⟩
    rw [← hxe] at k0 k1 k2 k3 hx
    obtain ⟨tt, hto⟩ : ∃ q, q = x.f0 := ⟨_, rfl⟩
    obtain ⟨mm, hmm⟩ : ∃ q, q = x.f1.f0 := ⟨_, rfl⟩
    obtain ⟨l1, hl1⟩ : ∃ q, q = x.f1.f1.length := ⟨_, rfl⟩
    obtain ⟨l2, hl2⟩ : ∃ q, q = x.f1.f2.length := ⟨_, rfl⟩
    rw [← hto] at k0
    rw [← hmm] at k1
    rw [← hl1] at k2
    rw [← hl2] at k3
    replace k0 := (HB.out.cell (World.block_lt_of_cell? W _ k0)).trans k0
    replace k1 := (HB.out.cell (World.block_lt_of_cell? W _ k1)).trans k1
    replace k2 := (HB.out.cell (World.block_lt_of_cell? W _ k2)).trans k2
    replace k3 := (HB.out.cell (World.block_lt_of_cell? W _ k3)).trans k3
    have HX := am hx
    have HT1 := am hl1
    have HT2 := am hl2
    clear hx hxe hto hmm hl1 hl2
    by_cases hb1 : 512 < l1
    ·have hz1 : (512 : Int) < (l1 : Int) := by omega
     go_wp2
     go_ret
     rw [noteS_big (by rw [← HNl.out]; exact HA1.out) HX.out (by rw [← HT1.out, ← HT2.out]; simp [hb1])]
     refine ⟨rfl, Kd.N_mono (Kd.N_below HH.out (HB.out.alloc HB.out.size _)) (fun q hq => .inl (.inl hq)), Fr.of_below (HB.out.alloc HB.out.size _)⟩
    have hz1 : ¬ (512 : Int) < (l1 : Int) := by omega
    by_cases hb2 : 32 < l2
    ·have hz2 : (32 : Int) < (l2 : Int) := by omega
     go_wp2
     go_ret
     rw [noteS_big (by rw [← HNl.out]; exact HA1.out) HX.out (by rw [← HT1.out, ← HT2.out]; simp [hb2])]
     refine ⟨rfl, Kd.N_mono (Kd.N_below HH.out (HB.out.alloc HB.out.size _)) (fun q hq => .inl (.inl hq)), Fr.of_below (HB.out.alloc HB.out.size _)⟩
    have hz2 : ¬ (32 : Int) < (l2 : Int) := by omega
    go_wp2
    go_roundg (n - (kk + 1))
    case measure => omega
    case rel =>
     refine ⟨kk + 1, by omega, by omega, by go_num, ⟨fun j u hj hu => ?_⟩, ⟨HB.out.alloc HB.out.size _⟩⟩
     by_cases e : j = kk
     rotate_left
     ·exact HA.out j u (by omega) hu
     subst e
     rw [HX.out] at hu
     injection hu with hu; subst hu
     rw [← HT1.out, ← HT2.out]; simp [hb1, hb2]
   have e0 : n = kk := by omega
   subst e0
   have HA2 : qAi (∀ (j : Nat) x, ws[j]? = some x → (decide (512 < x.f1.f1.length) || decide (32 < x.f1.f2.length)) = false) := ⟨fun j x hx => HA.out j x (by have := (List.getElem?_eq_some_iff.1 hx).1; have := Hnl.out; omega) hx⟩
   have hnot : ¬ (n : Int) < (n : Int) := by omega
   obtain ⟨wB, hwB⟩ : ∃ wB, wB = wr := ⟨_, rfl⟩
   rw [← hwB]
   rw [← hwB] at HB
   have HBB := HB
   clear hwB HA HB hg hlt hkk
   go_wp2
   clear hnot
   have hba : qAi (∀ (a : Addr) (i : Nat), (a.add i).block = a.block) := ⟨fun a i => by unfold Addr.add; split <;> rfl⟩
   go_loopg [10, 44] n (fun gg _ s44 wr => ∃ (kk : Nat) (okk : List S113), kk ≤ n ∧ n - kk ≤ gg ∧ s44 = .int .i64 kk ∧ qAi (qCl okk (ws.drop kk) = qCl out ws) ∧ qAi (∀ x ∈ okk, x.f1.length ≤ 2000000 ∧ x.f2.length ≤ 2000000 ∧ ∀ y ∈ x.f2, y.f1.length ≤ 2000000) ∧ qAi (Kd.N k113 113 wr 0 (fun q => (okO q ∨ okW q) ∨ W.heap.size ≤ q) (.slice (some ⟨O, 0, none⟩) N cap) okk) ∧ qAi (Fr W wr (fun q => q = O)))
   case atStart => exact ⟨0, out, Nat.zero_le _, by omega, rfl, ⟨rfl⟩, HSZ, ⟨Kd.N_mono (Kd.N_below HH.out HBB.out) (fun q hq => .inl (.inl hq))⟩, ⟨Fr.of_below HBB.out⟩⟩
   case round =>
    obtain ⟨kk, okk, hkk, hg, rfl, HG, HSK, HNK, HFR⟩ := hrel
    by_cases hlt : kk < n
    rotate_left
    ·have e0 : n = kk := by omega
     subst e0
     have hnot : ¬ (n : Int) < (n : Int) := by omega
     go_wp2
     go_ret
     have hg0 := HG.out
     rw [List.drop_of_length_le (by have := Hnl.out; omega)] at hg0
     rw [noteS_go (by rw [← HNl.out]; exact HA1.out) HA2.out, ← hg0]
     exact ⟨rfl, HNK.out, HFR.out⟩
    have hltz : (kk : Int) < (n : Int) := by omega
    have h0 : (0 : Int) ≤ (kk : Int) := by omega
    obtain ⟨ad, D1, d1, D2, d2, ea, k0, k1, k2, k3, cl, F1, F2, okad⟩ := way_F HW.out (kk : Int) h0 hltz
    subst ea
    rw [Int.toNat_natCast] at k0 k1 k2 k3
    have hx : ws[kk]? = some (qBr ws (kk : Int)) := qBW ws z157 kk (by have := Hnl.out; omega)
    obtain ⟨x, hxe⟩ : ∃ x, x = qBr ws (kk : Int) := ⟨_, rfl⟩
    rw [← hxe] at k0 k1 k2 k3 hx cl F1 F2
    have hnO : ∀ i, (ad.add i).block ≠ O := fun i e => HOFF.out (by rw [hba.out] at e; exact e ▸ okad)
    replace k0 := HFR.out.cell k0 (hnO _)
    replace k1 := HFR.out.cell k1 (hnO _)
    replace k2 := HFR.out.cell k2 (hnO _)
    replace k3 := HFR.out.cell k3 (hnO _)
    replace F1 := Kd.F_bound (Kd.F_kept F1 HFR.out.2 (fun q hq e => HOFF.out (e ▸ hq)))
    replace F2 := Kd.F_bound (Kd.F_kept F2 HFR.out.2 (fun q hq e => HOFF.out (e ▸ hq)))
    have hto0 := HTO.out x (List.mem_of_getElem? hx)
    have hto1 := HA1.out kk x hx
    have hdr : ws.drop kk = x :: ws.drop (kk + 1) := by
     rw [List.drop_eq_getElem_cons (by have := Hnl.out; omega)]
     rw [List.getElem?_eq_getElem (by have := Hnl.out; omega)] at hx
     injection hx with hx
     rw [hx]
    have hgo := HG.out
    rw [hdr, qDd] at hgo
    obtain ⟨E1, e1, E2, e2, y0, y1, y2, ycl, Y1, Y2, yfr⟩ := shape_N HNK.out x.f0 hto0 hto1
    have hml : okk.length = N := (Kd.N_reads' HNK.out).1.symm
    have hym : qAB okk x.f0 ∈ okk := by
     unfold qAB
     rw [List.getD_eq_getElem?_getD, List.getElem?_eq_getElem (by omega)]
     exact List.getElem_mem _
    have hysz := HSK.out _ hym
    obtain ⟨y, hye⟩ : ∃ y, y = qAB okk x.f0 := ⟨_, rfl⟩
    rw [← hye] at y0 y1 y2 ycl Y1 Y2 hysz hgo
    have hxb := HA2.out kk x hx
    have hxw := HWS.out x (List.mem_of_getElem? hx)
    have hc2 : qAi (∀ W', Below wr.heap.size wr W' → Calls Tryz.prog 91 #[.agg #[.bool y.f0, .slice E1 y.f1.length e1, .slice E2 y.f2.length e2], .agg #[.bool x.f1.f0, .slice D1 x.f1.f1.length d1, .slice D2 x.f1.f2.length d2]] W' fun e w' => e = .returned (.bool (y.f1 == x.f1.f1 && qB0 y.f2 x.f1.f2)) ∧ Below W'.heap.size W' w') :=
     ⟨fun W' hW => same_any _ _ E1 D1 E2 D2 e1 d1 e2 d2 _ _ _ _ W' (Kd.F_now (Kd.F_below Y1 hW)) (Kd.F_now (Kd.F_below F1 hW)) (Kd.F_now (Kd.F_below Y2 hW)) (Kd.F_now (Kd.F_below F2 hW)) ycl cl (by omega) (by omega) (fun z hz => by have := hysz.2.2 z hz; omega)⟩
    simp only [Bool.or_eq_false_iff, decide_eq_false_iff_not] at hxb
    have hc3 : qAi (∀ W', Below wr.heap.size wr W' → Calls Tryz.prog 64 #[.agg #[.bool x.f1.f0, .slice D1 x.f1.f1.length d1, .slice D2 x.f1.f2.length d2]] W' (qCV x.f1.f0 x.f1.f1 x.f1.f2 (fun q => okW q ∧ q < wr.heap.size) W')) :=
     ⟨fun W' hW => qC8 _ D1 d1 _ D2 _ d2 _ _ _ W' (Kd.F_below F1 hW) (Kd.F_below F2 hW) (by omega) (by omega) cl⟩
    have HXB := am hxb
    have HXW := am hxw
    have HGO := am hgo
    clear hnO hx hdr F1 F2 Y1 Y2 cl ycl hym hysz hxb hxw hgo hml hye hxe
    obtain ⟨bq, hbq⟩ : ∃ q, q = (y.f1 == x.f1.f1 && qB0 y.f2 x.f1.f2) := ⟨_, rfl⟩
    rw [← hbq] at HGO hc2
    obtain ⟨tt, htt⟩ : ∃ q, q = x.f0 := ⟨_, rfl⟩
    obtain ⟨mm, hmm⟩ : ∃ q, q = x.f1.f0 := ⟨_, rfl⟩
    obtain ⟨l1, hl1⟩ : ∃ q, q = x.f1.f1.length := ⟨_, rfl⟩
    obtain ⟨l2, hl2⟩ : ∃ q, q = x.f1.f2.length := ⟨_, rfl⟩
    obtain ⟨ym, hym⟩ : ∃ q, q = y.f0 := ⟨_, rfl⟩
    obtain ⟨m1, hm1⟩ : ∃ q, q = y.f1.length := ⟨_, rfl⟩
    obtain ⟨m2, hm2⟩ : ∃ q, q = y.f2.length := ⟨_, rfl⟩
    rw [← htt] at k0 y0 y1 y2 yfr hto0 hto1 HGO
    rw [← hmm] at k1 hc2 hc3
    rw [← hl1] at k2 hc2 hc3
    rw [← hl2] at k3 hc2 hc3
    rw [← hym] at y0 hc2 HGO
    rw [← hm1] at y1 hc2
    rw [← hm2] at y2 hc2
    clear hbq htt hmm hl1 hl2 hym hm1 hm2
    have o0 := qAz (.cells #[.int .i64 tt, .bool mm, .slice D1 l1 d1, .slice D2 l2 d2] 157) y0
    have o1 := qAz (.cells #[.int .i64 tt, .bool mm, .slice D1 l1 d1, .slice D2 l2 d2] 157) y1
    have o2 := qAz (.cells #[.int .i64 tt, .bool mm, .slice D1 l1 d1, .slice D2 l2 d2] 157) y2
    have w0 := (qAc (qAF wr (.cells #[.int .i64 tt, .bool mm, .slice D1 l1 d1, .slice D2 l2 d2] 157)) 0).trans rfl
    have w1 := (qAc (qAF wr (.cells #[.int .i64 tt, .bool mm, .slice D1 l1 d1, .slice D2 l2 d2] 157)) 1).trans rfl
    have w2 := (qAc (qAF wr (.cells #[.int .i64 tt, .bool mm, .slice D1 l1 d1, .slice D2 l2 d2] 157)) 2).trans rfl
    have w3 := (qAc (qAF wr (.cells #[.int .i64 tt, .bool mm, .slice D1 l1 d1, .slice D2 l2 d2] 157)) 3).trans rfl
    have HDN : qAi (∀ m, wr.heap.size + 1 ≤ ((wr.alloc (.cells #[.int .i64 tt, .bool mm, .slice D1 l1 d1, .slice D2 l2 d2] 157)).drewN m).heap.size) := ⟨fun m => Nat.le_trans (by simp) (qAa (Below.refl 0 (wr.alloc (.cells #[.int .i64 tt, .bool mm, .slice D1 l1 d1, .slice D2 l2 d2] 157))) m).size⟩
    have hOr : O < wr.heap.size := World.block_lt_of_cell? wr _ y0
    have hnOr : wr.heap.size ≠ O := Nat.ne_of_gt hOr
    cases ym with
    | true =>
     go_wp2_with fail
     go_region_held3 (fun W' => W'.cell? ⟨O, tt.toNat * 3, none⟩ = some (.bool true) ∧ W'.cell? ⟨O, tt.toNat * 3 + 1, none⟩ = some (.slice E1 m1 e1) ∧ W'.cell? ⟨O, tt.toNat * 3 + 2, none⟩ = some (.slice E2 m2 e2) ∧ W'.cell? ⟨wr.heap.size, 0, none⟩ = some (.int .i64 tt) ∧ W'.cell? ⟨wr.heap.size, 1, none⟩ = some (.bool mm) ∧ W'.cell? ⟨wr.heap.size, 2, none⟩ = some (.slice D1 l1 d1) ∧ W'.cell? ⟨wr.heap.size, 3, none⟩ = some (.slice D2 l2 d2))
      (first | exact ⟨o0, o1, o2, w0, w1, w2, w3⟩ | exact ⟨x0, x1, x2, x3, x4, x5, x6⟩)
      (first
        | (go_at_call 91;
           refine (hc2.out _ (qAr (qAb (Below.refl _ _) (.cells #[.int .i64 tt, .bool mm, .slice D1 l1 d1, .slice D2 l2 d2] 157)))).mono ?_;
           rintro e w5 ⟨rfl, hb5⟩;
           have x0 := (hb5.cell (World.block_lt_of_cell? _ _ o0)).trans o0;
           have x1 := (hb5.cell (World.block_lt_of_cell? _ _ o1)).trans o1;
           have x2 := (hb5.cell (World.block_lt_of_cell? _ _ o2)).trans o2;
           have x3 := (hb5.cell (World.block_lt_of_cell? _ _ w0)).trans w0;
           have x4 := (hb5.cell (World.block_lt_of_cell? _ _ w1)).trans w1;
           have x5 := (hb5.cell (World.block_lt_of_cell? _ _ w2)).trans w2;
           have x6 := (hb5.cell (World.block_lt_of_cell? _ _ w3)).trans w3;
           have HB5 : qAi (Below wr.heap.size wr w5) := ⟨(qAr (qAb (Below.refl _ _) (.cells #[.int .i64 tt, .bool mm, .slice D1 l1 d1, .slice D2 l2 d2] 157))).trans (hb5.mono (Nat.le_of_lt (by { show wr.heap.size < (wr.alloc (.cells #[.int .i64 tt, .bool mm, .slice D1 l1 d1, .slice D2 l2 d2] 157)).heap.size; simp })))⟩;
           clear hb5))
     cases bq with
     | true =>
      go_wp2_with fail
      go_roundg (n - (kk + 1))
      case measure => omega
      case rel =>
       exact ⟨kk + 1, okk, by omega, by omega, by go_num, ⟨by have h := HGO.out; simpa using h⟩, HSK, ⟨Kd.N_below HNK.out HB5.out⟩, ⟨HFR.out.then_ (S1 := fun _ => False) (Fr.of_below HB5.out) (fun q hq => hq.elim)⟩⟩
     | false =>
      go_wp2_with fail
      go_ret
      have hg0 := HGO.out
      simp only [if_true, Bool.false_eq_true, if_false] at hg0
      rw [noteS_go (by rw [← HNl.out]; exact HA1.out) HA2.out, ← hg0]
      exact ⟨rfl, Kd.N_below HNK.out HB5.out, HFR.out.then_ (S1 := fun _ => False) (Fr.of_below HB5.out) (fun q hq => hq.elim)⟩
    | false =>
     go_wp2_with fail
     go_quiet (fail)
     go_wp2_with fail
     go_region_held3 (fun W' => W'.cell? ⟨wr.heap.size, 0, none⟩ = some (.int .i64 tt) ∧ W'.cell? ⟨wr.heap.size, 1, none⟩ = some (.bool mm) ∧ W'.cell? ⟨wr.heap.size, 2, none⟩ = some (.slice D1 l1 d1) ∧ W'.cell? ⟨wr.heap.size, 3, none⟩ = some (.slice D2 l2 d2))
      (first | exact ⟨w0, w1, w2, w3⟩ | exact ⟨x3, x4, x5, x6⟩ | exact ⟨qA4 (qA4 (qA4 x3 _ _ hnOr) _ _ hnOr) _ _ hnOr, qA4 (qA4 (qA4 x4 _ _ hnOr) _ _ hnOr) _ _ hnOr, qA4 (qA4 (qA4 x5 _ _ hnOr) _ _ hnOr) _ _ hnOr, qA4 (qA4 (qA4 x6 _ _ hnOr) _ _ hnOr) _ _ hnOr⟩)
      (first
        | (go_at_call 64;
           refine (hc3.out _ (qAa (qAb (Below.refl _ _) (.cells #[.int .i64 tt, .bool mm, .slice D1 l1 d1, .slice D2 l2 d2] 157)) _)).mono ?_;
           rintro e w5 ⟨v1, v2, rfl, hR5, hN5, hb50⟩;
           have hb5 : Below (wr.alloc (.cells #[.int .i64 tt, .bool mm, .slice D1 l1 d1, .slice D2 l2 d2] 157)).heap.size (wr.alloc (.cells #[.int .i64 tt, .bool mm, .slice D1 l1 d1, .slice D2 l2 d2] 157)) w5 := qCP hb50;
           have x0 := (hb5.cell (World.block_lt_of_cell? _ _ o0)).trans o0;
           have x1 := (hb5.cell (World.block_lt_of_cell? _ _ o1)).trans o1;
           have x2 := (hb5.cell (World.block_lt_of_cell? _ _ o2)).trans o2;
           have x3 := (hb5.cell (World.block_lt_of_cell? _ _ w0)).trans w0;
           have x4 := (hb5.cell (World.block_lt_of_cell? _ _ w1)).trans w1;
           have x5 := (hb5.cell (World.block_lt_of_cell? _ _ w2)).trans w2;
           have x6 := (hb5.cell (World.block_lt_of_cell? _ _ w3)).trans w3;
           have HB5 : qAi (Below wr.heap.size wr w5) := ⟨(qAb (Below.refl _ _) (.cells #[.int .i64 tt, .bool mm, .slice D1 l1 d1, .slice D2 l2 d2] 157)).trans (hb5.mono (Nat.le_of_lt (by { show wr.heap.size < (wr.alloc (.cells #[.int .i64 tt, .bool mm, .slice D1 l1 d1, .slice D2 l2 d2] 157)).heap.size; simp })))⟩;
           have z0 : w5.frozen? ⟨O, tt.toNat * 3, none⟩ = false := (HB5.out.frozen (p := ⟨O, tt.toNat * 3, none⟩) hOr).trans (yfr 0);
           have z1 : w5.frozen? ⟨O, tt.toNat * 3 + 1, none⟩ = false := (HB5.out.frozen (p := ⟨O, tt.toNat * 3 + 1, none⟩) hOr).trans (yfr 1);
           have z2 : w5.frozen? ⟨O, tt.toNat * 3 + 2, none⟩ = false := (HB5.out.frozen (p := ⟨O, tt.toNat * 3 + 2, none⟩) hOr).trans (yfr 2);
           have HR5 := am hR5;
           have HN5 := am hN5;
           obtain ⟨V1, q1, rfl⟩ := Kd.R_slice hR5;
           obtain ⟨V2, q2, rfl⟩ := Kd.N_slice hN5;
           clear hb5 hb50 hR5 hN5))
     have hsz5 : W.heap.size ≤ wr.heap.size := HFR.out.size
     have hokp : ∀ q, (((okO q ∨ okW q) ∨ W.heap.size ≤ q) ∧ q ≠ O) → ((okO q ∨ okW q) ∨ W.heap.size ≤ q) ∧ q ≠ O := fun q hq => hq
     have hFKS : ∀ b : Bool, Kd.FK k113 w5 (fun q => ((okO q ∨ okW q) ∨ W.heap.size ≤ q) ∧ q ≠ O) ⟨b, x.f1.f1, x.f1.f2⟩ [.bool b, .slice V1 x.f1.f1.length q1, .slice V2 x.f1.f2.length q2] := fun b =>
      FK_shape (Kd.R_N (Kd.R_bound HR5.out)) (fun q hq => by have h2 := HDN.out (nq + 1); exact ⟨.inr (by omega), by omega⟩) HN5.out (fun q hq => by
        rcases hq.1 with h | h
        · exact ⟨.inl (.inr h.1), fun e => HOFF.out (e ▸ h.1)⟩
        · have h2 := HDN.out (nq + 1); exact ⟨.inr (by omega), by omega⟩)
     have HLAY := am (N_lay (m := mm) (Kd.N_below HNK.out HB5.out) tt hto0 hto1 x0 x1 x2 hFKS hokp)
     have HFS := am (Fr.set (Fr.set (Fr.set (Fr.set (HFR.out.then_ (S1 := fun _ => False) (Fr.of_below HB5.out) (fun q hq => hq.elim)) (p := ⟨O, tt.toNat * 3, none⟩) (.inl rfl) (.bool mm)) (p := ⟨O, tt.toNat * 3 + 1, none⟩) (.inl rfl) (.slice V1 x.f1.f1.length q1)) (p := ⟨O, tt.toNat * 3 + 2, none⟩) (.inl rfl) (.slice V2 x.f1.f2.length q2)) (p := ⟨O, tt.toNat * 3, none⟩) (.inl rfl) (.bool true))
     have s0 : (((w5.setCell ⟨O, tt.toNat * 3, none⟩ (.bool mm)).setCell ⟨O, tt.toNat * 3 + 1, none⟩ (.slice V1 x.f1.f1.length q1)).setCell ⟨O, tt.toNat * 3 + 2, none⟩ (.slice V2 x.f1.f2.length q2)).cell? ⟨O, tt.toNat * 3, none⟩ = some (.bool mm) := by
      rw [World.cell?_setCell_other _ _ _ _ (by simp), World.cell?_setCell_other _ _ _ _ (by simp)]
      exact World.cell?_setCell_same _ _ _ x0
     have s3 : (((w5.setCell ⟨O, tt.toNat * 3, none⟩ (.bool mm)).setCell ⟨O, tt.toNat * 3 + 1, none⟩ (.slice V1 x.f1.f1.length q1)).setCell ⟨O, tt.toNat * 3 + 2, none⟩ (.slice V2 x.f1.f2.length q2)).cell? ⟨wr.heap.size, 0, none⟩ = some (.int .i64 tt) := qA4 (qA4 (qA4 x3 _ _ hnOr) _ _ hnOr) _ _ hnOr
     have sf : (((w5.setCell ⟨O, tt.toNat * 3, none⟩ (.bool mm)).setCell ⟨O, tt.toNat * 3 + 1, none⟩ (.slice V1 x.f1.f1.length q1)).setCell ⟨O, tt.toNat * 3 + 2, none⟩ (.slice V2 x.f1.f2.length q2)).frozen? ⟨O, tt.toNat * 3, none⟩ = false := by
      rw [World.frozen?_setCell, World.frozen?_setCell, World.frozen?_setCell]
      exact z0
     obtain ⟨wS, hwS⟩ : ∃ wS, wS = ((w5.setCell ⟨O, tt.toNat * 3, none⟩ (.bool mm)).setCell ⟨O, tt.toNat * 3 + 1, none⟩ (.slice V1 x.f1.f1.length q1)).setCell ⟨O, tt.toNat * 3 + 2, none⟩ (.slice V2 x.f1.f2.length q2) := ⟨_, rfl⟩
     rw [← hwS] at s0 s3 sf HLAY HFS ⊢
     clear hwS hFKS hokp x0 x1 x2 x3 x4 x5 x6 z0 z1 z2 o0 o1 o2 w0 w1 w2 w3 hsz5
     go_wp2_with fail
     go_roundg (n - (kk + 1))
     case measure => omega
     case rel =>
      refine ⟨kk + 1, okk.set tt.toNat ⟨true, x.f1.f1, x.f1.f2⟩, by omega, by omega, by go_num, ⟨by have h := HGO.out; simpa using h⟩, ⟨fun z hz => ?_⟩, HLAY, HFS⟩
      rcases List.mem_or_eq_of_mem_set hz with h | h
      ·exact HSK.out z h
      subst h
      have h1 := HXB.out
      exact ⟨by show x.f1.f1.length ≤ 2000000; omega, by show x.f1.f2.length ≤ 2000000; omega, HXW.out⟩
theorem qDa (t : Int) (w : World) : Calls Tryz.prog 86 #[.int .i64 t] w fun e w' => e = .returned (.bool (okT t)) ∧ w' = w := by
 by_cases h1 : 1 ≤ t
 rotate_left
 ·rw [okT_false (by omega)]
  go_enter Tryz.func86, Tryz.ntmps86
  go_wp2
  go_ret
  exact ⟨rfl, rfl⟩
 by_cases h2 : t ≤ 3
 ·rw [okT_true h1 h2]
  go_enter Tryz.func86, Tryz.ntmps86
  go_wp2
  go_ret
  exact ⟨rfl, rfl⟩
 rw [okT_false (by omega)]
 go_enter Tryz.func86, Tryz.ntmps86
 go_wp2
 go_ret
 exact ⟨rfl, rfl⟩
def resT (t : Int) : Bool := t == 0 || okT t
theorem qCZ (t : Int) (w : World) : Calls Tryz.prog 83 #[.int .i64 t] w fun e w' => e = .returned (.bool (resT t)) ∧ w' = w := by
 cases h : (t == 0)
 ·rw [show resT t = okT t by simp [resT, h]]
  go_enter Tryz.func83, Tryz.ntmps83
  go_wp2_with (go_at_call 86; refine (qDa t _).mono ?_; rintro e w1 ⟨rfl, rfl⟩)
  go_ret
  exact ⟨rfl, rfl⟩
 rw [show resT t = true by simp [resT, h]]
 go_enter Tryz.func83, Tryz.ntmps83
 go_wp2
 go_ret
 exact ⟨rfl, rfl⟩
theorem unvaluedS_any (t : Int) (w : World) : Calls Tryz.prog 85 #[.int .i64 t] w fun e w' => e = .returned (.bool (!okT t)) ∧ w' = w := by
 go_enter Tryz.func85, Tryz.ntmps85
 go_wp2_with (go_at_call 86; refine (qDa t _).mono ?_; rintro e w1 ⟨rfl, rfl⟩)
 go_ret
 exact ⟨rfl, rfl⟩
theorem idx_intsS (A : Option Addr) (c : Nat) (l : List Int) (w : World) (hr : Kd.C (Kd.int .i64) w A l.length l) (hl : l.length ≤ 4611686018427387904) :
  Calls Tryz.prog 113 #[.slice A l.length c, .func (.func 85) #[] #[]] w (IdxPost (l.any fun t => !okT t) w) := by
 obtain ⟨n, hn⟩ : ∃ n, n = l.length := ⟨_, rfl⟩
 rw [← hn]
 have HR := am hr
 have HN := am hn
 rw [← hn] at hl
 clear hr hn
 go_enter Tryz.func113, Tryz.ntmps113
 go_wp2
 go_loopg [5, 8] n (fun gg _ s8 wr => ∃ kk : Nat, kk ≤ n ∧ n - kk ≤ gg ∧ s8 = .int .i64 kk ∧ qAi (∀ j x, j < kk → l[j]? = some x → (!okT x) = false) ∧ wr = w)
 case atStart => exact ⟨0, Nat.zero_le _, by omega, rfl, ⟨fun j x hj => absurd hj (Nat.not_lt_zero _)⟩, rfl⟩
 case round =>
  obtain ⟨kk, hkk, hg, rfl, HA, rfl⟩ := hrel
  by_cases hlt : kk < n
  rotate_left
  ·have hltz : ¬ (kk : Int) < (n : Int) := by omega
   have : kk = n := by omega
   subst this
   go_wp2
   go_ret
   refine ⟨-1, rfl, ?_, Below.refl _ _⟩
   rw [any_miss _ l fun j x hj => HA.out j x (by rw [HN.out]; exact (List.getElem?_eq_some_iff.1 hj).1) hj]
   simp
  have hltz : (kk : Int) < (n : Int) := by omega
  have h0 : (0 : Int) ≤ (kk : Int) := by omega
  obtain ⟨ad, ea, hx⟩ := Kd.at_int HR.out (kk : Int) h0 (by have := HN.out; omega)
  subst ea
  rw [Int.toNat_natCast] at hx
  have hc := unvaluedS_any (rd l (kk : Int))
  obtain ⟨x, hx0⟩ : ∃ x, x = rd l (kk : Int) := ⟨_, rfl⟩
  rw [← hx0] at hx hc
  have HX : qAi (l[kk]? = some x) := ⟨by rw [hx0]; exact qBW l 0 kk (by have := HN.out; omega)⟩
  have HC := am hc
  clear hx0 hc
  cases hq : okT x with
  | false =>
   have HQ := am hq
   clear hq
   go_wp2_with (go_at_call 85; refine (HC.out _).mono ?_; rintro e w1 ⟨rfl, rfl⟩; rw [HQ.out])
   go_ret
   exact ⟨kk, rfl, ⟨fun _ => any_hit _ l kk x HX.out (by rw [HQ.out]; rfl), fun _ => h0⟩, Below.refl _ _⟩
  | true =>
   have HQ := am hq
   clear hq
   go_wp2_with (go_at_call 85; refine (HC.out _).mono ?_; rintro e w1 ⟨rfl, rfl⟩; rw [HQ.out])
   go_roundg (n - (kk + 1))
   case measure => omega
   case rel =>
    refine ⟨kk + 1, by omega, by omega, by go_num, ⟨fun j y hj hy => ?_⟩, rfl⟩
    by_cases e : j = kk
    rotate_left
    ·exact HA.out j y (by omega) hy
    subst e
    rw [HX.out] at hy; injection hy with hy; subst hy; rw [HQ.out]; rfl
theorem has_intsS (A : Option Addr) (c : Nat) (l : List Int) (w : World) (hr : Kd.C (Kd.int .i64) w A l.length l) (hl : l.length ≤ 4611686018427387904) :
  Calls Tryz.prog 84 #[.slice A l.length c, .func (.func 85) #[] #[]] w fun e w' => e = .returned (.bool (l.any fun t => !okT t)) ∧ Below w.heap.size w w' := by
 have HI := am (idx_intsS A c l w hr hl)
 obtain ⟨b, hb⟩ : ∃ b, b = l.any fun t => !okT t := ⟨_, rfl⟩
 rw [← hb] at HI ⊢
 clear hb hr hl
 go_enter Tryz.func84, Tryz.ntmps84
 go_wp2_with (go_at_call 113; refine (HI.out).mono ?_; rintro e w1 ⟨i, rfl, hi, hw⟩; have HB := am hw; have HQ := am hi; clear hi hw)
 go_ret
 refine ⟨?_, HB.out⟩
 have := HQ.out
 congr 2
 cases b <;> simp_all
def qC3 (ps : List Int) (res : Int) (ls : List Int) (n3 : Nat) (fs : List S34) (vs : List Int) : Int :=
 if 8 < ps.length ∨ 64 < ls.length ∨ 4096 < n3 then 3
 else if n3 = 0 ∨ ls.length < ps.length ∨ ps ≠ ls.take ps.length ∨ resT res = false then 51
 else if (fs.any fun s => !resT s.f1) = true then 51
 else if ((ls ++ vs ++ fs.flatMap S34.f0).any fun t => !okT t) = true then 51
 else 0
theorem eqints_q (A1 A2 : Option Addr) (c1 c2 : Nat) (l1 l2 : List Int) (w : World) (h1 : Kd.C (Kd.int .i64) w A1 l1.length l1) (h2 : Kd.C (Kd.int .i64) w A2 l2.length l2) (hc1 : l1.length ≤ c1) (hc2 : l2.length ≤ c2) (hl : l1.length ≤ 4611686018427387904) :
  Calls Tryz.prog 82 #[.slice A1 l1.length c1, .slice A2 l2.length c2] w fun e w' => e = .returned (.bool (l1 == l2)) ∧ ∃ m, w' = w.drewN m := by
 obtain ⟨k, hk⟩ := (eqints_ev l1 l2 hl).rounds
 rw [eqB_of (r := l1 == l2) (by simp)] at hk
 refine (qA1.calls k A1 c1 l1 A2 c2 l2 _ w h1 hc1 h2 hc2 hk).mono ?_
 rintro e w' ⟨rfl, hd⟩
 exact ⟨rfl, hd.out⟩
theorem flat_len : ∀ (l : List S34), (∀ x ∈ l, x.f0.length ≤ 2000000) → (l.flatMap S34.f0).length ≤ l.length * 2000000
 | [], _ => by simp
 | x :: l, h => by
  have h1 := flat_len l (fun y hy => h y (List.mem_cons_of_mem _ hy))
  have h2 := h x (List.mem_cons_self ..)
  rw [List.flatMap_cons, List.length_append, List.length_cons]
  omega
theorem sound_any {W : World} (A1 A2 A3 A4 A5 : Option Addr) (c1 c2 n3 c3 c4 c5 : Nat) (res : Int) {ps ls vs : List Int} {fs : List S34} {okF : Nat → Prop} (hP : Kd.F (Kd.int .i64) W okF A1 ps.length ps) (hL : Kd.F (Kd.int .i64) W okF A2 ls.length ls) (hF : Kd.F k34 W okF A4 fs.length fs) (hV : Kd.F (Kd.int .i64) W okF A5 vs.length vs) (hc1 : ps.length ≤ c1) (hc2 : ls.length ≤ c2)
  (hp1 : ps.length ≤ 2000000) (hl1 : ls.length ≤ 2000000) (hv1 : vs.length ≤ 2000000) (hf1 : fs.length ≤ 2000000) (hn3 : n3 ≤ 2000000) (hfs : ∀ x ∈ fs, x.f0.length ≤ 2000000) :
  Calls Tryz.prog 62 #[.agg #[.slice A1 ps.length c1, .int .i64 res, .slice A2 ls.length c2, .slice A3 n3 c3], .agg #[.slice A4 fs.length c4, .slice A5 vs.length c5]] W fun e w' => e = .returned (.int .i64 (qC3 ps res ls n3 fs vs)) ∧ Below W.heap.size W w' := by
 obtain ⟨W0, hW0⟩ : ∃ W0, W0 = (W.alloc (.cells #[.slice A1 ps.length c1, .int .i64 res, .slice A2 ls.length c2, .slice A3 n3 c3] 37)).alloc (.cells #[.slice A4 fs.length c4, .slice A5 vs.length c5] 41) := ⟨_, rfl⟩
 have hB0 : Below W.heap.size W W0 := hW0 ▸ ((Below.refl _ _).alloc (Nat.le_refl _) _).alloc (by simp) _
 have hEQ : ∀ m, ps.length ≤ ls.length → Calls Tryz.prog 82 #[.slice A1 ps.length c1, .slice A2 ps.length c2] (W0.drewN m) fun e w' => e = .returned (.bool (ps == ls.take ps.length)) ∧ ∃ k, w' = (W0.drewN m).drewN k := fun m hle => by
  have h2 := Kd.C_take (Kd.F_now (Kd.F_drewN (Kd.F_below hL hB0) m)) hle
  have h3 : (ls.take ps.length).length = ps.length := by rw [List.length_take]; omega
  have h4 := eqints_q A1 A2 c1 c2 ps (ls.take ps.length) (W0.drewN m) (Kd.F_now (Kd.F_drewN (Kd.F_below hP hB0) m)) h2 hc1 (by omega) (by omega)
  rw [h3] at h4
  exact h4
 have hCL : ∀ W', Below W.heap.size W W' → Calls Tryz.prog 54 #[.slice A2 ls.length c2] W' fun e w' => ∃ v, e = .returned v ∧ Kd.R (Kd.int .i64) 3 w' W'.heap.size (fun _ => True) v ls ∧ Below W'.heap.size W' w' := fun W' hW' => qCe A2 c2 ls W' (Kd.F_now (Kd.F_below hL hW')) hl1
 have HP := am hP
 have HL := am hL
 have HF := am hF
 have HV := am hV
 have HB0 := am hB0
 have HFS := am hfs
 obtain ⟨be, hbe⟩ : ∃ be, be = (ps == ls.take ps.length) := ⟨_, rfl⟩
 obtain ⟨br, hbr⟩ : ∃ br, br = resT res := ⟨_, rfl⟩
 have HS : qAi (qC3 ps res ls n3 fs vs = if 8 < ps.length ∨ 64 < ls.length ∨ 4096 < n3 then 3
     else if n3 = 0 ∨ ls.length < ps.length ∨ be = false ∨ br = false then 51
     else if (fs.any fun s => !resT s.f1) = true then 51
     else if ((ls ++ vs ++ fs.flatMap S34.f0).any fun t => !okT t) = true then 51 else 0) := ⟨by
   rw [hbe, hbr]
   unfold qC3
   simp⟩
 have hRES := qCZ res
 rw [← hbe] at hEQ
 rw [← hbr] at hRES
 obtain ⟨rr, hrr⟩ : ∃ rr, rr = qC3 ps res ls n3 fs vs := ⟨_, rfl⟩
 rw [← hrr] at HS ⊢
 obtain ⟨p1, hpp⟩ : ∃ q, q = ps.length := ⟨_, rfl⟩
 obtain ⟨l1, hll⟩ : ∃ q, q = ls.length := ⟨_, rfl⟩
 obtain ⟨f1, hff⟩ : ∃ q, q = fs.length := ⟨_, rfl⟩
 obtain ⟨v1, hvv⟩ : ∃ q, q = vs.length := ⟨_, rfl⟩
 rw [← hpp, ← hll] at HS hEQ
 rw [← hll] at hCL
 rw [← hpp] at hW0 hp1 hc1 ⊢
 rw [← hll] at hW0 hl1 hc2 ⊢
 rw [← hff] at hW0 hf1 ⊢
 rw [← hvv] at hW0 hv1 ⊢
 have HEQ := am hEQ
 have HCL := am hCL
 have HRES := am hRES
 have HW0 := am hW0
 have HPP := am hpp
 have HLL := am hll
 have HFF := am hff
 have HVV := am hvv
 clear hP hL hF hV hB0 hfs hbe hbr hEQ hCL hRES hrr hW0 hpp hll hff hvv hc1
 by_cases hA : 8 < p1 ∨ 64 < l1 ∨ 4096 < n3
 ·rw [show rr = 3 by rw [HS.out, if_pos hA]]
  have hBB : Below W.heap.size W W0 := HB0.out
  rw [HW0.out] at hBB
  have HBB := am hBB
  clear hBB
  by_cases hA1 : 8 < p1
  ·have hz1 : (8 : Int) < (p1 : Int) := by omega
   clear hA
   go_enter Tryz.func62, Tryz.ntmps62
   go_wp2
   go_ret
   exact ⟨rfl, HBB.out⟩
  ·have hz1 : ¬ (8 : Int) < (p1 : Int) := by omega
   by_cases hA2 : 64 < l1
   ·have hz2 : (64 : Int) < (l1 : Int) := by omega
    clear hA
    go_enter Tryz.func62, Tryz.ntmps62
    go_wp2
    go_ret
    exact ⟨rfl, HBB.out⟩
   ·have hz2 : ¬ (64 : Int) < (l1 : Int) := by omega
    have hz3 : (4096 : Int) < (n3 : Int) := by omega
    clear hA
    go_enter Tryz.func62, Tryz.ntmps62
    go_wp2
    go_ret
    exact ⟨rfl, HBB.out⟩
 have hA1 : ¬ 8 < p1 := fun h => hA (.inl h)
 have hA2 : ¬ 64 < l1 := fun h => hA (.inr (.inl h))
 have hA3 : ¬ 4096 < n3 := fun h => hA (.inr (.inr h))
 have hz1 : ¬ (8 : Int) < (p1 : Int) := by omega
 have hz2 : ¬ (64 : Int) < (l1 : Int) := by omega
 have hz3 : ¬ (4096 : Int) < (n3 : Int) := by omega
 have hrA := HS.out
 rw [if_neg hA] at hrA
 have HRA := am hrA
 clear hrA HS hA hA1 hA2 hA3
 have b0 : W0.heap[W.heap.size]? = some (.cells #[.slice A1 p1 c1, .int .i64 res, .slice A2 l1 c2, .slice A3 n3 c3] 37 (0, 0)) := by rw [HW0.out]; exact qAs (qAF W _) (qAb (Below.refl _ _) _)
 have b1 : W0.heap[W.heap.size + 1]? = some (.cells #[.slice A4 f1 c4, .slice A5 v1 c5] 41 (0, 0)) := by rw [HW0.out]; simpa using qAF (W.alloc (.cells #[.slice A1 p1 c1, .int .i64 res, .slice A2 l1 c2, .slice A3 n3 c3] 37)) _
 have e0 := (qAc b0 0).trans rfl
 have e1 := (qAc b0 1).trans rfl
 have e2 := (qAc b0 2).trans rfl
 have e3 := (qAc b0 3).trans rfl
 have g0 := (qAc b1 0).trans rfl
 have g1 := (qAc b1 1).trans rfl
 go_enter Tryz.func62, Tryz.ntmps62
 go_wp2_with fail
 rw [← HW0.out]
 by_cases hB1 : n3 = 0
 ·have hr0 : qAi (rr = 51) := ⟨by rw [HRA.out, if_pos (.inl hB1)]⟩
  have hq1 : ((n3 : Int) == 0) = true := by simp [hB1]
  go_quiet (fail)
  go_wp2_with fail
  go_ret
  exact ⟨by rw [hr0.out]; rfl, qAa HB0.out _⟩
 have hq1 : ((n3 : Int) == 0) = false := beq_eq_false_iff_ne.mpr (by omega)
 by_cases hB2 : l1 < p1
 ·have hr0 : qAi (rr = 51) := ⟨by rw [HRA.out, if_pos (.inr (.inl hB2))]⟩
  have hq2 : decide ((l1 : Int) < (p1 : Int)) = true := by simp; omega
  go_quiet (fail)
  go_wp2_with fail
  go_ret
  exact ⟨by rw [hr0.out]; rfl, qAa HB0.out _⟩
 have hq2 : decide ((l1 : Int) < (p1 : Int)) = false := by simp; omega
 have hle : p1 ≤ l1 := by omega
 have hq3 : (p1 : Int) ≤ (c2 : Int) := by omega
 cases be with
 | false =>
  have hr0 : qAi (rr = 51) := ⟨by rw [HRA.out, if_pos (.inr (.inr (.inl rfl)))]⟩
  go_quiet ((go_at_call 82; exact Calls.quiet_of (HEQ.out _ hle)))
  go_wp2_with fail
  go_ret
  exact ⟨by rw [hr0.out]; rfl, qAa HB0.out _⟩
 | true =>
  cases br with
  | false =>
   have hr0 : qAi (rr = 51) := ⟨by rw [HRA.out, if_pos (.inr (.inr (.inr rfl)))]⟩
   go_quiet (first | (go_at_call 82; exact Calls.quiet_of (HEQ.out _ hle)) | (go_at_call 83; exact Calls.quiet_of_same (HRES.out _)))
   go_wp2_with fail
   go_ret
   exact ⟨by rw [hr0.out]; rfl, qAa HB0.out _⟩
  | true =>
   have hrB := HRA.out
   rw [if_neg (by rintro (h | h | h | h); exact hB1 h; exact hB2 h; cases h; cases h)] at hrB
   have HRBB := am hrB
   clear hrB HRA
   go_quiet (first | (go_at_call 82; exact Calls.quiet_of (HEQ.out _ hle)) | (go_at_call 83; exact Calls.quiet_of_same (HRES.out _)))
   go_wp2_with fail
   generalize hW1 : World.drewN W0 _ = w1
   have hb01 : Below W0.heap.size W0 w1 := hW1 ▸ qAa (Below.refl _ _) _
   have HB1 : qAi (Below W.heap.size W w1) := ⟨hW1 ▸ qAa HB0.out _⟩
   have d0 := qAs b0 hb01
   have d1 := qAs b1 hb01
   have k2 := (qAc d0 2).trans rfl
   have k5 := (qAc d1 1).trans rfl
   clear hW1 hb01 b0 b1 e0 e1 e2 e3 g0 g1 hq1 hq2 hq3 hz1 hz2 hz3
   have hHS : qAi (∀ v : Value, (∀ k, v.ownBlock = some k → W.heap.size ≤ k) → ∀ k, k < W.heap.size → True ∧ some k ≠ v.ownBlock) := ⟨fun v hv k hk => ⟨trivial, fun e => by have := hv k e.symm; omega⟩⟩
   go_region_held3 (fun W' => W'.cell? ⟨W.heap.size, 2, none⟩ = some (.slice A2 l1 c2) ∧ W'.cell? ⟨W.heap.size + 1, 1, none⟩ = some (.slice A5 v1 c5))
    (first | exact ⟨k2, k5⟩ | exact ⟨x2, x5⟩ | exact ⟨y2, y5⟩)
    (first
      | (go_at_call 54;
         refine (HCL.out _ (qAr HB1.out)).mono ?_;
         rintro e w2 ⟨v, rfl, hR, hb⟩;
         have x2 := (hb.cell (World.block_lt_of_cell? _ _ k2)).trans k2;
         have x5 := (hb.cell (World.block_lt_of_cell? _ _ k5)).trans k5;
         have hb12 : Below w1.heap.size w1 w2 := (qAr (Below.refl _ _)).trans hb;
         have HB2 : qAi (Below W.heap.size W w2) := ⟨HB1.out.trans (hb12.mono HB1.out.size)⟩;
         have HO2 := am (Kd.N_lower (Kd.R_N hR) (show W.heap.size ≤ w1.drew.heap.size from HB1.out.size));
         have d0' := qAs d0 hb12;
         have d1' := qAs d1 hb12;
         obtain ⟨D1, q1, rfl⟩ := Kd.R_slice hR;
         have HBS := am (Kd.R_base hR);
         clear hR hb hb12)
      | (refine Kd.N_append_rows_step (Kd.int .i64) (w0 := W) W.heap.size rfl _ _ 22 3 _ 8 rfl Tryz.underlying22 qBL rfl (by decide) (by decide) (.slice D1 ls.length q1) ls vs A5 v1 c5 (fun _ => True) (fun q => q < W.heap.size) (by { rw [← HLL.out]; rfl }) rfl HO2.out (by { rw [HVV.out]; exact Kd.F_mono (Kd.F_below (Kd.F_bound HV.out) HB2.out) (fun q hq => hq.2) }) (fun k hk => hHS.out _ (Kd.N_base HO2.out) k hk) (fun _ _ => trivial) HB2.out HB2.out.size (by { rw [← HLL.out]; omega }) ?_;
         intro v3 w3 hN3 hB3 hg3 _;
         have hneA : ∀ (k : Nat), k < w1.drew.heap.size → some k ≠ (Value.slice D1 ls.length q1).ownBlock := fun k hk e => by { have := HBS.out k e.symm; omega };
         have y2 := hg3.cell x2 (hneA _ (World.block_lt_of_cell? _ _ k2));
         have y5 := hg3.cell x5 (hneA _ (World.block_lt_of_cell? _ _ k5));
         have d1'' := (hg3.block _ (qBf d1') (hneA _ (qBf d1))).trans d1';
         have HB3 := am hB3;
         have HO3 := am hN3;
         clear hN3 hB3 hg3))
   have y4 := (qAc d1'' 0).trans rfl
   go_wp2_with fail
   clear y4 y2 y5 k2 k5 d0 d1 d1'' x2 x5
   go_loopg [6, 8, 68] f1 (fun gg s6 _ s68 wr => ∃ (kk : Nat) (v' : Value), kk ≤ f1 ∧ f1 - kk ≤ gg ∧ v' = s6 ∧ s68 = .int .i64 kk ∧ qAi (Kd.N (Kd.int .i64) 3 wr W.heap.size (fun _ => True) v' (ls ++ vs ++ (fs.take kk).flatMap S34.f0)) ∧ qAi (Below W.heap.size W wr) ∧ qAi (∀ (j : Nat) x, j < kk → fs[j]? = some x → (!resT x.f1) = false))
   case atStart => exact ⟨0, v3, Nat.zero_le _, by omega, rfl, rfl, ⟨by simpa using HO3.out⟩, HB3, ⟨fun j x hj => absurd hj (Nat.not_lt_zero _)⟩⟩
   case round =>
    obtain ⟨kk, v', hkk, hg, rfl, rfl, HO, HB, HA⟩ := hrel
    by_cases hlt : kk < f1
    rotate_left
    ·have e0 : f1 = kk := by omega
     subst e0
     have hnot : ¬ (f1 : Int) < (f1 : Int) := by omega
     have hnoany : (fs.any fun s => !resT s.f1) = false := any_miss _ fs (fun j x hx => HA.out j x (by have := (List.getElem?_eq_some_iff.1 hx).1; have := HFF.out; omega) hx)
     have hLL : ls ++ vs ++ (fs.take f1).flatMap S34.f0 = ls ++ vs ++ fs.flatMap S34.f0 := by
      rw [List.take_of_length_le (by have := HFF.out; omega)]
     have hO := HO.out
     rw [hLL] at hO
     have hrC := HRBB.out
     rw [if_neg (by rw [hnoany]; simp)] at hrC
     obtain ⟨L, hLe⟩ : ∃ L, L = ls ++ vs ++ fs.flatMap S34.f0 := ⟨_, rfl⟩
     have hLn : L.length ≤ 4611686018427387904 := by
      have h1 := flat_len fs HFS.out
      have h4 := HLL.out
      have h5 := HVV.out
      have h6 := HFF.out
      rw [hLe]
      simp only [List.length_append]
      omega
     rw [← hLe] at hO hrC
     obtain ⟨V, cv, rfl⟩ := Kd.N_slice hO
     have HHI := am (has_intsS V cv L wr (Kd.N_reads' hO).2.2 hLn)
     obtain ⟨bb, hbb⟩ : ∃ bb, bb = L.any fun t => !okT t := ⟨_, rfl⟩
     rw [← hbb] at HHI hrC
     obtain ⟨ln, hln⟩ : ∃ ln, ln = L.length := ⟨_, rfl⟩
     rw [← hln] at HHI ⊢
     have HRC := am hrC
     clear hrC hbb hO HO hLL hnoany hLe hLn hln
     cases bb with
     | true =>
      go_wp2_with (go_at_call 84; refine HHI.out.mono ?_; rintro e w6 ⟨rfl, hb6⟩; have HB6 : qAi (Below W.heap.size W w6) := ⟨HB.out.trans (hb6.mono HB.out.size)⟩; clear hb6)
      go_ret
      exact ⟨by rw [HRC.out]; rfl, HB6.out⟩
     | false =>
      go_wp2_with (go_at_call 84; refine HHI.out.mono ?_; rintro e w6 ⟨rfl, hb6⟩; have HB6 : qAi (Below W.heap.size W w6) := ⟨HB.out.trans (hb6.mono HB.out.size)⟩; clear hb6)
      go_ret
      exact ⟨by rw [HRC.out]; rfl, HB6.out⟩
    have hltz : (kk : Int) < (f1 : Int) := by omega
    have h0 : (0 : Int) ≤ (kk : Int) := by omega
    obtain ⟨ad, D, d, ea, k0, k1, _, FD, _⟩ := sig_F HF.out (kk : Int) h0 (by rw [← HFF.out]; exact hltz)
    subst ea
    rw [Int.toNat_natCast] at k0 k1
    have hx : fs[kk]? = some (qBc fs (kk : Int)) := qBW fs z34 kk (by have := HFF.out; omega)
    obtain ⟨x, hxe⟩ : ∃ x, x = qBc fs (kk : Int) := ⟨_, rfl⟩
    rw [← hxe] at k0 k1 FD hx
    have hr1 := qCZ x.f1
    have hta : (fs.take (kk + 1)).flatMap S34.f0 = (fs.take kk).flatMap S34.f0 ++ x.f0 := by
     rw [List.take_add_one, hx]; simp
    have hln : ((ls ++ vs ++ (fs.take kk).flatMap S34.f0).length + x.f0.length) * 8 ≤ 140737488355328 := by
     have h1 := flat_len (fs.take kk) (fun y hy => HFS.out y (List.mem_of_mem_take hy))
     have h2 := HFS.out x (List.mem_of_getElem? hx)
     have h3 : (fs.take kk).length ≤ 2000000 := by rw [List.length_take]; omega
     have h4 := HLL.out
     have h5 := HVV.out
     simp only [List.length_append]
     omega
    obtain ⟨m0, hm0⟩ : ∃ q, q = x.f0.length := ⟨_, rfl⟩
    obtain ⟨rt, hrt⟩ : ∃ q, q = x.f1 := ⟨_, rfl⟩
    obtain ⟨rb, hrb⟩ : ∃ q, q = resT x.f1 := ⟨_, rfl⟩
    rw [← hrb] at hr1
    rw [← hrt] at k1 hr1
    rw [← hm0] at k0 FD hln
    replace k0 := (HB.out.cell (World.block_lt_of_cell? W _ k0)).trans k0
    replace k1 := (HB.out.cell (World.block_lt_of_cell? W _ k1)).trans k1
    have HX := am hx
    have HR1 := am hr1
    have HTA := am hta
    have HLN := am hln
    have HFD := am (Kd.F_below (Kd.F_bound FD) (HB.out.alloc HB.out.size (.cells #[.slice D m0 d, .int .i64 rt] 34)))
    have HRB := am hrb
    have w1' := (qAc (qAF wr (.cells #[.slice D m0 d, .int .i64 rt] 34)) 1).trans rfl
    have HNE : qAi (some wr.heap.size ≠ v'.ownBlock) := ⟨fun e => Nat.lt_irrefl _ (Kd.N_lt HO.out _ e.symm)⟩
    clear hx hxe hr1 hta hln hm0 hrt hrb FD
    have hx1 := HX.out
    cases rb with
    | false =>
     have hr0 : qAi (rr = 51) := ⟨by rw [HRBB.out, if_pos (any_hit _ fs kk x HX.out (by rw [← HRB.out]; rfl))]⟩
     clear hx1
     go_wp2_with (first
       | (at_builtin; refine Kd.N_append_rows (Kd.int .i64) (w0 := W) W.heap.size rfl _ _ 22 3 _ 8 rfl Tryz.underlying22 qBL rfl (by decide) (by decide) v' (ls ++ vs ++ (fs.take kk).flatMap S34.f0) x.f0 D m0 d (fun _ => True) (fun q => q < W.heap.size) rfl rfl (Kd.N_alloc HO.out _) (Kd.F_mono HFD.out (fun q hq => hq.2)) (fun k hk => hHS.out _ (Kd.N_base HO.out) k hk) (fun _ _ => trivial) (HB.out.alloc HB.out.size _) (Nat.le_trans HB.out.size (by simp)) HLN.out ?_; intro v5 w5 hN5 hB5 hg5 _; have x1 := hg5.cell w1' HNE.out; have HO5 := am hN5; have HB5 := am hB5; clear hN5 hB5 hg5)
       | (go_at_call 83; refine (HR1.out _).mono ?_; rintro e w6 ⟨rfl, rfl⟩))
     go_ret
     exact ⟨by rw [hr0.out]; rfl, HB5.out⟩
    | true =>
     clear hx1
     go_wp2_with (first
       | (at_builtin; refine Kd.N_append_rows (Kd.int .i64) (w0 := W) W.heap.size rfl _ _ 22 3 _ 8 rfl Tryz.underlying22 qBL rfl (by decide) (by decide) v' (ls ++ vs ++ (fs.take kk).flatMap S34.f0) x.f0 D m0 d (fun _ => True) (fun q => q < W.heap.size) rfl rfl (Kd.N_alloc HO.out _) (Kd.F_mono HFD.out (fun q hq => hq.2)) (fun k hk => hHS.out _ (Kd.N_base HO.out) k hk) (fun _ _ => trivial) (HB.out.alloc HB.out.size _) (Nat.le_trans HB.out.size (by simp)) HLN.out ?_; intro v5 w5 hN5 hB5 hg5 _; have x1 := hg5.cell w1' HNE.out; have HO5 := am hN5; have HB5 := am hB5; clear hN5 hB5 hg5)
       | (go_at_call 83; refine (HR1.out _).mono ?_; rintro e w6 ⟨rfl, rfl⟩))
     go_roundg (f1 - (kk + 1))
     case measure => omega
     case rel =>
      refine ⟨kk + 1, v5, by omega, by omega, rfl, by go_num, ⟨by rw [HTA.out, ← List.append_assoc]; exact HO5.out⟩, HB5, ⟨fun j u hj hu => ?_⟩⟩
      by_cases e : j = kk
      rotate_left
      ·exact HA.out j u (by omega) hu
      subst e
      rw [HX.out] at hu
      injection hu with hu; subst hu
      rw [← HRB.out]; rfl
end Q
end
end Go.Proofs.YtfddibbignedkaaGreatDoor
