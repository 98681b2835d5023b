/- object.Pack and the document's Pack of any object, where what is read is of bulk at most 1048576: the same bytes and the same error. Part 4 of 8. -/
import Derived.Test.YtfjpnjbinbhcfaaGreatP3
import Derived.Lib.SliceRun
set_option maxHeartbeats 8000000
set_option maxRecDepth 100000
set_option linter.unusedVariables false
set_option linter.unusedSimpArgs false
namespace Go.Proofs.YtfjpnjbinbhcfaaGreat
section
namespace Q
open Go.RowKit PA PC PB
attribute [local go_sem] qAX min2_int qBi min_two max_three min_three max_four min_four
def qA9.l0 : Nat → List ByteArray → ByteArray → Int → Int → Option (Int)
 | 0, _, _, _, _ => none
 | k + 1, x0, x1, x7, x8 => if x8 < x7 then (if 0 ≤ x8 then (if x8 < (x0.length : Int) then (if x1.toList = (rdOf ByteArray.empty x0 x8).toList then (some x8) else (qA9.l0 k x0 x1 x7 (wrap64 (x8 + 1)))) else (none)) else (none)) else (some (-1))
def qA9.f (k : Nat) (l0 : List ByteArray) (a1 : ByteArray) : Option (Int) := qA9.l0 k l0 a1 (l0.length : Int) 0
theorem qA9.calls (k : Nat) (A0 : Option Addr) (c0 : Nat) (l0 : List ByteArray) (a1 : ByteArray) (r : Int) (w : World) (hr0 : Kd.C Kd.string w A0 l0.length l0) (hc0 : l0.length ≤ c0) (h : qA9.f k l0 a1 = some r) :
  Calls Tryz.prog 146 #[.slice A0 l0.length c0, .string a1] w fun e w' => e = .returned (.int .i64 r) ∧ qAS w w' := by
 have aJ := am hr0
 clear hr0 hc0
 have H : (qA9.l0 k l0 a1 (l0.length : Int) 0) = some r := h
 clear h
 have H' := am H
 clear H
 go_enter Tryz.func146, Tryz.ntmps146
 go_wp2
 go_loopg [8] k (fun kq v8 w' => ∃ (aA : Int), v8 = .int .i64 aA ∧ qAa (qA9.l0 kq l0 a1 (l0.length : Int) aA = some r) ∧ qAa (kq ≤ k) ∧ qAS w w')
 case atStart => exact ⟨(0), (by rfl), H', ⟨Nat.le_refl _⟩, by exact qAS.refl _⟩
 case round =>
  clear H'
  obtain ⟨aA, rfl, HA, aI, ⟨m1, rfl⟩⟩ := hrel
  cases gk with
  | zero => exact absurd HA.o (by simp [qA9.l0])
  | succ k1 =>
   have H := HA.o
   clear HA
   simp only [qA9.l0] at H
   by_cases c3 : aA < (l0.length : Int)
   rotate_left
   ·rw [if_neg c3] at H
    replace c3 := d0 c3
    obtain rfl := Option.some.inj H
    go_wp2
    go_ret
    exact ⟨by rfl, by repeat (first | exact qAS.refl _ | apply qAS.step)⟩
   rw [if_pos c3] at H
   replace c3 := d1 c3
   obtain ⟨c4, H⟩ := gd H
   replace c4 := d1 c4
   obtain ⟨c5, H⟩ := gd H
   replace c5 := d1 c5
   by_cases c6 : a1.toList = (rdOf ByteArray.empty l0 aA).toList
   ·rw [if_pos c6] at H
    have aH : (a1.toList == (rdOf ByteArray.empty l0 aA).toList) = true := beq_iff_eq.mpr c6
    clear c6
    obtain rfl := Option.some.inj H
    have aB : 0 ≤ aA := od (by assumption)
    have aC : aA < (l0.length : Int) := od (by assumption)
    obtain ⟨aF, aE, aD⟩ := Kd.at_string aJ.o aA aB aC
    cases aE
    replace aB := eq_true aB
    replace aC := eq_true aC
    go_wp2
    go_ret
    exact ⟨by rfl, by repeat (first | exact qAS.refl _ | apply qAS.step)⟩
   rw [if_neg c6] at H
   have aH : (a1.toList == (rdOf ByteArray.empty l0 aA).toList) = false := bf c6
   have H' := am H
   clear H
   have aB : 0 ≤ aA := od (by assumption)
   have aC : aA < (l0.length : Int) := od (by assumption)
   obtain ⟨aF, aE, aD⟩ := Kd.at_string aJ.o aA aB aC
   cases aE
   replace aB := eq_true aB
   replace aC := eq_true aC
   go_wp2
   go_roundg k1
   case measure => have := aI.o; omega
   case rel => exact ⟨(wrap64 (aA + 1)), (by rfl), H', ⟨by have := aI.o; omega⟩, by repeat (first | exact qAS.refl _ | apply qAS.step)⟩
def qAR.f (k : Nat) (l0 : List ByteArray) (a1 : ByteArray) : Option (Bool) := (qA9.f k l0 a1).bind fun aA => (some (decide (aA ≥ 0)))
theorem qAR.calls (k : Nat) (A0 : Option Addr) (c0 : Nat) (l0 : List ByteArray) (a1 : ByteArray) (r : Bool) (w : World) (hr0 : Kd.C Kd.string w A0 l0.length l0) (hc0 : l0.length ≤ c0) (h : qAR.f k l0 a1 = some r) :
  Calls Tryz.prog 92 #[.slice A0 l0.length c0, .string a1] w fun e w' => e = .returned (.bool r) ∧ qAS w w' := by
 have aD := am hr0
 have aC := am hc0
 clear hr0 hc0
 have H : ((qA9.f k l0 a1).bind fun aA => (some (decide (aA ≥ 0)))) = some r := h
 clear h
 replace H := bm H
 obtain ⟨aA, aB, H⟩ := H
 replace H : (some (decide (aA ≥ 0))) = some r := H
 have A3 := am aB
 clear aB
 obtain rfl := Option.some.inj H
 go_enter Tryz.func92, Tryz.ntmps92
 go_wp2_with ((with_reducible refine qAi (f := 146) rfl ?_); refine gL 7 Tryz.func146 #[.slice A0 l0.length c0, .string a1] ?_; (with_reducible refine (qA9.calls k _ _ l0 a1 aA _ ?side1 ?side2 A3.o).mono ?_); (case side1 => exact aD.o); (case side2 => exact aC.o); rintro e w' ⟨rfl, ⟨nd, rfl⟩⟩; refine ⟨_, rfl, ?_⟩)
 go_ret
 exact ⟨by rfl, by repeat (first | exact qAS.refl _ | apply qAS.step)⟩
end Q
end
section
namespace Q
open Go.RowKit PA PC PB
theorem qB1 {i : Int} {n : Nat} (h0 : 0 ≤ i) (h : i < n) (hn : n ≤ 4611686018427387904) : wrap64 (i + 1) = i + 1 := by unfold wrap64; omega
theorem qAV {α : Type} (l : List α) (d : α) (i : Int) (h0 : 0 ≤ i) (h : i < l.length) : l.drop i.toNat = l.getD i.toNat d :: l.drop (i + 1).toNat := by
 rw [show (i + 1).toNat = i.toNat + 1 from by omega, List.drop_eq_getElem_cons (by omega), List.getD_eq_getElem?_getD, List.getElem?_eq_getElem (by omega)]; rfl
def hasB (l : List ByteArray) (s : ByteArray) : Bool := l.any fun x => s.toList == x.toList
theorem index_ev (l : List ByteArray) (s : ByteArray) (hl : l.length ≤ 4611686018427387904) : ∀ (d : Nat) (i : Int), 0 ≤ i → (l.length : Int) - i = d →
  ∃ r, Ev (fun k => qA9.l0 k l s (l.length : Int) i) r ∧ (0 ≤ r ↔ hasB (l.drop i.toNat) s = true) := by
 intro d
 induction d with
 | zero =>
  intro i h0 hd
  refine ⟨-1, Ev.step (f := fun _ => some (-1)) (fun k => ?_) (Ev.now _), ?_⟩
  ·simp only [qA9.l0]; rw [if_neg (by omega)]
  rw [List.drop_eq_nil_of_le (by omega)]; simp [hasB]
 | succ d ih =>
  intro i h0 hd
  have hc := qAV l ByteArray.empty i h0 (by omega)
  by_cases he : s.toList = (rdOf ByteArray.empty l i).toList
  ·refine ⟨i, Ev.step (f := fun _ => some i) (fun k => ?_) (Ev.now _), ?_⟩
   ·simp only [qA9.l0]; rw [if_pos (by omega), if_pos h0, if_pos (by omega), if_pos he]
   rw [hc]
   simp [hasB, h0]
   exact .inl he
  obtain ⟨r, hr, hq⟩ := ih (i + 1) (by omega) (by omega)
  refine ⟨r, Ev.step (f := fun k => qA9.l0 k l s (l.length : Int) (i + 1)) (fun k => ?_) hr, ?_⟩
  ·simp only [qA9.l0]; rw [if_pos (by omega), if_pos h0, if_pos (by omega), if_neg he, qB1 (n := l.length) h0 (by omega) hl]
  rw [hq, hc]
  have he' : (s.toList == (l.getD i.toNat ByteArray.empty).toList) = false := beq_eq_false_iff_ne.mpr he
  simp only [hasB, List.any_cons, he', Bool.false_or]
theorem qDT (l : List ByteArray) (s : ByteArray) (hl : l.length ≤ 4611686018427387904) : Ev (fun k => qAR.f k l s) (hasB l s) := by
 obtain ⟨r, hr, hq⟩ := index_ev l s hl l.length 0 (by omega) (by omega)
 have : hasB l s = decide (r ≥ 0) := by
  rw [show l.drop (0 : Int).toNat = l from rfl] at hq
  cases h : hasB l s with
  | true => exact (decide_eq_true (hq.2 h)).symm
  | false => exact (decide_eq_false (fun hh => by have := hq.1 hh; rw [h] at this; cases this)).symm
 rw [this]
 exact Ev.congr (f := fun k => (qA9.l0 k l s (l.length : Int) 0).bind fun t => some (decide (t ≥ 0))) (fun k => rfl) (Ev.bind hr (Ev.now _))
def qCx (f i : Int) (x : S144) : List S104 := if x.f0 = 4 ∨ x.f0 = 5 then [⟨f, i, 1, ⟨#[]⟩, ⟨#[]⟩⟩] else if x.f0 = 10 then [⟨f, i, 2, ⟨#[]⟩, ⟨#[]⟩⟩] else []
def qDv (f : Int) : Int → List S144 → List S104
 | _, [] => []
 | i, x :: xs => qCx f i x ++ qDv f (i + 1) xs
def fnsP : Int → List S92 → List S104
 | _, [] => []
 | i, x :: xs => qDv i 0 x.f1.f2 ++ fnsP (i + 1) xs
def qB7 (fns : List S92) : List S104 := fnsP 0 fns
theorem qFz (f i : Int) (x : S144) : (qCx f i x).length ≤ 1 := by unfold qCx; (repeat' split) <;> simp
theorem qFk (f : Int) : ∀ (l : List S144) (i : Int), (qDv f i l).length ≤ l.length
 | [], _ => Nat.le_refl _
 | x :: xs, i => by
  have := qFk f xs (i + 1)
  have := qFz f i x
  simp only [qDv, List.length_append, List.length_cons]; omega
theorem fnsP_len : ∀ (l : List S92) (i : Int), (∀ x ∈ l, x.f1.f2.length ≤ 4096) → (fnsP i l).length ≤ l.length * 4096
 | [], _, _ => Nat.zero_le _
 | x :: xs, i, h => by
  have h1 := fnsP_len xs (i + 1) fun y hy => h y (List.mem_cons_of_mem _ hy)
  have h2 := qFk i x.f1.f2 0
  have h3 := h x List.mem_cons_self
  simp only [fnsP, List.length_append, List.length_cons]; omega
theorem code_ev (f : Int) (x9 : List S92) (x10 : Int) (l : List S144) (hl : l.length ≤ 4096) (r : List S104) : ∀ (d : Nat) (i : Int) (acc : List S104), 0 ≤ i → (l.length : Int) - i = d → acc.length + d < 2513169434916 →
  Ev (fun k => qA4.l0 k (acc ++ qDv f i (l.drop i.toNat)) x9 x10 (wrap64 (f + 1))) r → Ev (fun k => qA4.l1 k acc f x9 x10 f l (l.length : Int) i) r := by
 intro d
 induction d with
 | zero =>
  intro i acc h0 hd ha h
  rw [List.drop_eq_nil_of_le (by omega)] at h
  simp only [qDv, List.append_nil] at h
  refine Ev.step (fun k => ?_) h
  simp only [qA4.l1]; rw [if_neg (by omega)]
 | succ d ih =>
  intro i acc h0 hd ha h
  have hc := qAV l z144 i h0 (by omega)
  have hx : qAL l i = l.getD i.toNat z144 := rfl
  rw [hc, ← hx] at h
  simp only [qDv] at h
  rw [← List.append_assoc] at h
  have hw := qB1 (n := l.length) h0 (by omega) (by omega)
  have hrec := ih (i + 1) (acc ++ qCx f i (qAL l i)) (by omega) (by omega) (by have := qFz f i (qAL l i); rw [List.length_append]; omega) h
  by_cases h4 : (qAL l i).f0 = 4
  ·refine Ev.step (f := fun k => qA4.j2 k acc f i x9 x10 f l (l.length : Int) i (qAL l i).f0 ((qAL l i).f0 == 4)) (fun k => ?_) (Ev.step (fun k => ?_) hrec)
   ·simp only [qA4.l1]; rw [if_pos (by omega), if_pos h0, if_pos (by omega), if_pos h4]
   simp only [qA4.j2]; rw [if_pos (beq_iff_eq.mpr h4), if_pos (by omega), hw, show qCx f i (qAL l i) = [⟨f, i, 1, ⟨#[]⟩, ⟨#[]⟩⟩] from if_pos (.inl h4)]
  by_cases h5 : (qAL l i).f0 = 5
  ·refine Ev.step (f := fun k => qA4.j2 k acc f i x9 x10 f l (l.length : Int) i (qAL l i).f0 ((qAL l i).f0 == 5)) (fun k => ?_) (Ev.step (fun k => ?_) hrec)
   ·simp only [qA4.l1]; rw [if_pos (by omega), if_pos h0, if_pos (by omega), if_neg h4]
   simp only [qA4.j2]; rw [if_pos (beq_iff_eq.mpr h5), if_pos (by omega), hw, show qCx f i (qAL l i) = [⟨f, i, 1, ⟨#[]⟩, ⟨#[]⟩⟩] from if_pos (.inr h5)]
  have hno : ¬ ((qAL l i).f0 = 4 ∨ (qAL l i).f0 = 5) := by omega
  have hb : ¬ ((qAL l i).f0 == 5) = true := by simp [h5]
  by_cases h10 : (qAL l i).f0 = 10
  rotate_left
  ·refine Ev.step (f := fun k => qA4.j2 k acc f i x9 x10 f l (l.length : Int) i (qAL l i).f0 ((qAL l i).f0 == 5)) (fun k => ?_) (Ev.step (fun k => ?_) hrec)
   ·simp only [qA4.l1]; rw [if_pos (by omega), if_pos h0, if_pos (by omega), if_neg h4]
   simp only [qA4.j2]; rw [if_neg hb, if_neg h10, hw, show qCx f i (qAL l i) = [] from (if_neg hno).trans (if_neg h10), List.append_nil]
  refine Ev.step (f := fun k => qA4.j2 k acc f i x9 x10 f l (l.length : Int) i (qAL l i).f0 ((qAL l i).f0 == 5)) (fun k => ?_) (Ev.step (fun k => ?_) hrec)
  ·simp only [qA4.l1]; rw [if_pos (by omega), if_pos h0, if_pos (by omega), if_neg h4]
  simp only [qA4.j2]; rw [if_neg hb, if_pos h10, if_pos (by omega), hw, show qCx f i (qAL l i) = [⟨f, i, 2, ⟨#[]⟩, ⟨#[]⟩⟩] from (if_neg hno).trans (if_pos h10)]
theorem fns_ev (fns : List S92) (hl : fns.length ≤ 64) (h4 : ∀ x ∈ fns, x.f1.f2.length ≤ 4096) : ∀ (d : Nat) (i : Int) (acc : List S104), 0 ≤ i → (fns.length : Int) - i = d → acc.length + d * 4096 < 2513169434916 →
  Ev (fun k => qA4.l0 k acc fns (fns.length : Int) i) (acc ++ fnsP i (fns.drop i.toNat)) := by
 intro d
 induction d with
 | zero =>
  intro i acc h0 hd ha
  rw [List.drop_eq_nil_of_le (by omega)]
  simp only [fnsP, List.append_nil]
  refine Ev.step (f := fun _ => some acc) (fun k => ?_) (Ev.now _)
  simp only [qA4.l0]; rw [if_neg (by omega)]
 | succ d ih =>
  intro i acc h0 hd ha
  have hc := qAV fns z92 i h0 (by omega)
  have hx : qAt fns i = fns.getD i.toNat z92 := rfl
  rw [hc, ← hx]
  simp only [fnsP]
  rw [← List.append_assoc]
  have hw := qB1 (n := fns.length) h0 (by omega) (by omega)
  have hm : qAt fns i ∈ fns := by
   have : i.toNat < fns.length := by omega
   rw [hx, List.getD_eq_getElem?_getD, List.getElem?_eq_getElem this]; exact List.getElem_mem _
  have h4' := h4 _ hm
  have hlen := qFk i (qAt fns i).f1.f2 0
  refine Ev.step (f := fun k => qA4.l1 k acc i fns (fns.length : Int) i (qAt fns i).f1.f2 ((qAt fns i).f1.f2.length : Int) 0) (fun k => ?_) (code_ev i fns _ _ h4' _ (qAt fns i).f1.f2.length 0 acc (by omega) (by omega) (by omega) ?_)
  ·simp only [qA4.l0]; rw [if_pos (by omega), if_pos h0, if_pos (by omega)]
  rw [hw]
  exact ih (i + 1) _ (by omega) (by omega) (by rw [List.length_append]; simp only [show ((0 : Int).toNat) = 0 from rfl, List.drop_zero]; omega)
theorem places_ev (a : ByteArray) (l1 : List S85) (fns : List S92) (l3 : List S104) (hl : fns.length ≤ 64) (h4 : ∀ x ∈ fns, x.f1.f2.length ≤ 4096) : Ev (fun k => qA4.f k a l1 fns l3) (qB7 fns) :=
 fns_ev fns hl h4 fns.length 0 [] (by omega) (by omega) (by simp; omega)
theorem placeOf_in {f i : Int} {x : S144} {p : S104} (h : p ∈ qCx f i x) : p.f0 = f ∧ p.f1 = i := by
 unfold qCx at h
 (repeat' split at h) <;> simp at h <;> subst h <;> exact ⟨rfl, rfl⟩
theorem codeP_in (f : Int) : ∀ (l : List S144) (i : Int) (p : S104), p ∈ qDv f i l → p.f0 = f ∧ i ≤ p.f1 ∧ p.f1 < i + l.length
 | [], _, _, h => by simp [qDv] at h
 | x :: xs, i, p, h => by
  simp only [qDv, List.mem_append] at h
  rcases h with h | h
  ·obtain ⟨h1, h2⟩ := placeOf_in h
   exact ⟨h1, by omega, by simp only [List.length_cons]; omega⟩
  obtain ⟨h1, h2, h3⟩ := codeP_in f xs (i + 1) p h
  exact ⟨h1, by omega, by simp only [List.length_cons]; omega⟩
theorem fnsP_in : ∀ (l : List S92) (i : Int) (p : S104), p ∈ fnsP i l → ∃ (j : Nat) (x : S92), l[j]? = some x ∧ p.f0 = i + j ∧ 0 ≤ p.f1 ∧ p.f1 < x.f1.f2.length
 | [], _, _, h => by simp [fnsP] at h
 | x :: xs, i, p, h => by
  simp only [fnsP, List.mem_append] at h
  rcases h with h | h
  ·obtain ⟨h1, h2, h3⟩ := codeP_in i _ 0 p h
   exact ⟨0, x, rfl, by simpa using h1, h2, by omega⟩
  obtain ⟨j, y, hj, h1, h2, h3⟩ := fnsP_in xs (i + 1) p h
  exact ⟨j + 1, y, by simpa using hj, by omega, h2, h3⟩
end Q
end
section
namespace Q
open Go.RowKit PA PC PB
open Val Ins
def qB3 : List S104 → Int
 | [] => 0
 | r :: rs => if Names.nameE r.f3 ≠ 0 then Names.nameE r.f3 else if Names.nameE r.f4 ≠ 0 then Names.nameE r.f4 else qB3 rs
def qC5 (m : ByteArray) (vs fs : List ByteArray) (r : S104) : Bool :=
 if r.f3.toList = m.toList then (if r.f2 = 1 then !hasB vs r.f4 else if r.f2 = 2 then !hasB fs r.f4 else false) else decide (r.f2 = 1)
def qDf (m : ByteArray) (fns : List S92) (rs : List S104) (vs fs : List ByteArray) : Int :=
 if qBP rs (qB7 fns) = false then 52 else if ((qB7 fns).any fun p => qC4 fns p != 0) = true then 52
 else if qB3 rs ≠ 0 then qB3 rs else if rs.any (qC5 m vs fs) = true then 52 else 0
theorem relNames_step (l : List S104) (k : Nat) (x : S104) (hx : l[k]? = some x) (h : Names.nameE x.f3 = 0) (h2 : Names.nameE x.f4 = 0) : qB3 (l.drop k) = qB3 (l.drop (k + 1)) := by
 obtain ⟨hk, he⟩ := List.getElem?_eq_some_iff.1 hx
 rw [List.drop_eq_getElem_cons hk, he]
 simp only [qB3, h, h2, ne_eq, not_true_eq_false, if_false]
theorem relNames_hit1 (l : List S104) (k : Nat) (x : S104) (hx : l[k]? = some x) (h : Names.nameE x.f3 ≠ 0) : qB3 (l.drop k) = Names.nameE x.f3 := by
 obtain ⟨hk, he⟩ := List.getElem?_eq_some_iff.1 hx
 rw [List.drop_eq_getElem_cons hk, he]
 simp only [qB3]; rw [if_pos h]
theorem relNames_hit2 (l : List S104) (k : Nat) (x : S104) (hx : l[k]? = some x) (h : Names.nameE x.f3 = 0) (h2 : Names.nameE x.f4 ≠ 0) : qB3 (l.drop k) = Names.nameE x.f4 := by
 obtain ⟨hk, he⟩ := List.getElem?_eq_some_iff.1 hx
 rw [List.drop_eq_getElem_cons hk, he]
 simp only [qB3]; rw [if_neg (by simp [h]), if_pos h2]
theorem relNames_end (l : List S104) (k : Nat) (hk : l.length ≤ k) : qB3 (l.drop k) = 0 := by rw [List.drop_eq_nil_of_le hk]; rfl
theorem rd_in {α : Type} (l : List α) (d : α) (j : Nat) (x : α) (h : l[j]? = some x) : l.getD j d = x := by rw [List.getD_eq_getElem?_getD, h]; rfl
theorem placesL_in (fns : List S92) : ∀ p ∈ qB7 fns, placeIn fns p := by
 intro p hp
 obtain ⟨j, x, hj, h1, h2, h3⟩ := fnsP_in fns 0 p hp
 have hr : qAt fns p.f0 = x := by
  unfold qAt
  rw [show p.f0.toNat = j from by omega]; exact rd_in _ _ _ _ hj
 exact ⟨by omega, by have := (List.getElem?_eq_some_iff.1 hj).1; omega, h2, by rw [hr]; exact h3⟩
def qBI.f (a0_0 : ByteArray) (_l0_1 : List (S85)) (l0_2 : List (S92)) (l0_3 : List (S104)) (l1 : List ByteArray) (l2 : List ByteArray) : Option (Int) :=
 if l0_2.length ≤ 64 ∧ (∀ x ∈ l0_2, x.f1.f2.length ≤ 4096) ∧ l0_3.length ≤ 4611686018427387904 ∧ (∀ r ∈ l0_3, r.f3.size ≤ 140737488351232 ∧ r.f4.size ≤ 140737488351232) ∧ l1.length ≤ 4611686018427387904 ∧ l2.length ≤ 4611686018427387904
 then some (qDf a0_0 l0_2 l0_3 l1 l2) else none
theorem qBI.calls (a0_0 : ByteArray) (A0_1 : Option Addr) (c0_1 : Nat) (l0_1 : List (S85)) (A0_2 : Option Addr) (c0_2 : Nat) (l0_2 : List (S92)) (A0_3 : Option Addr) (c0_3 : Nat) (l0_3 : List (S104)) (A1 : Option Addr) (c1 : Nat) (l1 : List ByteArray) (A2 : Option Addr) (c2 : Nat) (l2 : List ByteArray) (r : Int) (w : World) (hr0_1 : Kd.C k85 w A0_1 l0_1.length l0_1) (hc0_1 : l0_1.length ≤ c0_1) (hr0_2 : Kd.C k92 w A0_2 l0_2.length l0_2) (hc0_2 : l0_2.length ≤ c0_2) (hr0_3 : Kd.C k104 w A0_3 l0_3.length l0_3) (hc0_3 : l0_3.length ≤ c0_3) (hr1 : Kd.C Kd.string w A1 l1.length l1) (hc1 : l1.length ≤ c1) (hr2 : Kd.C Kd.string w A2 l2.length l2) (hc2 : l2.length ≤ c2) (h : qBI.f a0_0 l0_1 l0_2 l0_3 l1 l2 = some r) :
  Calls Tryz.prog 34 #[.agg #[.string a0_0, .slice A0_1 l0_1.length c0_1, .slice A0_2 l0_2.length c0_2, .slice A0_3 l0_3.length c0_3], .slice A1 l1.length c1, .slice A2 l2.length c2] w fun e w' => e = .returned (.int .i64 r) ∧ Below w.heap.size w w' := by
 unfold qBI.f at h
 split at h
 case isFalse => cases h
 rename_i hs
 obtain ⟨hf64, hf4, hr62, hrs, hv62, hfl62⟩ := hs
 replace h := Option.some.inj h
 obtain ⟨kp, hkp⟩ := (places_ev a0_0 l0_1 l0_2 l0_3 hf64 hf4).rounds
 have hpl : (qB7 l0_2).length ≤ 4611686018427387904 := by have := fnsP_len l0_2 0 hf4; unfold qB7; omega
 obtain ⟨cs, hcs⟩ : ∃ cs : Array Value, cs = #[.string a0_0, .slice A0_1 l0_1.length c0_1, .slice A0_2 l0_2.length c0_2, .slice A0_3 l0_3.length c0_3] := ⟨_, rfl⟩
 obtain ⟨WA, hWA⟩ : ∃ WA, WA = w.alloc (.cells cs 33) := ⟨_, rfl⟩
 have hBA : Below w.heap.size w WA := hWA ▸ (Below.refl _ _).alloc (Nat.le_refl _) _
 have hgA : w.heap.size < WA.heap.size := by rw [hWA]; simp
 have k0 : WA.cell? ⟨w.heap.size, 0, none⟩ = some (.string a0_0) := by rw [hWA, World.cell?_alloc_at _ _ _ _ rfl, hcs]; rfl
 have k2 : WA.cell? ⟨w.heap.size, 2, none⟩ = some (.slice A0_2 l0_2.length c0_2) := by rw [hWA, World.cell?_alloc_at _ _ _ _ rfl, hcs]; rfl
 have k1 : WA.cell? ⟨w.heap.size, 1, none⟩ = some (.slice A0_1 l0_1.length c0_1) := by rw [hWA, World.cell?_alloc_at _ _ _ _ rfl, hcs]; rfl
 have k3 : WA.cell? ⟨w.heap.size, 3, none⟩ = some (.slice A0_3 l0_3.length c0_3) := by rw [hWA, World.cell?_alloc_at _ _ _ _ rfl, hcs]; rfl
 have HK0 := am k0
 have HK2 := am k2
 have HK3 := am k3
 have HP : qAa (Calls Tryz.prog 101 #[.agg #[.string a0_0, .slice A0_1 l0_1.length c0_1, .slice A0_2 l0_2.length c0_2, .slice A0_3 l0_3.length c0_3]] WA fun e w' => ∃ v0_ : Value, e = .returned (v0_) ∧ Kd.R k104 104 w' WA.heap.size (fun _ => True) v0_ (qB7 l0_2) ∧ Below WA.heap.size WA w') :=
  ⟨qA4.calls kp a0_0 A0_1 c0_1 l0_1 A0_2 c0_2 l0_2 A0_3 c0_3 l0_3 _ WA (Kd.C_below hr0_1 hBA) hc0_1 (Kd.C_below hr0_2 hBA) hc0_2 (Kd.C_below hr0_3 hBA) hc0_3 hkp⟩
 have HF : qAa (∀ (A : Option Addr) (c : Nat) W, Below WA.heap.size WA W → Kd.C k104 W A (qB7 l0_2).length (qB7 l0_2) → Calls Tryz.prog 103 #[.slice A0_3 l0_3.length c0_3, .slice A (qB7 l0_2).length c, .func (.func 102) #[] #[]] W fun e w' => e = .returned (.bool (qBP l0_3 (qB7 l0_2))) ∧ Below W.heap.size W w') :=
  ⟨fun A c W hW hC => eqf_any A0_3 A c0_3 c l0_3 (qB7 l0_2) W (Kd.C_below hr0_3 (qAw hBA hBA.size hW)) hC hr62⟩
 have HG : qAa (∀ (A : Option Addr) (c : Nat) W, Below WA.heap.size WA W → Kd.C k104 W A (qB7 l0_2).length (qB7 l0_2) → Calls Tryz.prog 104 #[.slice A (qB7 l0_2).length c, .func (.func 105) #[] #[.pointer (some ⟨w.heap.size, 0, none⟩)]] W fun e w' => e = .returned (.bool ((qB7 l0_2).any fun x => qC4 l0_2 x != 0)) ∧ Below W.heap.size W w') :=
  ⟨fun A c W hW hC => has_places w.heap.size l0_2 A0_2 c0_2 A c (qB7 l0_2) W ((hW.cell (p := ⟨w.heap.size, 2, none⟩) hgA).trans k2) (Kd.C_below hr0_2 (qAw hBA hBA.size hW)) hC hpl (placesL_in l0_2)⟩
 have HRL : qAa (Kd.C k104 WA A0_3 l0_3.length l0_3) := ⟨Kd.C_below hr0_3 hBA⟩
 have HV : qAa (∀ (s : ByteArray) W, Below WA.heap.size WA W → Calls Tryz.prog 92 #[.slice A1 l1.length c1, .string s] W fun e w' => e = .returned (.bool (hasB l1 s)) ∧ qAS W w') := ⟨fun s W hW => by
   obtain ⟨k, hk⟩ := (qDT l1 s hv62).rounds
   exact qAR.calls k A1 c1 l1 s _ W (Kd.C_below hr1 (qAw hBA hBA.size hW)) hc1 hk⟩
 have HW : qAa (∀ (s : ByteArray) W, Below WA.heap.size WA W → Calls Tryz.prog 92 #[.slice A2 l2.length c2, .string s] W fun e w' => e = .returned (.bool (hasB l2 s)) ∧ qAS W w') := ⟨fun s W hW => by
   obtain ⟨k, hk⟩ := (qDT l2 s hfl62).rounds
   exact qAR.calls k A2 c2 l2 s _ W (Kd.C_below hr2 (qAw hBA hBA.size hW)) hc2 hk⟩
 have HN : qAa (∀ (s : ByteArray) W, s.size ≤ 140737488351232 → Calls Tryz.prog 30 #[.string s] W fun e w' => e = .returned (.int .i64 (Names.nameE s)) ∧ qAS W w') := ⟨fun s W hs => qBz.calls s _ W (by unfold qBz.f; rw [if_pos hs])⟩
 have HRS := am hrs
 have HWA := am hWA
 obtain ⟨ne, hne⟩ : ∃ n, n = l0_3.length := ⟨_, rfl⟩
 obtain ⟨n1, hn1⟩ : ∃ n, n = l0_1.length := ⟨_, rfl⟩
 obtain ⟨n2, hn2⟩ : ∃ n, n = l0_2.length := ⟨_, rfl⟩
 obtain ⟨m1, hm1⟩ : ∃ n, n = l1.length := ⟨_, rfl⟩
 obtain ⟨m2, hm2⟩ : ∃ n, n = l2.length := ⟨_, rfl⟩
 obtain ⟨np, hnp⟩ : ∃ n, n = (qB7 l0_2).length := ⟨_, rfl⟩
 rw [← hne, ← hn1, ← hn2] at hcs HP
 rw [← hne] at HF HRL k3 HK3
 rw [← hnp] at HF HG
 rw [← hn2] at k2 HK2
 rw [← hn1] at k1
 rw [← hm1] at HV
 rw [← hm2] at HW
 rw [← hne, ← hn1, ← hn2, ← hm1, ← hm2]
 have HNE := am hne
 have HNP := am hnp
 have HBA := am hBA
 have HH := am h
 have hr62' : ne ≤ 4611686018427387904 := by omega
 clear hr0_1 hc0_1 hr0_2 hc0_2 hr0_3 hc0_3 hr1 hc1 hr2 hc2 hf64 hf4 hr62 hrs hv62 hfl62 hkp hpl hne hn1 hn2 hm1 hm2 hnp hBA h
 subst hcs
 clear hWA
 go_enter Tryz.func34, Tryz.ntmps34
 go_wp2_with fail
 rw [← HWA.out]
 go_wp2_with fail
 refine HP.out.mono ?_
 rintro e w1 ⟨v0, rfl, hR, hb1⟩
 obtain ⟨AP, cP, rfl⟩ := Kd.R_slice hR
 have HRP := am (Kd.R_reads hR)
 have HB1 := am hb1
 obtain ⟨AP', cP', hv, _, hC⟩ := Kd.R_reads hR
 injection hv with hv1 _ hv2
 subst hv1; subst hv2
 rw [← HNP.out] at hC ⊢
 have HC := am hC
 have q0 := (hb1.cell (p := ⟨w.heap.size, 0, none⟩) hgA).trans HK0.out
 have q3 := (hb1.cell (p := ⟨w.heap.size, 3, none⟩) hgA).trans HK3.out
 clear hR hb1 HP k0 k1 k2 k3 hC HRP
 go_wp2_with fail
 refine (HF.out AP cP _ HB1.out HC.out).mono ?_
 rintro e w2 ⟨rfl, hb⟩
 obtain ⟨b1, hb1⟩ : ∃ b, b = qBP l0_3 (qB7 l0_2) := ⟨_, rfl⟩
 rw [← hb1]
 have HQ1 := am hb1
 have HB2 := am (qAw HB1.out HB1.out.size hb)
 have HC2 := am (Kd.C_below HC.out hb)
 have e0 := (HB2.out.cell (p := ⟨w.heap.size, 0, none⟩) hgA).trans HK0.out
 have e3 := (HB2.out.cell (p := ⟨w.heap.size, 3, none⟩) hgA).trans HK3.out
 clear hb hb1 q0 q3 HC
 cases b1 with
 | false =>
  go_wp2
  go_ret
  refine ⟨?_, qAw HBA.out HBA.out.size HB2.out⟩
  rw [← HH.out]; unfold qDf; rw [if_pos HQ1.out.symm]; rfl
 | true =>
 go_wp2_with fail
 refine (HG.out AP cP _ HB2.out HC2.out).mono ?_
 rintro e w3 ⟨rfl, hb⟩
 obtain ⟨b2, hb2⟩ : ∃ b, b = (qB7 l0_2).any fun x => qC4 l0_2 x != 0 := ⟨_, rfl⟩
 rw [← hb2]
 have HQ2 := am hb2
 have HB3 := am (qAw HB2.out HB2.out.size hb)
 have g0 := (HB3.out.cell (p := ⟨w.heap.size, 0, none⟩) hgA).trans HK0.out
 have g3 := (HB3.out.cell (p := ⟨w.heap.size, 3, none⟩) hgA).trans HK3.out
 clear hb hb2 e0 e3 HC2 HF HG
 cases b2 with
 | true =>
  go_wp2
  go_ret
  refine ⟨?_, qAw HBA.out HBA.out.size HB3.out⟩
  have e1 := HQ1.out.symm; have e2 := HQ2.out.symm; rw [← HH.out]; unfold qDf; rw [e1, e2]; rfl
 | false =>
 have HH2 : qAa ((if qB3 l0_3 ≠ 0 then qB3 l0_3 else if l0_3.any (qC5 a0_0 l1 l2) = true then 52 else 0) = r) := ⟨by
   have e1 := HQ1.out.symm; have e2 := HQ2.out.symm; rw [← HH.out]; unfold qDf; rw [e1, e2]; rfl⟩
 clear HH HQ1 HQ2
 go_wp2_with fail
 go_loopg [10, 11, 12, 32] ne (fun gg _ _ _ s32 wr => ∃ kk : Nat, kk ≤ ne ∧ ne - kk ≤ gg ∧ s32 = .int .i64 kk ∧ qAa (qB3 (l0_3.drop kk) = qB3 l0_3) ∧ qAa (Below WA.heap.size WA wr))
 case atStart => exact ⟨0, Nat.zero_le _, by omega, rfl, ⟨rfl⟩, HB3⟩
 case round =>
  clear g0 g3 HB1 HB2 HB3
  obtain ⟨kk, hkk, hg, rfl, HA, HB⟩ := hrel
  by_cases hlt : kk < ne
  ·have hltz : (kk : Int) < (ne : Int) := by omega
   have h0 : (0 : Int) ≤ (kk : Int) := by omega
   obtain ⟨ad, ea, hx0, hx1, hx2, hx3, hx4⟩ := qDQ HRL.out (kk : Int) h0 hltz
   subst ea
   rw [Int.toNat_natCast] at hx0 hx1 hx2 hx3 hx4
   replace hx0 := (HB.out.cell (World.block_lt_of_cell? WA _ hx0)).trans hx0
   replace hx1 := (HB.out.cell (World.block_lt_of_cell? WA _ hx1)).trans hx1
   replace hx2 := (HB.out.cell (World.block_lt_of_cell? WA _ hx2)).trans hx2
   replace hx3 := (HB.out.cell (World.block_lt_of_cell? WA _ hx3)).trans hx3
   replace hx4 := (HB.out.cell (World.block_lt_of_cell? WA _ hx4)).trans hx4
   obtain ⟨x, hx⟩ : ∃ x, x = qC9 l0_3 (kk : Int) := ⟨_, rfl⟩
   rw [← hx] at hx0 hx1 hx2 hx3 hx4
   have HX : qAa (l0_3[kk]? = some x) := ⟨by rw [hx]; exact qCv l0_3 z104 kk (by have := HNE.out; omega)⟩
   clear hx
   have HS := am (HRS.out x (List.mem_of_getElem? HX.out))
   have HN1 := am (fun W => HN.out x.f3 W HS.out.1)
   have HN2 := am (fun W => HN.out x.f4 W HS.out.2)
   obtain ⟨z1, hz1⟩ : ∃ z, z = Names.nameE x.f3 := ⟨_, rfl⟩
   obtain ⟨z2, hz2⟩ : ∃ z, z = Names.nameE x.f4 := ⟨_, rfl⟩
   rw [← hz1] at HN1
   rw [← hz2] at HN2
   have HZ1 := am hz1
   have HZ2 := am hz2
   clear hz1 hz2
   go_wp2_with fail
   refine (HN1.out _).mono ?_
   rintro e w4 ⟨rfl, m1, rfl⟩
   by_cases c1 : z1 = 0
   case neg =>
    have c1' : (z1 != 0) = true := bne_iff_ne.mpr c1
    have HC1 := am c1
    clear c1
    go_wp2
    go_ret
    refine ⟨?_, qAw HBA.out HBA.out.size (qAw HB.out HB.out.size (qCP ((Below.refl _ _).alloc (Nat.le_refl _) _) _))⟩
    rw [← HH2.out, ← HA.out, relNames_hit1 _ _ _ HX.out (by rw [← HZ1.out]; exact HC1.out), ← HZ1.out, if_pos HC1.out]; rfl
   have c1' : (z1 != 0) = false := bne_eq_false_iff_eq.mpr c1
   have HC1 := am c1
   clear c1
   go_wp2_with fail
   refine (HN2.out _).mono ?_
   rintro e w4 ⟨rfl, m2, rfl⟩
   by_cases c2 : z2 = 0
   case neg =>
    have c2' : (z2 != 0) = true := bne_iff_ne.mpr c2
    have HC2 := am c2
    clear c2
    go_wp2
    go_ret
    refine ⟨?_, qAw HBA.out HBA.out.size (qAw HB.out HB.out.size (qCP ((Below.refl _ _).alloc (Nat.le_refl _) _) _))⟩
    rw [← HH2.out, ← HA.out, relNames_hit2 _ _ _ HX.out (by rw [← HZ1.out]; exact HC1.out) (by rw [← HZ2.out]; exact HC2.out), ← HZ2.out, if_pos HC2.out]; rfl
   have c2' : (z2 != 0) = false := bne_eq_false_iff_eq.mpr c2
   have HC2 := am c2
   clear c2
   go_wp2
   go_roundg (ne - (kk + 1))
   case measure => omega
   case rel => exact ⟨kk + 1, by omega, by omega, by go_num, ⟨by rw [← HA.out, relNames_step _ _ _ HX.out (by rw [← HZ1.out]; exact HC1.out) (by rw [← HZ2.out]; exact HC2.out)]⟩, ⟨qAw HB.out HB.out.size (qCP ((Below.refl _ _).alloc (Nat.le_refl _) _) _)⟩⟩
  have hltz : ¬ (kk : Int) < (ne : Int) := by omega
  have hkn : kk = ne := by omega
  have hz := relNames_end l0_3 kk (by rw [hkn]; exact Nat.le_of_eq HNE.out.symm)
  have HH3 : qAa ((if l0_3.any (qC5 a0_0 l1 l2) = true then 52 else 0) = r) := ⟨by
    rw [← HH2.out, ← HA.out, hz]; rfl⟩
  clear hz
  subst hkn
  obtain ⟨ne, rfl⟩ : ∃ ne, ne = kk := ⟨_, rfl⟩
  have f0 := (HB.out.cell (p := ⟨w.heap.size, 0, none⟩) hgA).trans HK0.out
  have f3 := (HB.out.cell (p := ⟨w.heap.size, 3, none⟩) hgA).trans HK3.out
  clear HA HH2
  go_wp2_with fail
  go_loopg [14, 15, 52] ne (fun gg _ _ s52 wr => ∃ k2 : Nat, k2 ≤ ne ∧ ne - k2 ≤ gg ∧ s52 = .int .i64 k2 ∧ qAa (∀ (j : Nat) x, j < k2 → l0_3[j]? = some x → qC5 a0_0 l1 l2 x = false) ∧ qAa (Below WA.heap.size WA wr))
  case atStart => exact ⟨0, Nat.zero_le _, by omega, rfl, ⟨fun j x hj => absurd hj (Nat.not_lt_zero _)⟩, HB⟩
  case round =>
   clear f0 f3 HB hkk hg
   obtain ⟨kk, hkk, hg, rfl, HA, HB⟩ := hrel
   have f0 := (HB.out.cell (p := ⟨w.heap.size, 0, none⟩) hgA).trans HK0.out
   have hgr : w.heap.size < wr.heap.size := Nat.lt_of_lt_of_le hgA HB.out.size
   by_cases hlt : kk < ne
   rotate_left
   ·have hltz : ¬ (kk : Int) < (ne : Int) := by omega
    have hkn : kk = ne := by omega
    go_wp2
    go_ret
    refine ⟨?_, qAw HBA.out HBA.out.size HB.out⟩
    rw [← HH3.out, qEW _ l0_3 fun j x hj => HA.out j x (by have := (List.getElem?_eq_some_iff.1 hj).1; have := HNE.out; omega) hj]; rfl
   have hltz : (kk : Int) < (ne : Int) := by omega
   have h0 : (0 : Int) ≤ (kk : Int) := by omega
   obtain ⟨ad, ea, hx0, hx1, hx2, hx3, hx4⟩ := qDQ HRL.out (kk : Int) h0 hltz
   subst ea
   rw [Int.toNat_natCast] at hx0 hx1 hx2 hx3 hx4
   replace hx0 := (HB.out.cell (World.block_lt_of_cell? WA _ hx0)).trans hx0
   replace hx1 := (HB.out.cell (World.block_lt_of_cell? WA _ hx1)).trans hx1
   replace hx2 := (HB.out.cell (World.block_lt_of_cell? WA _ hx2)).trans hx2
   replace hx3 := (HB.out.cell (World.block_lt_of_cell? WA _ hx3)).trans hx3
   replace hx4 := (HB.out.cell (World.block_lt_of_cell? WA _ hx4)).trans hx4
   obtain ⟨x, hx⟩ : ∃ x, x = qC9 l0_3 (kk : Int) := ⟨_, rfl⟩
   rw [← hx] at hx0 hx1 hx2 hx3 hx4
   have HX : qAa (l0_3[kk]? = some x) := ⟨by rw [hx]; exact qCv l0_3 z104 kk (by have := HNE.out; omega)⟩
   clear hx
   by_cases cO : x.f3.toList = a0_0.toList
   rotate_left
   ·have cO' : (x.f3.toList == a0_0.toList) = false := beq_eq_false_iff_ne.mpr cO
    have HO := am cO
    clear cO
    by_cases c1 : x.f2 = 1
    ·have c1' : (x.f2 == 1) = true := beq_iff_eq.mpr c1
     have HC1 := am c1
     clear c1
     go_wp2
     go_ret
     refine ⟨?_, qAw HBA.out HBA.out.size (qAw HB.out HB.out.size ((Below.refl _ _).alloc (Nat.le_refl _) _))⟩
     rw [← HH3.out, if_pos (qEx _ _ kk _ HX.out (by unfold qC5; rw [if_neg HO.out]; exact decide_eq_true HC1.out))]; rfl
    have c1' : (x.f2 == 1) = false := beq_eq_false_iff_ne.mpr c1
    have HC1 := am c1
    clear c1
    go_wp2
    go_roundg (ne - (kk + 1))
    case measure => omega
    case rel =>
     refine ⟨kk + 1, by omega, by omega, by go_num, ⟨fun j y hj hy => ?_⟩, ⟨qAw HB.out HB.out.size ((Below.refl _ _).alloc (Nat.le_refl _) _)⟩⟩
     by_cases e : j = kk
     rotate_left
     ·exact HA.out j y (by omega) hy
     subst e; rw [HX.out] at hy; injection hy with hy; subst hy; exact (by unfold qC5; rw [if_neg HO.out]; exact decide_eq_false HC1.out)
   have cO' : (x.f3.toList == a0_0.toList) = true := beq_iff_eq.mpr cO
   have HO := am cO
   clear cO
   by_cases c1 : x.f2 = 1
   ·have c1' : (x.f2 == 1) = true := beq_iff_eq.mpr c1
    have c2' : (x.f2 == 2) = false := beq_eq_false_iff_ne.mpr (by omega)
    have HC1 := am c1
    clear c1
    obtain ⟨b, hb⟩ : ∃ b, b = hasB l1 x.f4 := ⟨_, rfl⟩
    have HQ := am hb
    have HV1 := am (fun W hW => HV.out x.f4 W hW)
    rw [← hb] at HV1
    clear hb
    go_wp2_with fail
    refine (HV1.out _ (qAw HB.out HB.out.size ((Below.refl _ _).alloc (Nat.le_refl _) _))).mono ?_
    rintro e w4 ⟨rfl, m1, rfl⟩
    cases b with
    | false =>
     go_wp2
     go_ret
     refine ⟨?_, qAw HBA.out HBA.out.size (qAw HB.out HB.out.size (qCP ((Below.refl _ _).alloc (Nat.le_refl _) _) _))⟩
     rw [← HH3.out, if_pos (qEx _ _ kk _ HX.out (by unfold qC5; rw [if_pos HO.out, if_pos HC1.out, ← HQ.out]; rfl))]; rfl
    | true =>
     go_wp2
     go_roundg (ne - (kk + 1))
     case measure => omega
     case rel =>
      refine ⟨kk + 1, by omega, by omega, by go_num, ⟨fun j y hj hy => ?_⟩, ⟨qAw HB.out HB.out.size (qCP ((Below.refl _ _).alloc (Nat.le_refl _) _) _)⟩⟩
      by_cases e : j = kk
      rotate_left
      ·exact HA.out j y (by omega) hy
      subst e; rw [HX.out] at hy; injection hy with hy; subst hy; exact (by unfold qC5; rw [if_pos HO.out, if_pos HC1.out, ← HQ.out]; rfl)
   have c1' : (x.f2 == 1) = false := beq_eq_false_iff_ne.mpr c1
   have HC1 := am c1
   clear c1
   by_cases c2 : x.f2 = 2
   rotate_left
   ·have c2' : (x.f2 == 2) = false := beq_eq_false_iff_ne.mpr c2
    have HC2 := am c2
    clear c2
    go_wp2
    go_roundg (ne - (kk + 1))
    case measure => omega
    case rel =>
     refine ⟨kk + 1, by omega, by omega, by go_num, ⟨fun j y hj hy => ?_⟩, ⟨qAw HB.out HB.out.size ((Below.refl _ _).alloc (Nat.le_refl _) _)⟩⟩
     by_cases e : j = kk
     rotate_left
     ·exact HA.out j y (by omega) hy
     subst e; rw [HX.out] at hy; injection hy with hy; subst hy; exact (by unfold qC5; rw [if_pos HO.out, if_neg HC1.out, if_neg HC2.out])
   have c2' : (x.f2 == 2) = true := beq_iff_eq.mpr c2
   have HC2 := am c2
   clear c2
   obtain ⟨b, hb⟩ : ∃ b, b = hasB l2 x.f4 := ⟨_, rfl⟩
   have HQ := am hb
   have HW1 := am (fun W hW => HW.out x.f4 W hW)
   rw [← hb] at HW1
   clear hb
   go_wp2_with fail
   refine (HW1.out _ (qAw HB.out HB.out.size ((Below.refl _ _).alloc (Nat.le_refl _) _))).mono ?_
   rintro e w4 ⟨rfl, m1, rfl⟩
   cases b with
   | false =>
    go_wp2
    go_ret
    refine ⟨?_, qAw HBA.out HBA.out.size (qAw HB.out HB.out.size (qCP ((Below.refl _ _).alloc (Nat.le_refl _) _) _))⟩
    rw [← HH3.out, if_pos (qEx _ _ kk _ HX.out (by unfold qC5; rw [if_pos HO.out, if_neg HC1.out, if_pos HC2.out, ← HQ.out]; rfl))]; rfl
   | true =>
    go_wp2
    go_roundg (ne - (kk + 1))
    case measure => omega
    case rel =>
     refine ⟨kk + 1, by omega, by omega, by go_num, ⟨fun j y hj hy => ?_⟩, ⟨qAw HB.out HB.out.size (qCP ((Below.refl _ _).alloc (Nat.le_refl _) _) _)⟩⟩
     by_cases e : j = kk
     rotate_left
     ·exact HA.out j y (by omega) hy
     subst e; rw [HX.out] at hy; injection hy with hy; subst hy; exact (by unfold qC5; rw [if_pos HO.out, if_neg HC1.out, if_pos HC2.out, ← HQ.out]; rfl)
end Q
end
section
namespace Q
open Go.RowKit PA PC PB
def qBX.f (a0_0 : Int) (a0_1 : Int) : Option (Bool) := if 0 ≤ a0_1 ∧ a0_1 < 18446744073709551616 then some (Val.okV a0_0 a0_1) else none
theorem qBX.calls (a0_0 : Int) (a0_1 : Int) (r : Bool) (w : World) (h : qBX.f a0_0 a0_1 = some r) :
  Calls Tryz.prog 32 #[.agg #[.int .i64 a0_0, .int .u64 a0_1]] w fun e w' => e = .returned (.bool r) ∧ Below w.heap.size w w' := by
 unfold qBX.f at h
 split at h
 case isFalse => cases h
 rename_i hs
 obtain rfl := Option.some.inj h
 exact Val.right_any a0_0 a0_1 hs w
def qBD.f (a0_0 : Int) (a0_1 : Int) : Option (Bool) := if 0 ≤ a0_1 ∧ a0_1 < 18446744073709551616 then some (Val.okV a0_0 a0_1) else none
theorem qBD.calls (a0_0 : Int) (a0_1 : Int) (r : Bool) (w : World) (h : qBD.f a0_0 a0_1 = some r) :
  Calls Tryz.prog 37 #[.agg #[.int .i64 a0_0, .int .u64 a0_1]] w fun e w' => e = .returned (.bool r) ∧ Below w.heap.size w w' := by
 unfold qBD.f at h
 split at h
 case isFalse => cases h
 rename_i hs
 obtain rfl := Option.some.inj h
 exact Val.rright_any a0_0 a0_1 hs w
end Q
end
section
namespace Q
open Go.RowKit PA PC PB
attribute [local go_sem] qAX min2_int qBi min_two max_three min_three max_four min_four
def qB0.f (k : Nat) (a0 : ByteArray) (l1 : List ByteArray) : Option (Int) := (qBz.f a0).bind fun aA => (if aA = 0 then ((qAR.f k l1 a0).bind fun aB => (if aB = true then (some 20) else (some 0))) else (some aA))
theorem qB0.calls (k : Nat) (a0 : ByteArray) (A1 : Option Addr) (c1 : Nat) (l1 : List ByteArray) (r : Int) (w : World) (hr1 : Kd.C Kd.string w A1 l1.length l1) (hc1 : l1.length ≤ c1) (h : qB0.f k a0 l1 = some r) :
  Calls Tryz.prog 31 #[.string a0, .slice A1 l1.length c1] w fun e w' => e = .returned (.int .i64 r) ∧ qAS w w' := by
 have aG := am hr1
 have aF := am hc1
 clear hr1 hc1
 have H : ((qBz.f a0).bind fun aA => (if aA = 0 then ((qAR.f k l1 a0).bind fun aB => (if aB = true then (some 20) else (some 0))) else (some aA))) = some r := h
 clear h
 replace H := bm H
 obtain ⟨aA, aD, H⟩ := H
 replace H : (if aA = 0 then ((qAR.f k l1 a0).bind fun aB => (if aB = true then (some 20) else (some 0))) else (some aA)) = some r := H
 have A3 := am aD
 clear aD
 by_cases c4 : aA = 0
 ·rw [if_pos c4] at H
  have aC : (aA != 0) = false := bn c4
  clear c4
  replace H := bm H
  obtain ⟨aB, aE, H⟩ := H
  replace H : (if aB = true then (some 20) else (some 0)) = some r := H
  have A5 := am aE
  clear aE
  by_cases c6 : aB = true
  ·subst c6
   replace H : (some 20) = some r := by rw [if_pos rfl] at H; exact H
   obtain rfl := Option.some.inj H
   go_enter Tryz.func31, Tryz.ntmps31
   go_wp2_with (first | ((with_reducible refine qAi (f := 30) rfl ?_); refine gL 7 Tryz.func30 #[.string a0] ?_; (with_reducible refine (qBz.calls a0 aA _ A3.o).mono ?_); rintro e w' ⟨rfl, ⟨nd, rfl⟩⟩; refine ⟨_, rfl, ?_⟩) | ((with_reducible refine qAi (f := 92) rfl ?_); refine gL 13 Tryz.func92 #[.slice A1 l1.length c1, .string a0] ?_; (with_reducible refine (qAR.calls k _ _ l1 a0 true _ ?side1 ?side2 A5.o).mono ?_); (case side1 => exact aG.o); (case side2 => exact aF.o); rintro e w' ⟨rfl, ⟨nd, rfl⟩⟩; refine ⟨_, rfl, ?_⟩))
   go_ret
   exact ⟨by rfl, by repeat (first | exact qAS.refl _ | apply qAS.step)⟩
  ·replace c6 := Bool.eq_false_iff.mpr c6
   subst c6
   replace H : (some 0) = some r := by rw [if_neg (show ¬ (false = true) by decide)] at H; exact H
   obtain rfl := Option.some.inj H
   go_enter Tryz.func31, Tryz.ntmps31
   go_wp2_with (first | ((with_reducible refine qAi (f := 30) rfl ?_); refine gL 7 Tryz.func30 #[.string a0] ?_; (with_reducible refine (qBz.calls a0 aA _ A3.o).mono ?_); rintro e w' ⟨rfl, ⟨nd, rfl⟩⟩; refine ⟨_, rfl, ?_⟩) | ((with_reducible refine qAi (f := 92) rfl ?_); refine gL 13 Tryz.func92 #[.slice A1 l1.length c1, .string a0] ?_; (with_reducible refine (qAR.calls k _ _ l1 a0 false _ ?side1 ?side2 A5.o).mono ?_); (case side1 => exact aG.o); (case side2 => exact aF.o); rintro e w' ⟨rfl, ⟨nd, rfl⟩⟩; refine ⟨_, rfl, ?_⟩))
   go_ret
   exact ⟨by rfl, by repeat (first | exact qAS.refl _ | apply qAS.step)⟩
 ·rw [if_neg c4] at H
  have aC : (aA != 0) = true := bne_iff_ne.mpr c4
  obtain rfl := Option.some.inj H
  go_enter Tryz.func31, Tryz.ntmps31
  go_wp2_with ((with_reducible refine qAi (f := 30) rfl ?_); refine gL 7 Tryz.func30 #[.string a0] ?_; (with_reducible refine (qBz.calls a0 aA _ A3.o).mono ?_); rintro e w' ⟨rfl, ⟨nd, rfl⟩⟩; refine ⟨_, rfl, ?_⟩)
  go_ret
  exact ⟨by rfl, by repeat (first | exact qAS.refl _ | apply qAS.step)⟩
mutual
def qAB.l0 : Nat → List ByteArray → List (S85) → Int → Int → ByteArray → List (S85) → List (S92) → List (S104) → Option (Int)
 | 0, _, _, _, _, _, _, _, _ => none
 | k + 1, x4, cB, eY, bh, al, a4, ah, an => if bh < eY then (if 0 ≤ bh then (if bh < (cB.length : Int) then ((qB0.f k ((qBk cB bh).f0) x4).bind fun bA => (if bA = 0 then ((qBX.f ((qBk cB bh).f1.f0) ((qBk cB bh).f1.f1)).bind fun bR => (if bR = true then (if x4.length < 8796093022208 then (qAB.l0 k (x4 ++ [(qBk cB bh).f0]) cB eY (wrap64 (bh + 1)) al a4 ah an) else (none)) else (some 52))) else (some bA))) else (none)) else (none)) else (qAB.l1 k x4 ah (ah.length : Int) 0 al a4 ah an)
def qAB.l1 : Nat → List ByteArray → List (S92) → Int → Int → ByteArray → List (S85) → List (S92) → List (S104) → Option (Int)
 | 0, _, _, _, _, _, _, _, _ => none
 | k + 1, x4, bi, eZ, b2, al, a4, ah, an => if b2 < eZ then (if 0 ≤ b2 then (if b2 < (bi.length : Int) then ((qB0.f k ((qAt bi b2).f0) x4).bind fun bB => (if bB = 0 then ((qBG.f ((qAt bi b2).f1.f0.f0) ((qAt bi b2).f1.f0.f1) ((qAt bi b2).f1.f1) ((qAt bi b2).f1.f2)).bind fun bS => (if bS = true then (if x4.length < 8796093022208 then (qAB.l1 k (x4 ++ [(qAt bi b2).f0]) bi eZ (wrap64 (b2 + 1)) al a4 ah an) else (none)) else (some 52))) else (some bB))) else (none)) else (none)) else (if 0 ≤ (a4.length : Int) then (if (a4.length : Int) ≤ (x4.length : Int) then ((qBI.f al a4 ah an (x4.take ((a4.length : Int) : Int).toNat) (x4.drop ((a4.length : Int) : Int).toNat)).bind fun bK => (some bK)) else (none)) else (none))
end
def qAB.f (k : Nat) (a0_0 : ByteArray) (l0_1 : List (S85)) (l0_2 : List (S92)) (l0_3 : List (S104)) : Option (Int) := (qBz.f a0_0).bind fun ak => (if ak = 0 then (if (wrap64 ((l0_1.length : Int) + (l0_2.length : Int))) > 64 then (some 3) else (qAB.l0 k ([] : List ByteArray) l0_1 (l0_1.length : Int) 0 a0_0 l0_1 l0_2 l0_3)) else (some ak))
def qAB.T27 : Bool × List (List Nat × List Nat) := (true, [([], []), ([], []), ([], []), ([2], [2]), ([3], [3]), ([1, 4], [1, 4]), ([], []), ([], []), ([7], [7]), ([8], [8]), ([6, 9], [6, 9]), ([0, 5, 10], [0, 5, 10]), ([11, 11, 0, 1, 2, 3, 4, 5, 6, 7, 8, 9, 10, 11], [11])])
def qAB.B27 : List Nat := [0, 0, 0, 4, 12, 30, 0, 0, 128, 384, 960, 2047, 4095]
theorem qAB.tab27 : rtab .any (opsOf Tryz.f9 27) = qAB.T27 := by kernel_rfl
theorem qAB.bits27 : qCz qAB.T27.2 qAB.B27 = true := by kernel_rfl
theorem qAB.calls (k : Nat) (a0_0 : ByteArray) (au : Option Addr) (ap : Nat) (l0_1 : List (S85)) (av : Option Addr) (aq : Nat) (l0_2 : List (S92)) (ao : Option Addr) (ar : Nat) (l0_3 : List (S104)) (r : Int) (w : World) (hr0_1 : Kd.C k85 w au l0_1.length l0_1) (hc0_1 : l0_1.length ≤ ap) (hr0_2 : Kd.C k92 w av l0_2.length l0_2) (hc0_2 : l0_2.length ≤ aq) (hr0_3 : Kd.C k104 w ao l0_3.length l0_3) (hc0_3 : l0_3.length ≤ ar) (h : qAB.f k a0_0 l0_1 l0_2 l0_3 = some r) :
  Calls Tryz.prog 9 #[.agg #[.string a0_0, .slice au l0_1.length ap, .slice av l0_2.length aq, .slice ao l0_3.length ar]] w fun e w' => e = .returned (.int .i64 r) ∧ Below w.heap.size w w' := by
 have bN := am hr0_1
 have cJ := am hc0_1
 clear hr0_1 hc0_1
 have bO := am hr0_2
 have cK := am hc0_2
 clear hr0_2 hc0_2
 have cQ := am hr0_3
 have cL := am hc0_3
 clear hr0_3 hc0_3
 have HB := am (Below.refl w.heap.size w)
 have H : ((qBz.f a0_0).bind fun ak => (if ak = 0 then (if (wrap64 ((l0_1.length : Int) + (l0_2.length : Int))) > 64 then (some 3) else (qAB.l0 k ([] : List ByteArray) l0_1 (l0_1.length : Int) 0 a0_0 l0_1 l0_2 l0_3)) else (some ak))) = some r := h
 clear h
 replace H := bm H
 obtain ⟨ak, eM, H⟩ := H
 replace H : (if ak = 0 then (if (wrap64 ((l0_1.length : Int) + (l0_2.length : Int))) > 64 then (some 3) else (qAB.l0 k ([] : List ByteArray) l0_1 (l0_1.length : Int) 0 a0_0 l0_1 l0_2 l0_3)) else (some ak)) = some r := H
 have A2 := am eM
 clear eM
 by_cases c3 : ak = 0
 ·rw [if_pos c3] at H
  have dx : (ak == 0) = true := beq_iff_eq.mpr c3
  have c0 : (ak != 0) = false := bn c3
  clear c3
  by_cases c4 : (wrap64 ((l0_1.length : Int) + (l0_2.length : Int))) > 64
  ·rw [if_pos c4] at H
   replace c4 := d1 c4
   obtain rfl := Option.some.inj H
   go_enter Tryz.func9, Tryz.ntmps9
   go_wp2_with (first | ((with_reducible refine qAK (N := 1) rfl ?_); refine bx 1 #[.string a0_0, .slice au l0_1.length ap, .slice av l0_2.length aq, .slice ao l0_3.length ar] 33 ?_; intro aZ hg w5 hbox hb; have n_ := a2 (qAe HB.o hb) (am (hbox)); clear HB; obtain ⟨HB, aD⟩ := n_; clear hb hbox hg; obtain ⟨eG, eH, eI⟩ := c3_ w5 aD.o; have eJ := qAx aD.o 3) | ((with_reducible refine qAi (f := 30) rfl ?_); refine gL 13 Tryz.func30 #[.string a0_0] ?_; (with_reducible refine (qBz.calls a0_0 ak _ A2.o).mono ?_); rintro e w' ⟨rfl, ⟨nd, rfl⟩⟩; refine ⟨_, rfl, ?_⟩))
   go_ret
   exact ⟨by rfl, by repeat (with_reducible first | exact HB.o | apply qAl)⟩
  ·rw [if_neg c4] at H
   replace c4 := d0 c4
   have H' := am H
   clear H
   go_enter Tryz.func9, Tryz.ntmps9
   go_wp2_with (first | ((with_reducible refine qAK (N := 1) rfl ?_); refine bx 1 #[.string a0_0, .slice au l0_1.length ap, .slice av l0_2.length aq, .slice ao l0_3.length ar] 33 ?_; intro aZ hg w7 hbox hb; have n_ := a2 (qAe HB.o hb) (am (hbox)); clear HB; obtain ⟨HB, aD⟩ := n_; clear hb hbox hg; obtain ⟨bl, bo, bp, bq⟩ := c4_ w7 aD.o; obtain ⟨br, bs, bu, bw⟩ := z4_ aD.o) | ((with_reducible refine qAi (f := 30) rfl ?_); refine gL 13 Tryz.func30 #[.string a0_0] ?_; (with_reducible refine (qBz.calls a0_0 ak _ A2.o).mono ?_); rintro e w' ⟨rfl, ⟨nd, rfl⟩⟩; refine ⟨_, rfl, ?_⟩))
   go_loopg [4, 28] k (fun kq v4 e5 w' => ∃ (a6 : List ByteArray) (aC : Int), e5 = .int .i64 aC ∧ qAa (qAB.l0 kq a6 l0_1 (l0_1.length : Int) aC a0_0 l0_1 l0_2 l0_3 = some r) ∧ qAa (kq ≤ k) ∧ qAa (Kd.R Kd.string 9 w' w.heap.size (fun _ => True) v4 a6) ∧ qAa (w'.heap[aZ]? = some (.cells #[.string a0_0, (.slice au l0_1.length ap), (.slice av l0_2.length aq), (.slice ao l0_3.length ar)] 33 (0, 0))) ∧ qAa (Below w.heap.size w w'))
   case atStart => exact ⟨([] : List ByteArray), (0), (by rfl), H', ⟨Nat.le_refl _⟩, ⟨by (exact Kd.R_nil _ _ _ _ _)⟩, ⟨by (with_reducible repeat (refine qBr ?_ _)); exact aD.o⟩, ⟨by repeat (with_reducible first | exact HB.o | apply qAl)⟩⟩
   case round =>
    clear H'
    obtain ⟨a6, aC, rfl, HA, cl, aE, aD, HB⟩ := hrel
    cases gk with
    | zero => exact absurd HA.o (by simp [qAB.l0])
    | succ k1 =>
     have H := HA.o
     clear HA
     simp only [qAB.l0] at H
     by_cases c9 : aC < (l0_1.length : Int)
     ·rw [if_pos c9] at H
      replace c9 := d1 c9
      obtain ⟨c10, H⟩ := gd H
      replace c10 := d1 c10
      obtain ⟨cm, H⟩ := gd H
      replace cm := d1 cm
      replace H := bm H
      obtain ⟨bA, cC, H⟩ := H
      replace H : (if bA = 0 then ((qBX.f ((qBk l0_1 aC).f1.f0) ((qBk l0_1 aC).f1.f1)).bind fun bR => (if bR = true then (if a6.length < 8796093022208 then (qAB.l0 k1 (a6 ++ [(qBk l0_1 aC).f0]) l0_1 (l0_1.length : Int) (wrap64 (aC + 1)) a0_0 l0_1 l0_2 l0_3) else (none)) else (some 52))) else (some bA)) = some r := H
      have dq := am cC
      clear cC
      by_cases cV : bA = 0
      rotate_left
      ·rw [if_neg cV] at H
       have cW : (bA != 0) = true := bne_iff_ne.mpr cV
       obtain rfl := Option.some.inj H
       have aw : 0 ≤ aC := od (by assumption)
       have ay : aC < (l0_1.length : Int) := od (by assumption)
       obtain ⟨bP, bW, aM, aN, aQ⟩ := at_T85 bN.o aC aw ay
       cases bW
       replace aM := (HB.o.cell (World.block_lt_of_cell? w _ aM)).trans aM
       replace aN := (HB.o.cell (World.block_lt_of_cell? w _ aN)).trans aN
       replace aQ := (HB.o.cell (World.block_lt_of_cell? w _ aQ)).trans aQ
       replace aw := eq_true aw
       replace ay := eq_true ay
       go_wp2_with (first | ((with_reducible refine qAK (N := 6) rfl ?_); refine bx 6 #[.string ⟨#[]⟩, .int .i64 0, .int .u64 0] 85 ?_; intro aI hg ea hbox hb; have n_ := a2 (Kd.R_below aE.o hb) (a2 (qAe HB.o hb) (a2 (hbox) (am (by rw [hg]; exact (qAf HB.o) : w.heap.size ≤ aI)))); clear aE aD HB; obtain ⟨aE, HB, aJ, bJ⟩ := n_; clear hb hbox hg; obtain ⟨dC, dD, dE⟩ := c3_ ea aJ.o; obtain ⟨d5, d6, d7⟩ := z3_ aJ.o; obtain ⟨du, cf, eA⟩ := Kd.R_slice aE.o; subst eA) | ((with_reducible refine qAi (f := 31) rfl ?_); refine gL 35 Tryz.func31 #[.string ((qBk l0_1 aC).f0), .slice du a6.length cf] ?_; (with_reducible refine (qB0.calls k1 ((qBk l0_1 aC).f0) _ _ a6 bA _ ?side1 ?side2 dq.o).mono ?_); (case side1 => refine (Kd.R_reads' (e := 9) (base := w.heap.size) (ok := fun k_ => True) (n := a6.length) (c := cf) ?_).2.2; exact (by exact (Kd.R_mono (Kd.R_far (p := ⟨aI, 2, none⟩) (Kd.R_far (p := ⟨aI, 1, none⟩) (Kd.R_far (p := ⟨aI, 0, none⟩) (Kd.R_types aE.o aJ.o (by decide)) (fun _ hk => hk.2) (.string ((qBk l0_1 aC).f0))) (fun _ hk => hk.2) (.int .i64 ((qBk l0_1 aC).f1.f0))) (fun _ hk => hk.2) (.int .u64 ((qBk l0_1 aC).f1.f1))) (fun _ h_ => h_.1)))); (case side2 => exact (Kd.R_reads' aE.o).2.1); rintro e w' ⟨rfl, ⟨nd, rfl⟩⟩; refine ⟨_, rfl, ?_⟩))
       go_ret
       exact ⟨by rfl, by repeat (with_reducible first | exact HB.o | apply qAl | refine qA1 ?_ bJ.o)⟩
      rw [if_pos cV] at H
      have cW : (bA != 0) = false := bn cV
      clear cV
      replace H := bm H
      obtain ⟨bR, cD, H⟩ := H
      replace H : (if bR = true then (if a6.length < 8796093022208 then (qAB.l0 k1 (a6 ++ [(qBk l0_1 aC).f0]) l0_1 (l0_1.length : Int) (wrap64 (aC + 1)) a0_0 l0_1 l0_2 l0_3) else (none)) else (some 52)) = some r := H
      have eL := am cD
      clear cD
      by_cases cn : bR = true
      rotate_left
      ·replace cn := Bool.eq_false_iff.mpr cn
       subst cn
       replace H : (some 52) = some r := by rw [if_neg (show ¬ (false = true) by decide)] at H; exact H
       obtain rfl := Option.some.inj H
       have aw : 0 ≤ aC := od (by assumption)
       have ay : aC < (l0_1.length : Int) := od (by assumption)
       obtain ⟨bP, bW, aM, aN, aQ⟩ := at_T85 bN.o aC aw ay
       cases bW
       replace aM := (HB.o.cell (World.block_lt_of_cell? w _ aM)).trans aM
       replace aN := (HB.o.cell (World.block_lt_of_cell? w _ aN)).trans aN
       replace aQ := (HB.o.cell (World.block_lt_of_cell? w _ aQ)).trans aQ
       replace aw := eq_true aw
       replace ay := eq_true ay
       go_wp2_with (first | ((with_reducible refine qAK (N := 6) rfl ?_); refine bx 6 #[.string ⟨#[]⟩, .int .i64 0, .int .u64 0] 85 ?_; intro aI hg e9 hbox hb; have n_ := a2 (Kd.R_below aE.o hb) (a2 (qAk aD.o hb) (a2 (qAe HB.o hb) (a2 (hbox) (a2 (by rw [hg]; exact (qAf HB.o) : w.heap.size ≤ aI) (am (by rw [hg]; exact Nat.ne_of_lt (qBd aD.o) : aZ ≠ aI)))))); clear aE aD HB; obtain ⟨aE, aD, HB, aJ, bJ, aj⟩ := n_; clear hb hbox hg; obtain ⟨cz, dA, dB⟩ := c3_ e9 aJ.o; obtain ⟨d2, d3, d4⟩ := z3_ aJ.o; obtain ⟨dt, ce, dz⟩ := Kd.R_slice aE.o; subst dz) | ((with_reducible refine qAi (f := 31) rfl ?_); refine gL 35 Tryz.func31 #[.string ((qBk l0_1 aC).f0), .slice dt a6.length ce] ?_; (with_reducible refine (qB0.calls k1 ((qBk l0_1 aC).f0) _ _ a6 bA _ ?side1 ?side2 dq.o).mono ?_); (case side1 => refine (Kd.R_reads' (e := 9) (base := w.heap.size) (ok := fun k_ => True) (n := a6.length) (c := ce) ?_).2.2; exact (by exact (Kd.R_mono (Kd.R_far (p := ⟨aI, 2, none⟩) (Kd.R_far (p := ⟨aI, 1, none⟩) (Kd.R_far (p := ⟨aI, 0, none⟩) (Kd.R_types aE.o aJ.o (by decide)) (fun _ hk => hk.2) (.string ((qBk l0_1 aC).f0))) (fun _ hk => hk.2) (.int .i64 ((qBk l0_1 aC).f1.f0))) (fun _ hk => hk.2) (.int .u64 ((qBk l0_1 aC).f1.f1))) (fun _ h_ => h_.1)))); (case side2 => exact (Kd.R_reads' aE.o).2.1); rintro e w' ⟨rfl, ⟨nd, rfl⟩⟩; refine ⟨_, rfl, ?_⟩) | ((with_reducible refine qAi (f := 32) rfl ?_); refine gL 41 Tryz.func32 #[.agg #[.int .i64 ((qBk l0_1 aC).f1.f0), .int .u64 ((qBk l0_1 aC).f1.f1)]] ?_; (with_reducible refine (qBX.calls ((qBk l0_1 aC).f1.f0) ((qBk l0_1 aC).f1.f1) false _ eL.o).mono ?_); rintro e eh ⟨rfl, hb⟩; refine ⟨_, rfl, ?_⟩; have n_ := am (qAe (by repeat (with_reducible first | exact HB.o | apply qAl | refine qA1 ?_ bJ.o)) hb); clear aE aD aJ HB; have HB := n_; clear n_; (skip)))
       go_ret
       exact ⟨by rfl, by exact HB.o⟩
      subst cn
      replace H : (if a6.length < 8796093022208 then (qAB.l0 k1 (a6 ++ [(qBk l0_1 aC).f0]) l0_1 (l0_1.length : Int) (wrap64 (aC + 1)) a0_0 l0_1 l0_2 l0_3) else (none)) = some r := by rw [if_pos rfl] at H; exact H
      obtain ⟨co, H⟩ := gd H
      have cR := am co
      clear co
      obtain ⟨cj, bY⟩ : ∃ y_ : List ByteArray, y_ = (a6 ++ [(qBk l0_1 aC).f0]) := ⟨_, rfl⟩
      replace H : (qAB.l0 k1 cj l0_1 (l0_1.length : Int) (wrap64 (aC + 1)) a0_0 l0_1 l0_2 l0_3) = some r := by (rw [bY]; with_reducible exact H)
      have cT := am bY
      clear bY
      have H' := am H
      clear H
      have aw : 0 ≤ aC := od (by assumption)
      have ay : aC < (l0_1.length : Int) := od (by assumption)
      obtain ⟨bP, bW, aM, aN, aQ⟩ := at_T85 bN.o aC aw ay
      cases bW
      replace aM := (HB.o.cell (World.block_lt_of_cell? w _ aM)).trans aM
      replace aN := (HB.o.cell (World.block_lt_of_cell? w _ aN)).trans aN
      replace aQ := (HB.o.cell (World.block_lt_of_cell? w _ aQ)).trans aQ
      replace aw := eq_true aw
      replace ay := eq_true ay
      go_wp2_with (first | ((with_reducible refine qAK (N := 6) rfl ?_); refine bx 6 #[.string ⟨#[]⟩, .int .i64 0, .int .u64 0] 85 ?_; intro aI hg e7 hbox hb; have n_ := a2 (Kd.R_below aE.o hb) (a2 (qAk aD.o hb) (a2 (qAe HB.o hb) (a2 (hbox) (a2 (by rw [hg]; exact (qAf HB.o) : w.heap.size ≤ aI) (am (by rw [hg]; exact Nat.ne_of_lt (qBd aD.o) : aZ ≠ aI)))))); clear aE aD HB; obtain ⟨aE, aD, HB, aJ, bJ, aj⟩ := n_; clear hb hbox hg; obtain ⟨cv, cw, cx⟩ := c3_ e7 aJ.o; obtain ⟨dW, dX, dY⟩ := z3_ aJ.o; obtain ⟨cH, bj, dy⟩ := Kd.R_slice aE.o; subst dy) | ((with_reducible refine qAi (f := 31) rfl ?_); refine gL 35 Tryz.func31 #[.string ((qBk l0_1 aC).f0), .slice cH a6.length bj] ?_; (with_reducible refine (qB0.calls k1 ((qBk l0_1 aC).f0) _ _ a6 bA _ ?side1 ?side2 dq.o).mono ?_); (case side1 => refine (Kd.R_reads' (e := 9) (base := w.heap.size) (ok := fun k_ => True) (n := a6.length) (c := bj) ?_).2.2; exact (by exact (Kd.R_mono (Kd.R_far (p := ⟨aI, 2, none⟩) (Kd.R_far (p := ⟨aI, 1, none⟩) (Kd.R_far (p := ⟨aI, 0, none⟩) (Kd.R_types aE.o aJ.o (by decide)) (fun _ hk => hk.2) (.string ((qBk l0_1 aC).f0))) (fun _ hk => hk.2) (.int .i64 ((qBk l0_1 aC).f1.f0))) (fun _ hk => hk.2) (.int .u64 ((qBk l0_1 aC).f1.f1))) (fun _ h_ => h_.1)))); (case side2 => exact (Kd.R_reads' aE.o).2.1); rintro e w' ⟨rfl, ⟨nd, rfl⟩⟩; refine ⟨_, rfl, ?_⟩) | ((with_reducible refine qAi (f := 32) rfl ?_); refine gL 41 Tryz.func32 #[.agg #[.int .i64 ((qBk l0_1 aC).f1.f0), .int .u64 ((qBk l0_1 aC).f1.f1)]] ?_; (with_reducible refine (qBX.calls ((qBk l0_1 aC).f1.f0) ((qBk l0_1 aC).f1.f1) true _ eL.o).mono ?_); rintro e e8 ⟨rfl, hb⟩; refine ⟨_, rfl, ?_⟩; have n_ := a2 (Kd.R_below (by (with_reducible repeat (apply Kd.R_drewN)); exact (Kd.R_mono (Kd.R_far (p := ⟨aI, 2, none⟩) (Kd.R_far (p := ⟨aI, 1, none⟩) (Kd.R_far (p := ⟨aI, 0, none⟩) (Kd.R_types aE.o aJ.o (by decide)) (fun _ hk => hk.2) (.string ((qBk l0_1 aC).f0))) (fun _ hk => hk.2) (.int .i64 ((qBk l0_1 aC).f1.f0))) (fun _ hk => hk.2) (.int .u64 ((qBk l0_1 aC).f1.f1))) (fun _ h_ => h_.1))) hb) (a2 (qAk (g := aZ) (o := .cells #[.string a0_0, .slice (some bP) l0_1.length ap, .slice av l0_2.length aq, .slice ao l0_3.length ar] 33 (0, 0)) (by (with_reducible repeat (refine qBr ?_ _)); refine qA2 ?_ aj.o _; refine qA2 ?_ aj.o _; refine qA2 ?_ aj.o _; exact aD.o) hb) (a2 (qAk (g := aI) (o := .cells #[.string ((qBk l0_1 aC).f0), .int .i64 ((qBk l0_1 aC).f1.f0), .int .u64 ((qBk l0_1 aC).f1.f1)] 85 (0, 0)) (by (with_reducible repeat (refine qBr ?_ _)); refine qA5 (cs := #[.string ((qBk l0_1 aC).f0), .int .i64 ((qBk l0_1 aC).f1.f0), .int .u64 0]) ?_ 2 _ rfl; refine qA5 (cs := #[.string ((qBk l0_1 aC).f0), .int .i64 0, .int .u64 0]) ?_ 1 _ rfl; refine qA5 (cs := #[.string ⟨#[]⟩, .int .i64 0, .int .u64 0]) ?_ 0 _ rfl; exact aJ.o) hb) (am (qAe (by repeat (with_reducible first | exact HB.o | apply qAl | refine qA1 ?_ bJ.o)) hb)))); clear aE aD aJ HB; obtain ⟨aE, aD, aJ, HB⟩ := n_; have cy := c1_ e8 aJ.o; have dZ := qAx aJ.o 2) | ((with_reducible refine qAP (b := .append) (xs := #[.tmp 43, .tmp 46]) rfl ?_); at_builtin; refine Kd.R_append Kd.string (w0 := w) w.heap.size rfl (.tmp 43) (.tmp 46) 80 9 (.string ⟨#[]⟩) 16 rfl Tryz.underlying80 info9 rfl (by decide) (by omega) (.slice cH a6.length bj) a6 ((qBk l0_1 aC).f0) [.string ((qBk l0_1 aC).f0)] (fun _ => True) (fun _ => False) rfl rfl ?aP (fun _ hk => hk.elim) ?aF ?aO ?aB ?aS ?aL ?_; (case aP => exact rfl); (case aB => exact HB.o); (case aF => exact (fun _ _ => trivial)); (case aO => exact aE.o); (case aS => exact (qAf HB.o)); (case aL => have := cR.o; omega); intro e3 eg ho hb hg eF; rw [← cT.o] at ho; have n_ := a2 (qAI (g := aZ) (o := .cells #[.string a0_0, .slice (some bP) l0_1.length ap, .slice av l0_2.length aq, .slice ao l0_3.length ar] 33 (0, 0)) aD.o hg (Kd.R_ne aE.o aD.o (by decide))) (a2 (hb) (am (ho))); clear aD aJ HB aE; obtain ⟨aD, HB, cO⟩ := n_; clear ho hb hg eF))
      go_roundg k1
      case measure => have := cl.o; omega
      case rel => exact ⟨(cj), (wrap64 (aC + 1)), (by rfl), H', ⟨by have := cl.o; omega⟩, ⟨by exact cO.o⟩, ⟨by exact aD.o⟩, ⟨by exact HB.o⟩⟩
     rw [if_neg c9] at H
     replace c9 := d0 c9
     have H' := am H
     clear H
     obtain ⟨b3, b4, b5, b6⟩ := c4_ wr aD.o
     obtain ⟨b7, b8, b9, ba⟩ := z4_ aD.o
     go_wp2
     go_loopg [4, 52] k1 (fun kq v4 e6 w' => ∃ (aH : List ByteArray) (aA : Int), e6 = .int .i64 aA ∧ qAa (qAB.l1 kq aH l0_2 (l0_2.length : Int) aA a0_0 l0_1 l0_2 l0_3 = some r) ∧ qAa (kq ≤ k1) ∧ qAa (Kd.R Kd.string 9 w' w.heap.size (fun _ => True) v4 aH) ∧ qAa (w'.heap[aZ]? = some (.cells #[.string a0_0, (.slice au l0_1.length ap), (.slice av l0_2.length aq), (.slice ao l0_3.length ar)] 33 (0, 0))) ∧ qAa (Below w.heap.size w w'))
     case atStart => exact ⟨(a6), (0), (by rfl), H', ⟨Nat.le_refl _⟩, ⟨by exact aE.o⟩, ⟨by exact aD.o⟩, ⟨by exact HB.o⟩⟩
     case round =>
      clear H'
      obtain ⟨aH, aA, rfl, HA, eP, aE, aD, HB⟩ := hrel
      cases gk with
      | zero => exact absurd HA.o (by simp [qAB.l1])
      | succ k2 =>
       have H := HA.o
       clear HA
       simp only [qAB.l1] at H
       by_cases cA : aA < (l0_2.length : Int)
       rotate_left
       ·rw [if_neg cA] at H
        replace cA := d0 cA
        obtain ⟨cc, H⟩ := gd H
        have eU := eq_true cc
        replace cc := d1 cc
        obtain ⟨cu, H⟩ := gd H
        replace cu := d1 cu
        obtain ⟨bT, bZ⟩ : ∃ y_ : List ByteArray, y_ = (aH.take ((l0_1.length : Int) : Int).toNat) := ⟨_, rfl⟩
        replace H : ((qBI.f a0_0 l0_1 l0_2 l0_3 bT (aH.drop ((l0_1.length : Int) : Int).toNat)).bind fun bK => (some bK)) = some r := by (rw [bZ]; with_reducible exact H)
        have bb := am bZ
        clear bZ
        obtain ⟨bL, b0⟩ : ∃ y_ : List ByteArray, y_ = (aH.drop ((l0_1.length : Int) : Int).toNat) := ⟨_, rfl⟩
        replace H : ((qBI.f a0_0 l0_1 l0_2 l0_3 bT bL).bind fun bK => (some bK)) = some r := by (rw [b0]; with_reducible exact H)
        have bc := am b0
        clear b0
        replace H := bm H
        obtain ⟨bK, cG, H⟩ := H
        replace H : (some bK) = some r := H
        have e0 := am cG
        clear cG
        obtain rfl := Option.some.inj H
        try go_wp2
        have n_ := a2 (Kd.R_drew aE.o) (a2 (qBF aD.o) (am (qAM HB.o)))
        clear aE aD HB
        obtain ⟨aE, aD, HB⟩ := n_
        obtain ⟨bM, bI, eE⟩ := Kd.R_slice aE.o
        (subst eE)
        have e1 : ((l0_1.length : Int) : Int) ≤ ((aH.length : Int) : Int) := od (by assumption)
        obtain ⟨i064, bd, _, hsz64, _⟩ := info_parts info9
        have hroom64 : aH.length ≤ bI := (Kd.R_reads' aE.o).2.1
        have hC64 : Kd.C Kd.string _ bM aH.length aH := (Kd.R_reads' aE.o).2.2
        have hcut64 := cut_to (P := Tryz.prog) 80 9 .i64 Tryz.underlying80 bd bM aH.length bI (l0_1.length : Int) (od (by assumption)) e1 hroom64
        have hr64 := Kd.C_take (m := ((l0_1.length : Int) : Int).toNat) hC64 (by omega)
        have ci : bT.length = ((l0_1.length : Int) : Int).toNat := (by rw [bb.o, List.length_take]; omega)
        rw [← bb.o] at hr64
        rw [← ci] at hcut64
        have bU := am hr64
        have cM := am (show bT.length ≤ bI from by omega)
        clear hr64 hC64 hroom64 bd hsz64 ci
        have e2 : ((l0_1.length : Int) : Int) ≤ ((aH.length : Int) : Int) := od (by assumption)
        obtain ⟨i066, bg, _, hsz66, _⟩ := info_parts info9
        have hroom66 : aH.length ≤ bI := (Kd.R_reads' aE.o).2.1
        have hC66 : Kd.C Kd.string _ bM aH.length aH := (Kd.R_reads' aE.o).2.2
        have eK : (0 : Int) ≤ ((l0_1.length : Int) : Int) := od (by assumption)
        have hcut66 := cut_from (P := Tryz.prog) 80 9 .i64 Tryz.underlying80 bg 1 hsz66 bM aH.length bI (l0_1.length : Int) eK e2
        have hr66 := Kd.C_drop (m := ((l0_1.length : Int) : Int).toNat) (c := bI) hC66 (by omega) hroom66
        obtain ⟨eO, hA66⟩ : ∃ A1, A1 = (if bI = ((l0_1.length : Int) : Int).toNat then bM else (bM : Option Addr).map (·.add (((l0_1.length : Int) : Int).toNat * 1))) := ⟨_, rfl⟩
        obtain ⟨eX, hc66⟩ : ∃ c1, c1 = bI - ((l0_1.length : Int) : Int).toNat := ⟨_, rfl⟩
        have bz : bL.length = aH.length - ((l0_1.length : Int) : Int).toNat := (by rw [bc.o, List.length_drop] <;> omega)
        rw [show (aH).drop ((l0_1.length : Int) : Int).toNat = bL from bc.o.symm] at hr66
        replace hr66 : Kd.C Kd.string _ eO bL.length bL := (by rw [hA66]; exact hr66)
        rw [← bz, ← hA66, ← hc66] at hcut66
        have bV := am hr66
        have cN := am (show bL.length ≤ eX from by rw [bz, hc66]; exact Nat.sub_le_sub_right hroom66 _)
        clear hr66 hC66 hroom66 bg hsz66 hc66 bz hA66
        refine qEs (n := 13) (S := fun w' => w'.cell? ⟨aZ, 0, none⟩ = some (.string a0_0) ∧ w'.cell? ⟨aZ, 1, none⟩ = some (.slice au l0_1.length ap) ∧ w'.cell? ⟨aZ, 2, none⟩ = some (.slice av l0_2.length aq) ∧ w'.cell? ⟨aZ, 3, none⟩ = some (.slice ao l0_3.length ar)) (ds := []) (mK 13 0) (by kernel_rfl) rfl rfl (c4_ _ aD.o) (fun hHeld => ?_); refine qCs qAB.tab27 qAB.bits27 (fun HT_ HW_ => ?_)
        generalize wr.drew = ek at aE aD HB bU bV hHeld ⊢
        refine pu 1 74 (mK 13 2) (qBc HT_.o (by kernel_rfl)) ?_
        refine pu 2 75 (mK 13 6) (qBc HT_.o (by kernel_rfl)) ?_
        refine pu 6 79 (mK 13 70) (qBc HT_.o (by kernel_rfl)) ?_
        refine pu 7 80 (mK 13 198) (qBc HT_.o (by kernel_rfl)) ?_
        refine tk 0 73 (mK 13 199) (qBw HT_.o HW_.o (by kernel_rfl)) hHeld ?_
        refine tk 3 76 (mK 13 207) (qBw HT_.o HW_.o (by kernel_rfl)) hHeld ?_
        refine pu 4 77 (mK 13 223) (qBc HT_.o (by kernel_rfl)) ?_
        refine pu 5 78 (mK 13 255) (qBc HT_.o (by kernel_rfl)) ?_
        refine tk 8 81 (mK 13 511) (qBw HT_.o HW_.o (by kernel_rfl)) hHeld ?_
        refine pu 9 82 (mK 13 1023) (qBc HT_.o (by kernel_rfl)) ?_
        refine pu 10 83 (mK 13 2047) (qBc HT_.o (by kernel_rfl)) ?_
        refine one_ (i := 11) (N := some 84) (mK 13 4095) rfl rfl (qB6 HT_.o (by kernel_rfl)) (by decide) (fun K hK => ?_)
        refine qEg Tryz.func34 (by kernel_rfl) rfl #[.agg #[.string a0_0, .slice au l0_1.length ap, .slice av l0_2.length aq, .slice ao l0_3.length ar], .slice bM bT.length bI, .slice eO bL.length eX] (by rfl) rfl rfl (by (try simp only [List.map_toArray, List.map_cons, List.map_nil]); (rfl)) ?_
        with_reducible refine (qBI.calls a0_0 _ _ l0_1 _ _ l0_2 _ _ l0_3 _ _ bT _ _ bL bK _ ?side1 ?side2 ?side3 ?side4 ?side5 ?side6 ?side7 ?side8 ?side9 ?side10 e0.o).mono ?_
        (case side1 => exact (Kd.C_below bN.o HB.o))
        (case side2 => exact cJ.o)
        (case side3 => exact (Kd.C_below bO.o HB.o))
        (case side4 => exact cK.o)
        (case side5 => exact (Kd.C_below cQ.o HB.o))
        (case side6 => exact cL.o)
        (case side7 => exact (by repeat (with_reducible exact bU.o)))
        (case side8 => exact cM.o)
        (case side9 => exact (by repeat (with_reducible exact bV.o)))
        (case side10 => exact cN.o)
        rintro e el ⟨rfl, hb⟩
        refine ⟨_, rfl, ?_⟩
        have n_ := a2 (qAk aD.o hb) (am (qAe HB.o hb))
        clear aE aD bU bV HB
        obtain ⟨aD, HB⟩ := n_
        (try clear hb)
        (skip)
        (skip)
        (skip)
        refine hK.o _ _ (c4_ _ aD.o) (fun hHeld => ?_)
        clear hK K
        refine nm ?_
        refine pu 12 2 (mK 13 8191) (qBc HT_.o (by kernel_rfl)) ?_
        refine done_ (qDn HT_.o (by kernel_rfl)) ?_
        try go_wp2
        go_ret
        exact ⟨by rfl, by exact HB.o⟩
       rw [if_pos cA] at H
       replace cA := d1 cA
       obtain ⟨cp, H⟩ := gd H
       replace cp := d1 cp
       obtain ⟨cq, H⟩ := gd H
       replace cq := d1 cq
       replace H := bm H
       obtain ⟨bB, cE, H⟩ := H
       replace H : (if bB = 0 then ((qBG.f ((qAt l0_2 aA).f1.f0.f0) ((qAt l0_2 aA).f1.f0.f1) ((qAt l0_2 aA).f1.f1) ((qAt l0_2 aA).f1.f2)).bind fun bS => (if bS = true then (if aH.length < 8796093022208 then (qAB.l1 k2 (aH ++ [(qAt l0_2 aA).f0]) l0_2 (l0_2.length : Int) (wrap64 (aA + 1)) a0_0 l0_1 l0_2 l0_3) else (none)) else (some 52))) else (some bB)) = some r := H
       have dr := am cE
       clear cE
       by_cases cY : bB = 0
       rotate_left
       ·rw [if_neg cY] at H
        have cZ : (bB != 0) = true := bne_iff_ne.mpr cY
        obtain rfl := Option.some.inj H
        have ax : 0 ≤ aA := od (by assumption)
        have az : aA < (l0_2.length : Int) := od (by assumption)
        obtain ⟨bQ, aX, aY, a7, a8, a9, aa, bX, aR, aT, aU, aV, aW, ae, ab, af, ac, ag, ad⟩ := qFg bO.o aA ax az
        cases bX
        replace aR := (HB.o.cell (World.block_lt_of_cell? w _ aR)).trans aR
        replace aT := (HB.o.cell (World.block_lt_of_cell? w _ aT)).trans aT
        replace aU := (HB.o.cell (World.block_lt_of_cell? w _ aU)).trans aU
        replace aV := (HB.o.cell (World.block_lt_of_cell? w _ aV)).trans aV
        replace aW := (HB.o.cell (World.block_lt_of_cell? w _ aW)).trans aW
        clear ab ae ac af ad ag
        replace ax := eq_true ax
        replace az := eq_true az
        go_wp2_with (first | ((with_reducible refine qAK (N := 9) rfl ?_); refine bx 9 #[.string ⟨#[]⟩, .slice none 0 0, .int .i64 0, .slice none 0 0, .slice none 0 0] 92 ?_; intro aG hg ee hbox hb; have n_ := a2 (Kd.R_below aE.o hb) (a2 (qAe HB.o hb) (a2 (hbox) (am (by rw [hg]; exact (qAf HB.o) : w.heap.size ≤ aG)))); clear aE aD HB; obtain ⟨aE, HB, aK, ai⟩ := n_; clear hb hbox hg; obtain ⟨dQ, dR, dS, dT, dU⟩ := c5_ ee aK.o; obtain ⟨dj, dk, dl, dm, dn⟩ := z5_ aK.o; obtain ⟨dw, ch, eD⟩ := Kd.R_slice aE.o; subst eD) | ((with_reducible refine qAi (f := 31) rfl ?_); refine gL 59 Tryz.func31 #[.string ((qAt l0_2 aA).f0), .slice dw aH.length ch] ?_; (with_reducible refine (qB0.calls k2 ((qAt l0_2 aA).f0) _ _ aH bB _ ?side1 ?side2 dr.o).mono ?_); (case side1 => refine (Kd.R_reads' (e := 9) (base := w.heap.size) (ok := fun k_ => True) (n := aH.length) (c := ch) ?_).2.2; exact (by exact (Kd.R_mono (Kd.R_far (p := ⟨aG, 4, none⟩) (Kd.R_far (p := ⟨aG, 3, none⟩) (Kd.R_far (p := ⟨aG, 2, none⟩) (Kd.R_far (p := ⟨aG, 1, none⟩) (Kd.R_far (p := ⟨aG, 0, none⟩) (Kd.R_types aE.o aK.o (by decide)) (fun _ hk => hk.2) (.string ((qAt l0_2 aA).f0))) (fun _ hk => hk.2) (.slice aX ((qAt l0_2 aA).f1.f0.f0).length aY)) (fun _ hk => hk.2) (.int .i64 ((qAt l0_2 aA).f1.f0.f1))) (fun _ hk => hk.2) (.slice a7 ((qAt l0_2 aA).f1.f1).length a8)) (fun _ hk => hk.2) (.slice a9 ((qAt l0_2 aA).f1.f2).length aa)) (fun _ h_ => h_.1)))); (case side2 => exact (Kd.R_reads' aE.o).2.1); rintro e w' ⟨rfl, ⟨nd, rfl⟩⟩; refine ⟨_, rfl, ?_⟩))
        go_ret
        exact ⟨by rfl, by repeat (with_reducible first | exact HB.o | apply qAl | refine qA1 ?_ ai.o)⟩
       rw [if_pos cY] at H
       have cZ : (bB != 0) = false := bn cY
       clear cY
       replace H := bm H
       obtain ⟨bS, cF, H⟩ := H
       replace H : (if bS = true then (if aH.length < 8796093022208 then (qAB.l1 k2 (aH ++ [(qAt l0_2 aA).f0]) l0_2 (l0_2.length : Int) (wrap64 (aA + 1)) a0_0 l0_1 l0_2 l0_3) else (none)) else (some 52)) = some r := H
       have eN := am cF
       clear cF
       by_cases cr : bS = true
       rotate_left
       ·replace cr := Bool.eq_false_iff.mpr cr
        subst cr
        replace H : (some 52) = some r := by rw [if_neg (show ¬ (false = true) by decide)] at H; exact H
        obtain rfl := Option.some.inj H
        have ax : 0 ≤ aA := od (by assumption)
        have az : aA < (l0_2.length : Int) := od (by assumption)
        obtain ⟨bQ, aX, aY, a7, a8, a9, aa, bX, aR, aT, aU, aV, aW, ae, ab, af, ac, ag, ad⟩ := qFg bO.o aA ax az
        cases bX
        replace aR := (HB.o.cell (World.block_lt_of_cell? w _ aR)).trans aR
        replace aT := (HB.o.cell (World.block_lt_of_cell? w _ aT)).trans aT
        replace aU := (HB.o.cell (World.block_lt_of_cell? w _ aU)).trans aU
        replace aV := (HB.o.cell (World.block_lt_of_cell? w _ aV)).trans aV
        replace aW := (HB.o.cell (World.block_lt_of_cell? w _ aW)).trans aW
        have bF := am ab
        have bC := am ae
        clear ab ae
        have bG := am ac
        have bD := am af
        clear ac af
        have bH := am ad
        have bE := am ag
        clear ad ag
        replace ax := eq_true ax
        replace az := eq_true az
        go_wp2_with (first | ((with_reducible refine qAK (N := 9) rfl ?_); refine bx 9 #[.string ⟨#[]⟩, .slice none 0 0, .int .i64 0, .slice none 0 0, .slice none 0 0] 92 ?_; intro aG hg ed hbox hb; have n_ := a2 (Kd.R_below aE.o hb) (a2 (qAk aD.o hb) (a2 (qAe HB.o hb) (a2 (hbox) (a2 (by rw [hg]; exact (qAf HB.o) : w.heap.size ≤ aG) (am (by rw [hg]; exact Nat.ne_of_lt (qBd aD.o) : aZ ≠ aG)))))); clear aE aD HB; obtain ⟨aE, aD, HB, aK, ai, a5⟩ := n_; clear hb hbox hg; obtain ⟨dL, dM, dN, dO, dP⟩ := c5_ ed aK.o; obtain ⟨de, df, dg, dh, di⟩ := z5_ aK.o; obtain ⟨dv, cg, eC⟩ := Kd.R_slice aE.o; subst eC) | ((with_reducible refine qAi (f := 31) rfl ?_); refine gL 59 Tryz.func31 #[.string ((qAt l0_2 aA).f0), .slice dv aH.length cg] ?_; (with_reducible refine (qB0.calls k2 ((qAt l0_2 aA).f0) _ _ aH bB _ ?side1 ?side2 dr.o).mono ?_); (case side1 => refine (Kd.R_reads' (e := 9) (base := w.heap.size) (ok := fun k_ => True) (n := aH.length) (c := cg) ?_).2.2; exact (by exact (Kd.R_mono (Kd.R_far (p := ⟨aG, 4, none⟩) (Kd.R_far (p := ⟨aG, 3, none⟩) (Kd.R_far (p := ⟨aG, 2, none⟩) (Kd.R_far (p := ⟨aG, 1, none⟩) (Kd.R_far (p := ⟨aG, 0, none⟩) (Kd.R_types aE.o aK.o (by decide)) (fun _ hk => hk.2) (.string ((qAt l0_2 aA).f0))) (fun _ hk => hk.2) (.slice aX ((qAt l0_2 aA).f1.f0.f0).length aY)) (fun _ hk => hk.2) (.int .i64 ((qAt l0_2 aA).f1.f0.f1))) (fun _ hk => hk.2) (.slice a7 ((qAt l0_2 aA).f1.f1).length a8)) (fun _ hk => hk.2) (.slice a9 ((qAt l0_2 aA).f1.f2).length aa)) (fun _ h_ => h_.1)))); (case side2 => exact (Kd.R_reads' aE.o).2.1); rintro e w' ⟨rfl, ⟨nd, rfl⟩⟩; refine ⟨_, rfl, ?_⟩) | ((with_reducible refine qAi (f := 33) rfl ?_); refine gL 65 Tryz.func33 #[.agg #[.slice aX ((qAt l0_2 aA).f1.f0.f0).length aY, .int .i64 ((qAt l0_2 aA).f1.f0.f1), .slice a7 ((qAt l0_2 aA).f1.f1).length a8, .slice a9 ((qAt l0_2 aA).f1.f2).length aa]] ?_; (with_reducible refine (qBG.calls _ _ ((qAt l0_2 aA).f1.f0.f0) ((qAt l0_2 aA).f1.f0.f1) _ _ ((qAt l0_2 aA).f1.f1) _ _ ((qAt l0_2 aA).f1.f2) false _ ?side1 ?side2 ?side3 ?side4 ?side5 ?side6 eN.o).mono ?_); (case side1 => exact Kd.C_below bF.o (by repeat (with_reducible first | exact HB.o | apply qAl | refine qA1 ?_ ai.o))); (case side2 => exact bC.o); (case side3 => exact Kd.C_below bG.o (by repeat (with_reducible first | exact HB.o | apply qAl | refine qA1 ?_ ai.o))); (case side4 => exact bD.o); (case side5 => exact Kd.C_below bH.o (by repeat (with_reducible first | exact HB.o | apply qAl | refine qA1 ?_ ai.o))); (case side6 => exact bE.o); rintro e ej ⟨rfl, hb⟩; refine ⟨_, rfl, ?_⟩; have n_ := am (qAe (by repeat (with_reducible first | exact HB.o | apply qAl | refine qA1 ?_ ai.o)) hb); clear aE aD aK HB; have HB := n_; clear n_; (skip)))
        go_ret
        exact ⟨by rfl, by exact HB.o⟩
       subst cr
       replace H : (if aH.length < 8796093022208 then (qAB.l1 k2 (aH ++ [(qAt l0_2 aA).f0]) l0_2 (l0_2.length : Int) (wrap64 (aA + 1)) a0_0 l0_1 l0_2 l0_3) else (none)) = some r := by rw [if_pos rfl] at H; exact H
       obtain ⟨ct, H⟩ := gd H
       have cS := am ct
       clear ct
       obtain ⟨ck, b1⟩ : ∃ y_ : List ByteArray, y_ = (aH ++ [(qAt l0_2 aA).f0]) := ⟨_, rfl⟩
       replace H : (qAB.l1 k2 ck l0_2 (l0_2.length : Int) (wrap64 (aA + 1)) a0_0 l0_1 l0_2 l0_3) = some r := by (rw [b1]; with_reducible exact H)
       have cU := am b1
       clear b1
       have H' := am H
       clear H
       have ax : 0 ≤ aA := od (by assumption)
       have az : aA < (l0_2.length : Int) := od (by assumption)
       obtain ⟨bQ, aX, aY, a7, a8, a9, aa, bX, aR, aT, aU, aV, aW, ae, ab, af, ac, ag, ad⟩ := qFg bO.o aA ax az
       cases bX
       replace aR := (HB.o.cell (World.block_lt_of_cell? w _ aR)).trans aR
       replace aT := (HB.o.cell (World.block_lt_of_cell? w _ aT)).trans aT
       replace aU := (HB.o.cell (World.block_lt_of_cell? w _ aU)).trans aU
       replace aV := (HB.o.cell (World.block_lt_of_cell? w _ aV)).trans aV
       replace aW := (HB.o.cell (World.block_lt_of_cell? w _ aW)).trans aW
       have bF := am ab
       have bC := am ae
       clear ab ae
       have bG := am ac
       have bD := am af
       clear ac af
       have bH := am ad
       have bE := am ag
       clear ad ag
       replace ax := eq_true ax
       replace az := eq_true az
       go_wp2_with (first | ((with_reducible refine qAK (N := 9) rfl ?_); refine bx 9 #[.string ⟨#[]⟩, .slice none 0 0, .int .i64 0, .slice none 0 0, .slice none 0 0] 92 ?_; intro aG hg eb hbox hb; have n_ := a2 (Kd.R_below aE.o hb) (a2 (qAk aD.o hb) (a2 (qAe HB.o hb) (a2 (hbox) (a2 (by rw [hg]; exact (qAf HB.o) : w.heap.size ≤ aG) (am (by rw [hg]; exact Nat.ne_of_lt (qBd aD.o) : aZ ≠ aG)))))); clear aE aD HB; obtain ⟨aE, aD, HB, aK, ai, a5⟩ := n_; clear hb hbox hg; obtain ⟨dF, dG, dH, dI, dJ⟩ := c5_ eb aK.o; obtain ⟨d8, d9, da, db, dc⟩ := z5_ aK.o; obtain ⟨cI, bk, eB⟩ := Kd.R_slice aE.o; subst eB) | ((with_reducible refine qAi (f := 31) rfl ?_); refine gL 59 Tryz.func31 #[.string ((qAt l0_2 aA).f0), .slice cI aH.length bk] ?_; (with_reducible refine (qB0.calls k2 ((qAt l0_2 aA).f0) _ _ aH bB _ ?side1 ?side2 dr.o).mono ?_); (case side1 => refine (Kd.R_reads' (e := 9) (base := w.heap.size) (ok := fun k_ => True) (n := aH.length) (c := bk) ?_).2.2; exact (by exact (Kd.R_mono (Kd.R_far (p := ⟨aG, 4, none⟩) (Kd.R_far (p := ⟨aG, 3, none⟩) (Kd.R_far (p := ⟨aG, 2, none⟩) (Kd.R_far (p := ⟨aG, 1, none⟩) (Kd.R_far (p := ⟨aG, 0, none⟩) (Kd.R_types aE.o aK.o (by decide)) (fun _ hk => hk.2) (.string ((qAt l0_2 aA).f0))) (fun _ hk => hk.2) (.slice aX ((qAt l0_2 aA).f1.f0.f0).length aY)) (fun _ hk => hk.2) (.int .i64 ((qAt l0_2 aA).f1.f0.f1))) (fun _ hk => hk.2) (.slice a7 ((qAt l0_2 aA).f1.f1).length a8)) (fun _ hk => hk.2) (.slice a9 ((qAt l0_2 aA).f1.f2).length aa)) (fun _ h_ => h_.1)))); (case side2 => exact (Kd.R_reads' aE.o).2.1); rintro e w' ⟨rfl, ⟨nd, rfl⟩⟩; refine ⟨_, rfl, ?_⟩) | ((with_reducible refine qAi (f := 33) rfl ?_); refine gL 65 Tryz.func33 #[.agg #[.slice aX ((qAt l0_2 aA).f1.f0.f0).length aY, .int .i64 ((qAt l0_2 aA).f1.f0.f1), .slice a7 ((qAt l0_2 aA).f1.f1).length a8, .slice a9 ((qAt l0_2 aA).f1.f2).length aa]] ?_; (with_reducible refine (qBG.calls _ _ ((qAt l0_2 aA).f1.f0.f0) ((qAt l0_2 aA).f1.f0.f1) _ _ ((qAt l0_2 aA).f1.f1) _ _ ((qAt l0_2 aA).f1.f2) true _ ?side1 ?side2 ?side3 ?side4 ?side5 ?side6 eN.o).mono ?_); (case side1 => exact Kd.C_below bF.o (by repeat (with_reducible first | exact HB.o | apply qAl | refine qA1 ?_ ai.o))); (case side2 => exact bC.o); (case side3 => exact Kd.C_below bG.o (by repeat (with_reducible first | exact HB.o | apply qAl | refine qA1 ?_ ai.o))); (case side4 => exact bD.o); (case side5 => exact Kd.C_below bH.o (by repeat (with_reducible first | exact HB.o | apply qAl | refine qA1 ?_ ai.o))); (case side6 => exact bE.o); rintro e ec ⟨rfl, hb⟩; refine ⟨_, rfl, ?_⟩; have n_ := a2 (Kd.R_below (by (with_reducible repeat (apply Kd.R_drewN)); exact (Kd.R_mono (Kd.R_far (p := ⟨aG, 4, none⟩) (Kd.R_far (p := ⟨aG, 3, none⟩) (Kd.R_far (p := ⟨aG, 2, none⟩) (Kd.R_far (p := ⟨aG, 1, none⟩) (Kd.R_far (p := ⟨aG, 0, none⟩) (Kd.R_types aE.o aK.o (by decide)) (fun _ hk => hk.2) (.string ((qAt l0_2 aA).f0))) (fun _ hk => hk.2) (.slice aX ((qAt l0_2 aA).f1.f0.f0).length aY)) (fun _ hk => hk.2) (.int .i64 ((qAt l0_2 aA).f1.f0.f1))) (fun _ hk => hk.2) (.slice a7 ((qAt l0_2 aA).f1.f1).length a8)) (fun _ hk => hk.2) (.slice a9 ((qAt l0_2 aA).f1.f2).length aa)) (fun _ h_ => h_.1))) hb) (a2 (qAk (g := aZ) (o := .cells #[.string a0_0, .slice au l0_1.length ap, .slice (some bQ) l0_2.length aq, .slice ao l0_3.length ar] 33 (0, 0)) (by (with_reducible repeat (refine qBr ?_ _)); refine qA2 ?_ a5.o _; refine qA2 ?_ a5.o _; refine qA2 ?_ a5.o _; refine qA2 ?_ a5.o _; refine qA2 ?_ a5.o _; exact aD.o) hb) (a2 (qAk (g := aG) (o := .cells #[.string ((qAt l0_2 aA).f0), .slice aX ((qAt l0_2 aA).f1.f0.f0).length aY, .int .i64 ((qAt l0_2 aA).f1.f0.f1), .slice a7 ((qAt l0_2 aA).f1.f1).length a8, .slice a9 ((qAt l0_2 aA).f1.f2).length aa] 92 (0, 0)) (by (with_reducible repeat (refine qBr ?_ _)); refine qA5 (cs := #[.string ((qAt l0_2 aA).f0), .slice aX ((qAt l0_2 aA).f1.f0.f0).length aY, .int .i64 ((qAt l0_2 aA).f1.f0.f1), .slice a7 ((qAt l0_2 aA).f1.f1).length a8, .slice none 0 0]) ?_ 4 _ rfl; refine qA5 (cs := #[.string ((qAt l0_2 aA).f0), .slice aX ((qAt l0_2 aA).f1.f0.f0).length aY, .int .i64 ((qAt l0_2 aA).f1.f0.f1), .slice none 0 0, .slice none 0 0]) ?_ 3 _ rfl; refine qA5 (cs := #[.string ((qAt l0_2 aA).f0), .slice aX ((qAt l0_2 aA).f1.f0.f0).length aY, .int .i64 0, .slice none 0 0, .slice none 0 0]) ?_ 2 _ rfl; refine qA5 (cs := #[.string ((qAt l0_2 aA).f0), .slice none 0 0, .int .i64 0, .slice none 0 0, .slice none 0 0]) ?_ 1 _ rfl; refine qA5 (cs := #[.string ⟨#[]⟩, .slice none 0 0, .int .i64 0, .slice none 0 0, .slice none 0 0]) ?_ 0 _ rfl; exact aK.o) hb) (am (qAe (by repeat (with_reducible first | exact HB.o | apply qAl | refine qA1 ?_ ai.o)) hb)))); clear aE aD aK HB; obtain ⟨aE, aD, aK, HB⟩ := n_; have dK := c1_ ec aK.o; have dd := qAx aK.o 4) | ((with_reducible refine qAP (b := .append) (xs := #[.tmp 67, .tmp 70]) rfl ?_); at_builtin; refine Kd.R_append Kd.string (w0 := w) w.heap.size rfl (.tmp 67) (.tmp 70) 80 9 (.string ⟨#[]⟩) 16 rfl Tryz.underlying80 info9 rfl (by decide) (by omega) (.slice cI aH.length bk) aH ((qAt l0_2 aA).f0) [.string ((qAt l0_2 aA).f0)] (fun _ => True) (fun _ => False) rfl rfl ?aP (fun _ hk => hk.elim) ?aF ?aO ?aB ?aS ?aL ?_; (case aP => exact rfl); (case aB => exact HB.o); (case aF => exact (fun _ _ => trivial)); (case aO => exact aE.o); (case aS => exact (qAf HB.o)); (case aL => have := cS.o; omega); intro e4 ei ho hb hg eF; rw [← cU.o] at ho; have n_ := a2 (qAI (g := aZ) (o := .cells #[.string a0_0, .slice au l0_1.length ap, .slice (some bQ) l0_2.length aq, .slice ao l0_3.length ar] 33 (0, 0)) aD.o hg (Kd.R_ne aE.o aD.o (by decide))) (a2 (hb) (am (ho))); clear aD aK HB aE; obtain ⟨aD, HB, cP⟩ := n_; clear ho hb hg eF))
       go_roundg k2
       case measure => have := cl.o; have := eP.o; omega
       case rel => exact ⟨(ck), (wrap64 (aA + 1)), (by rfl), H', ⟨by have := cl.o; have := eP.o; omega⟩, ⟨by exact cP.o⟩, ⟨by exact aD.o⟩, ⟨by exact HB.o⟩⟩
 ·rw [if_neg c3] at H
  have c0 : (ak != 0) = true := bne_iff_ne.mpr c3
  obtain rfl := Option.some.inj H
  go_enter Tryz.func9, Tryz.ntmps9
  go_wp2_with (first | ((with_reducible refine qAK (N := 1) rfl ?_); refine bx 1 #[.string a0_0, .slice au l0_1.length ap, .slice av l0_2.length aq, .slice ao l0_3.length ar] 33 ?_; intro aZ hg ef hbox hb; have n_ := a2 (qAe HB.o hb) (am (hbox)); clear HB; obtain ⟨HB, aD⟩ := n_; clear hb hbox hg; have dV := c1_ ef aD.o; have dp := qAx aD.o 3) | ((with_reducible refine qAi (f := 30) rfl ?_); refine gL 13 Tryz.func30 #[.string a0_0] ?_; (with_reducible refine (qBz.calls a0_0 ak _ A2.o).mono ?_); rintro e w' ⟨rfl, ⟨nd, rfl⟩⟩; refine ⟨_, rfl, ?_⟩))
  go_ret
  exact ⟨by rfl, by repeat (with_reducible first | exact HB.o | apply qAl)⟩
end Q
end
section
namespace Q
open Go.RowKit PA PC PB
open Val Ins
def qBy (s : ByteArray) (ahead : List ByteArray) : Int := if Names.nameE s ≠ 0 then Names.nameE s else if hasB ahead s = true then 20 else 0
def qDt : List ByteArray → List S85 → Int
 | _, [] => 0
 | ahead, v :: vs => if qBy v.f0 ahead ≠ 0 then qBy v.f0 ahead else if okV v.f1.f0 v.f1.f1 = false then 52 else qDt (ahead ++ [v.f0]) vs
def fnOk (f : S92) : Bool := okFn f.f1.f0.f0 f.f1.f0.f1 f.f1.f1 f.f1.f2
def fnsE : List ByteArray → List S92 → Int
 | _, [] => 0
 | ahead, f :: fs => if qBy f.f0 ahead ≠ 0 then qBy f.f0 ahead else if fnOk f = false then 52 else fnsE (ahead ++ [f.f0]) fs
def qBR (m : ByteArray) (vars : List S85) (fns : List S92) (rels : List S104) : Int :=
 if Names.nameE m ≠ 0 then Names.nameE m else if 64 < vars.length + fns.length then 3
 else if qDt [] vars ≠ 0 then qDt [] vars else if fnsE (vars.map (·.f0)) fns ≠ 0 then fnsE (vars.map (·.f0)) fns
 else qDf m fns rels (vars.map (·.f0)) (fns.map (·.f0))
def qEr (s : ByteArray) : Prop := s.size ≤ 140737488351232
structure qDl (m : ByteArray) (vars : List S85) (fns : List S92) (rels : List S104) : Prop where
 m : qEr m
 vl : vars.length ≤ 2305843009213693952
 v : ∀ x ∈ vars, qEr x.f0 ∧ 0 ≤ x.f1.f1 ∧ x.f1.f1 < 18446744073709551616
 fl : fns.length ≤ 2305843009213693952
 f : ∀ x ∈ fns, qEr x.f0 ∧ x.f1.f0.f0.length ≤ 4611686018427387904 ∧ x.f1.f1.length ≤ 4611686018427387904 ∧ x.f1.f2.length ≤ 4611686018427387904 ∧ x.f1.f2.all u64S = true
 rl : rels.length ≤ 4611686018427387904
 r : ∀ x ∈ rels, qEr x.f3 ∧ qEr x.f4
theorem named_ev (s : ByteArray) (hs : qEr s) (l : List ByteArray) (hl : l.length ≤ 4611686018427387904) : Ev (fun k => qB0.f k s l) (qBy s l) := by
 have hn : qBz.f s = some (Names.nameE s) := if_pos hs
 unfold qBy
 by_cases h : Names.nameE s = 0
 rotate_left
 ·rw [if_pos h]
  exact Ev.congr (f := fun _ => some (Names.nameE s)) (fun k => by unfold qB0.f; rw [hn]; simp only [Option.bind_some, h, if_false]) (Ev.now _)
 rw [if_neg (by simp [h])]
 refine Ev.congr (f := fun k => (qAR.f k l s).bind fun t => (if t = true then some 20 else some 0)) (fun k => by unfold qB0.f; rw [hn]; simp only [Option.bind_some, h, if_true]) (Ev.bind (qDT l s hl) ?_)
 cases hasB l s
 ·exact Ev.now _
 exact Ev.now _
theorem qCc {α : Type} (l : List α) (d : α) (i : Int) (h0 : 0 ≤ i) (h : i < l.length) : l.getD i.toNat d ∈ l := by
 rw [List.getD_eq_getElem?_getD, List.getElem?_eq_getElem (by omega)]; exact List.getElem_mem _
section
variable (m : ByteArray) (vars : List S85) (fns : List S92) (rels : List S104)
theorem qEY {f : S92} (h : fnOk f = true) : f.f1.f0.f0.length ≤ 8 ∧ f.f1.f1.length ≤ 64 ∧ f.f1.f2.length ≤ 4096 ∧ f.f1.f2.all okS = true := by
 unfold fnOk okFn at h
 simp only [Bool.and_eq_true, decide_eq_true_eq] at h
 exact ⟨h.1.1.1.1.1.1, h.1.1.1.2, h.1.2, h.2⟩
theorem rfns_ev (hg : qDl m vars fns rels) (hc : vars.length + fns.length ≤ 64) : ∀ (d : Nat) (i : Int) (ahead : List ByteArray), 0 ≤ i → (fns.length : Int) - i = d → ahead = vars.map (·.f0) ++ (fns.take i.toNat).map (·.f0) → (∀ x ∈ fns.take i.toNat, fnOk x = true) →
  Ev (fun k => qAB.l1 k ahead fns (fns.length : Int) i m vars fns rels) (if fnsE ahead (fns.drop i.toNat) ≠ 0 then fnsE ahead (fns.drop i.toNat) else qDf m fns rels (vars.map (·.f0)) (fns.map (·.f0))) := by
 intro d
 induction d with
 | zero =>
  intro i ahead h0 hd ha hok
  have hi : fns.length ≤ i.toNat := by omega
  rw [List.drop_eq_nil_of_le hi]
  rw [List.take_of_length_le hi] at ha hok
  simp only [fnsE, ne_eq, not_true_eq_false, if_false]
  have hlen : ahead.length = vars.length + fns.length := by rw [ha]; simp
  have ht : ahead.take vars.length = vars.map (·.f0) := by rw [ha, List.take_append_of_le_length (by simp)]; exact List.take_of_length_le (by simp)
  have hdr : ahead.drop vars.length = fns.map (·.f0) := by rw [ha, List.drop_append_of_le_length (by simp), List.drop_eq_nil_of_le (by simp), List.nil_append]
  refine Ev.step (f := fun _ => some (qDf m fns rels (vars.map (·.f0)) (fns.map (·.f0)))) (fun k => ?_) (Ev.now _)
  simp only [qAB.l1]
  rw [if_neg (by omega), if_pos (by omega), if_pos (by omega)]
  rw [show ((vars.length : Int)).toNat = vars.length from Int.toNat_natCast _, ht, hdr]
  unfold qBI.f
  rw [if_pos ⟨by omega, fun x hx => (qEY (hok x hx)).2.2.1, hg.rl, hg.r, by simp; omega, by simp; omega⟩]
  rfl
 | succ d ih =>
  intro i ahead h0 hd ha hok
  have hlt : i < (fns.length : Int) := by omega
  have hcons := qAV fns z92 i h0 hlt
  have hx : qAt fns i = fns.getD i.toNat z92 := rfl
  have hm := qCc fns z92 i h0 hlt
  rw [← hx] at hcons hm
  rw [hcons]
  obtain ⟨g1, g2, g3, g4, g5⟩ := hg.f _ hm
  have hal : ahead.length ≤ 64 := by rw [ha]; simp; omega
  have hne := named_ev (qAt fns i).f0 g1 ahead (by omega)
  have hf : qBG.f (qAt fns i).f1.f0.f0 (qAt fns i).f1.f0.f1 (qAt fns i).f1.f1 (qAt fns i).f1.f2 = some (fnOk (qAt fns i)) := if_pos ⟨g2, g3, g4, g5⟩
  simp only [fnsE]
  refine Ev.step (f := fun k => (qB0.f k ((qAt fns i).f0) ahead).bind fun t => (if t = 0 then ((some (fnOk (qAt fns i))).bind fun t2 => (if t2 = true then (if ahead.length < 8796093022208 then (qAB.l1 k (ahead ++ [(qAt fns i).f0]) fns (fns.length : Int) (wrap64 (i + 1)) m vars fns rels) else none) else some 52)) else some t)) (fun k => ?_) (Ev.bind hne ?_)
  ·simp only [qAB.l1]
   rw [if_pos hlt, if_pos h0, if_pos hlt, hf]
  by_cases hz : qBy (qAt fns i).f0 ahead = 0
  rotate_left
  ·simp only [hz, if_false, ne_eq, not_false_eq_true, if_true]
   exact Ev.now _
  simp only [hz, if_true, Option.bind_some, ne_eq, not_true_eq_false, if_false]
  cases hq : fnOk (qAt fns i) with
  | false => simp; exact Ev.now _
  | true =>
   simp only [if_true, Bool.true_eq_false, if_false]
   rw [qB1 (n := fns.length) h0 hlt (by omega)]
   simp only [show ahead.length < 8796093022208 from by omega, if_true]
   have htk : fns.take (i + 1).toNat = fns.take i.toNat ++ [qAt fns i] := by
    rw [show (i + 1).toNat = i.toNat + 1 from by omega, List.take_succ_eq_append_getElem (by omega), hx, List.getD_eq_getElem?_getD, List.getElem?_eq_getElem (by omega)]; rfl
   refine ih (i + 1) _ (by omega) (by omega) ?_ ?_
   ·rw [htk, ha]; simp
   rw [htk]
   intro x hx2
   rcases List.mem_append.1 hx2 with hx2 | hx2
   ·exact hok x hx2
   rw [List.mem_singleton.1 hx2]; exact hq
theorem rvars_ev (hg : qDl m vars fns rels) (hc : vars.length + fns.length ≤ 64) : ∀ (d : Nat) (i : Int) (ahead : List ByteArray), 0 ≤ i → (vars.length : Int) - i = d → ahead = (vars.take i.toNat).map (·.f0) →
  Ev (fun k => qAB.l0 k ahead vars (vars.length : Int) i m vars fns rels) (if qDt ahead (vars.drop i.toNat) ≠ 0 then qDt ahead (vars.drop i.toNat) else if fnsE (vars.map (·.f0)) fns ≠ 0 then fnsE (vars.map (·.f0)) fns else qDf m fns rels (vars.map (·.f0)) (fns.map (·.f0))) := by
 intro d
 induction d with
 | zero =>
  intro i ahead h0 hd ha
  have hi : vars.length ≤ i.toNat := by omega
  rw [List.drop_eq_nil_of_le hi]
  rw [List.take_of_length_le hi] at ha
  simp only [qDt, ne_eq, not_true_eq_false, if_false]
  have hrec := rfns_ev m vars fns rels hg hc fns.length 0 (vars.map (·.f0)) (by omega) (by omega) (by simp) (by simp)
  rw [ha]
  refine Ev.step (fun k => ?_) hrec
  simp only [qAB.l0]
  rw [if_neg (by omega)]
 | succ d ih =>
  intro i ahead h0 hd ha
  have hlt : i < (vars.length : Int) := by omega
  have hcons := qAV vars z85 i h0 hlt
  have hx : qBk vars i = vars.getD i.toNat z85 := rfl
  have hm := qCc vars z85 i h0 hlt
  rw [← hx] at hcons hm
  rw [hcons]
  obtain ⟨g1, g2, g3⟩ := hg.v _ hm
  have hal : ahead.length ≤ 64 := by rw [ha]; simp; omega
  have hne := named_ev (qBk vars i).f0 g1 ahead (by omega)
  have hf : qBX.f (qBk vars i).f1.f0 (qBk vars i).f1.f1 = some (okV (qBk vars i).f1.f0 (qBk vars i).f1.f1) := if_pos ⟨g2, g3⟩
  simp only [qDt]
  refine Ev.step (f := fun k => (qB0.f k ((qBk vars i).f0) ahead).bind fun t => (if t = 0 then ((some (okV (qBk vars i).f1.f0 (qBk vars i).f1.f1)).bind fun t2 => (if t2 = true then (if ahead.length < 8796093022208 then (qAB.l0 k (ahead ++ [(qBk vars i).f0]) vars (vars.length : Int) (wrap64 (i + 1)) m vars fns rels) else none) else some 52)) else some t)) (fun k => ?_) (Ev.bind hne ?_)
  ·simp only [qAB.l0]
   rw [if_pos hlt, if_pos h0, if_pos hlt, hf]
  by_cases hz : qBy (qBk vars i).f0 ahead = 0
  rotate_left
  ·simp only [hz, if_false, ne_eq, not_false_eq_true, if_true]
   exact Ev.now _
  simp only [hz, if_true, Option.bind_some, ne_eq, not_true_eq_false, if_false]
  cases hq : okV (qBk vars i).f1.f0 (qBk vars i).f1.f1 with
  | false => simp; exact Ev.now _
  | true =>
   simp only [if_true, Bool.true_eq_false, if_false]
   rw [qB1 (n := vars.length) h0 hlt (by omega)]
   simp only [show ahead.length < 8796093022208 from by omega, if_true]
   have htk : vars.take (i + 1).toNat = vars.take i.toNat ++ [qBk vars i] := by
    rw [show (i + 1).toNat = i.toNat + 1 from by omega, List.take_succ_eq_append_getElem (by omega), hx, List.getD_eq_getElem?_getD, List.getElem?_eq_getElem (by omega)]; rfl
   refine ih (i + 1) _ (by omega) (by omega) ?_
   rw [htk, ha]; simp
theorem qFb {a b : Nat} (h1 : a ≤ 2305843009213693952) (h2 : b ≤ 2305843009213693952) : wrap64 ((a : Int) + b) = a + b := by unfold wrap64; omega
theorem right_ev (hg : qDl m vars fns rels) : Ev (fun k => qAB.f k m vars fns rels) (qBR m vars fns rels) := by
 have hn : qBz.f m = some (Names.nameE m) := if_pos hg.m
 have hw : wrap64 ((vars.length : Int) + (fns.length : Int)) = (vars.length : Int) + (fns.length : Int) := qFb hg.vl hg.fl
 have hunf : ∀ k, qAB.f k m vars fns rels = (if Names.nameE m = 0 then (if (vars.length : Int) + (fns.length : Int) > 64 then some 3 else qAB.l0 k [] vars (vars.length : Int) 0 m vars fns rels) else some (Names.nameE m)) := fun k => by
  unfold qAB.f
  rw [hn, hw]
  rfl
 refine Ev.congr hunf ?_
 unfold qBR
 by_cases h : Names.nameE m = 0
 rotate_left
 ·rw [if_pos h]
  simp only [if_neg h]
  exact Ev.now _
 rw [if_neg (fun hh => hh h)]
 simp only [if_pos h]
 by_cases hc : 64 < vars.length + fns.length
 ·rw [if_pos hc]
  have hc' : (vars.length : Int) + (fns.length : Int) > 64 := by omega
  simp only [if_pos hc']
  exact Ev.now _
 rw [if_neg hc]
 have hc' : ¬ (vars.length : Int) + (fns.length : Int) > 64 := by omega
 simp only [if_neg hc']
 exact rvars_ev m vars fns rels hg (by omega) vars.length 0 [] (by omega) (by omega) (by simp)
end
end Q
end
section
namespace Clone
open Go.RowKit Base
def RowPost (E : TypeId) (size n : Nat) (xs : List Value) (w : World) (e : Ending) (w' : World) : Prop :=
 ∃ x, e = .returned x ∧ w'.ownsRow w.heap.size E size x n xs ∧ Below w.heap.size w w'
theorem info_bytes : (Tryz.prog.info? 5).map (fun i => (i.zero, i.size, i.bytes)) = some (some (.int .u8 0), 1, 1) := by kernel_rfl
theorem bytes_nil (n c : Nat) (w : World) : Calls Tryz.prog 116 #[.slice none n c] w fun e w' => e = .returned (.slice none 0 0) ∧ w = w' := by
 have hq := Lib.run_eql_slice_nil (P := Tryz.prog) w 38 5 none n c 0 0 Tryz.underlying38
 go_enter Tryz.func116, Tryz.ntmps116
 go_wp2
 go_ret
 exact ⟨rfl, rfl⟩
theorem bytes_zero (a : Addr) (c : Nat) (w : World) : Calls Tryz.prog 116 #[.slice (some a) 0 c] w (RowPost 5 1 0 [] w) := by
 obtain ⟨i0, hi, hz0, hz1, hz2⟩ := info_parts info_bytes
 have hq := Lib.run_eql_slice_nil (P := Tryz.prog) w 38 5 (some a) 0 c 0 0 Tryz.underlying38
 have hown : (w.alloc (.cells #[] 5)).ownsRow w.heap.size 5 1 (.slice (some ⟨w.heap.size, 0, none⟩) 0 0) 0 [] := World.ownsRow_made w #[] 0 (Nat.le_refl _) (by unfold maxLen; omega) rfl
 go_enter Tryz.func116, Tryz.ntmps116
 go_wp2_with (at_builtin; refine wpList_append_zero rfl _ _ 38 rfl w.heap.size 5 i0 1 Tryz.underlying38 hi _ _ _ rfl hown (some a) c rfl ?_)
 go_ret
 exact ⟨_, rfl, hown, (Below.refl _ _).alloc (Nat.le_refl _) _⟩
theorem bytes_some (b o n c : Nat) (xs : List Value) (w : World) (h0 : 0 < n) (hl : xs.length = n * 1) (h1 : ∀ u ∈ xs, u.oneCell' = true)
  (hc : ∀ j u, xs[j]? = some u → w.cell? ⟨b, o + j, none⟩ = some u) (hb : b < w.heap.size) (hn : n ≤ 400000000) :
  Calls Tryz.prog 116 #[.slice (some ⟨b, o, none⟩) n c] w (RowPost 5 1 n xs w) := by
 obtain ⟨i0, hi, hz0, hz1, hz2⟩ := info_parts info_bytes
 have hq := Lib.run_eql_slice_nil (P := Tryz.prog) w 38 5 (some ⟨b, o, none⟩) n c 0 0 Tryz.underlying38
 have hown : (w.alloc (.cells #[] 5)).ownsRow w.heap.size 5 1 (.slice (some ⟨w.heap.size, 0, none⟩) 0 0) 0 [] := World.ownsRow_made w #[] 0 (Nat.le_refl _) (by unfold maxLen; omega) rfl
 have hnews : ∀ j u, xs[j]? = some u → (w.alloc (.cells #[] 5)).cell? ((⟨b, o, none⟩ : Addr).add j) = some u := fun j u hu => by
  have hadd : (⟨b, o, none⟩ : Addr).add j = ⟨b, o + j, none⟩ := by unfold Addr.add; split <;> simp_all
  rw [hadd, World.cell?_alloc_past _ _ _ hb]; exact hc j u hu
 have HN := hid hnews
 have HL := hid hl
 clear hnews hl hc
 go_enter Tryz.func116, Tryz.ntmps116
 go_wp2_with (at_builtin; refine wpList_append_lies _ rfl _ _ 38 rfl w.heap.size 5 i0 (.int .u8 0) 1 1 Tryz.underlying38 hi hz0 hz1 hz2 rfl (by decide) _ _ _ rfl hown ⟨b, o, none⟩ n c xs rfl ?c9 HN.out ?c2 ?c0 ?c3 ?c4 ?c5 _ rfl ?_)
 case c9 => exact HL.out
 case c2 => exact h1
 case c0 => exact h0
 case c3 => unfold maxLen; omega
 case c4 => omega
 case c5 => simp
 intro g cap w1 hown' hgrow hgg hlt
 have H1 : Hid (w1.ownsRow w.heap.size 5 1 (.slice (some ⟨g, 0, none⟩) n cap) n xs ∧ Below w.heap.size w w1) := hid ⟨hown', ((Below.refl _ _).alloc (Nat.le_refl _) _).grown hgrow (by simp) (fun j hj => (hown.lt j hj).1)⟩
 clear hown' hgrow hgg hlt hown
 go_wp2
 go_ret
 exact ⟨_, by simp, H1.out.1, H1.out.2⟩
end Clone
end
section
namespace Wr2
open Go.RowKit Base Wr Clone
theorem bv_one (bs : List Int) : ∀ u ∈ bv bs, u.oneCell' = true := by
 intro u hu; unfold bv at hu; obtain ⟨y, _, rfl⟩ := List.mem_map.1 hu; rfl
theorem bytes_any (p : Nat) (v : Value) (bs : List Int) (w : World) (h : WrSt w p v bs) (hl : bs.length ≤ 400000000) :
  Calls Tryz.prog 48 #[.pointer (some ⟨p, 0, none⟩)] w (RowPost 5 1 bs.length (bv bs) w) := by
 have hcl : Calls Tryz.prog 116 #[v] w (RowPost 5 1 bs.length (bv bs) w) := by
  rcases h.own.2 with ⟨rfl, h0⟩ | ⟨g, cap, cur, rfl, _, hg, _⟩
  ·have e0 : bs = [] := List.length_eq_zero_iff.1 h0
   subst e0
   exact (bytes_nil 0 0 w).mono fun e w' ⟨he, hw⟩ => ⟨_, he, hw ▸ World.ownsRow_nil _ _ _ _, hw ▸ Below.refl _ _⟩
  by_cases h0 : bs.length = 0
  ·have e0 : bs = [] := List.length_eq_zero_iff.1 h0
   subst e0
   exact bytes_zero _ cap w
  refine bytes_some g 0 bs.length cap (bv bs) w (by omega) (by rw [qD3]; omega) (bv_one bs) (fun j u hu => ?_) (Array.getElem?_eq_some_iff.1 hg).1 hl
  have hc := h.own.cells rfl j u hu
  have hadd : (⟨g, 0, none⟩ : Addr).add j = ⟨g, j, none⟩ := by unfold Addr.add; split <;> simp_all
  rw [hadd] at hc
  rw [Nat.zero_add]; exact hc
 have HC := hid hcl
 have hc := h.cell
 clear hcl h
 go_enter Tryz.func48, Tryz.ntmps48
 go_wp2_with fail
 refine HC.out.mono ?_
 rintro e w2 ⟨x, rfl, h2, h3⟩
 have H2 := hid h2
 have H3 := hid h3
 clear h2 h3
 go_wp2
 go_ret
 exact ⟨x, rfl, H2.out, H3.out⟩
end Wr2
end
section
namespace Q
open Go.RowKit PA PC PB
open Val Ins Wr Enc
structure WK (wd : World) (p : Nat) (W : World) (v : Value) (bs : List Int) : Prop where
 st : WrSt W p v bs
 below : Below wd.heap.size wd W
 hp : wd.heap.size ≤ p
 hv : ∀ k, v.ownBlock = some k → wd.heap.size ≤ k
theorem WK.step {wd W W' : World} {p : Nat} {v v' : Value} {bs bs' : List Int} (h : WK wd p W v bs) (h1 : WrSt W' p v' bs') (h2 : qBo p W v W' v') : WK wd p W' v' bs' :=
 ⟨h1, h.below.trans (h2.below h.hp h.below.size h.hv), h.hp, fun k hk => by
   rcases h2.row k hk with e | e
   · exact h.hv k e
   · exact Nat.le_trans h.below.size e⟩
theorem WK.below' {wd W W' : World} {p : Nat} {v : Value} {bs : List Int} (h : WK wd p W v bs) (hb : Below W.heap.size W W') : WK wd p W' v bs :=
 h.step (h.st.below hb) (qBo.of_below hb)
theorem WK.plt {wd W : World} {p : Nat} {v : Value} {bs : List Int} (h : WK wd p W v bs) : p < W.heap.size := World.block_lt_of_cell? W _ h.st.cell
theorem WK.vlt {wd W : World} {p : Nat} {v : Value} {bs : List Int} (h : WK wd p W v bs) : ∀ k, v.ownBlock = some k → k < W.heap.size := fun k hk => (h.st.own.lt k hk).2
theorem WK.cell {wd W W' : World} {p : Nat} {v v' : Value} {bs : List Int} (h : WK wd p W v bs) (h2 : qBo p W v W' v') {a : Addr} (ha : a.block < W.heap.size) (hp : a.block ≠ p) (hv : some a.block ≠ v.ownBlock) : W'.cell? a = W.cell? a := h2.cell ha hp hv
theorem enc_zero (A : Option Addr) (c : Nat) (w : World) : Calls Tryz.prog 84 #[.slice A 0 c] w fun e w' => e = .returned (.tuple #[.slice none 0 0, .int .i64 0]) ∧ w' = w := by
 go_enter Tryz.func84, Tryz.ntmps84
 go_wp2
 go_loopw [4, 12] (fun v i wr => v = .slice none 0 0 ∧ i = .int .i64 0 ∧ wr = w) (fun _ _ _ => 0)
 case atStart => exact ⟨rfl, rfl, rfl⟩
 case round =>
  obtain ⟨rfl, rfl, rfl⟩ := hrel
  go_wp2
  go_ret2
  exact ⟨rfl, rfl⟩
def toD (x : S144) : InsD := ⟨x.f0, x.f1, x.f2.f0, x.f2.f1⟩
theorem enc_ok (A : Option Addr) (c : Nat) (l : List S144) (w : World) (hr : Kd.C k144 w A l.length l) (hl : l.length ≤ 4096) (hok : l.all okS = true) (hu : l.all u64S = true) :
  Calls Tryz.prog 84 #[.slice A l.length c] w fun e w' => Below w.heap.size w w' ∧ ∃ r, e = .returned (.tuple #[r, .int .i64 0]) ∧ Out w.heap.size w' r (encB (l.map toD)) := by
 rcases Nat.eq_zero_or_pos l.length with h0 | hp
 ·obtain rfl := List.length_eq_zero_iff.1 h0
  exact (enc_zero A c w).mono fun e w' ⟨he, hw⟩ => ⟨hw ▸ Below.refl _ _, _, he, by simpa [encB, Out, bv] using World.ownsRow_nil _ _ _ _⟩
 ·obtain ⟨ad, had, hcell⟩ := hr.2.2 hp
  subst had
  obtain ⟨b, o, s⟩ := ad
  have hat : ∀ j x, l[j]? = some x → ∀ i u, [Value.int .i64 x.f0, .int .i64 x.f1, .int .i64 x.f2.f0, .int .u64 x.f2.f1][i]? = some u → w.cell? (Addr.add ⟨b, o, s⟩ (j * 4 + i)) = some u := fun j x hj i u hu => by
   obtain ⟨cs, _, hK, hcc⟩ := hcell j x hj
   obtain rfl := k144_open hK
   exact hcc i u hu
  obtain ⟨x0, hx0⟩ : ∃ x, l[0]? = some x := ⟨l[0], List.getElem?_eq_getElem hp⟩
  have hz := hat 0 x0 hx0 0 _ rfl
  have hlt := World.block_lt_of_cell? w _ hz
  obtain rfl : s = none := by
   cases s with
   | none => rfl
   | some k =>
    simp only [Addr.add, World.cell?] at hz
    split at hz <;> simp at hz
  have hadd : ∀ j, Addr.add ⟨b, o, none⟩ j = ⟨b, o + j, none⟩ := fun j => by by_cases hj : j = 0 <;> simp [Addr.add, hj]
  have hrow : InsRow w (.slice (some ⟨b, o, none⟩) l.length c) (l.map toD) := .inr ⟨b, o, c, by rw [List.length_map], by rw [hadd] at hlt; exact hlt, fun k x hx => by
    rw [List.getElem?_map] at hx
    obtain ⟨y, hy, rfl⟩ := Option.map_eq_some_iff.1 hx
    have g := hat k y hy
    refine ⟨?_, ?_, ?_, ?_⟩
    · have := g 0 _ rfl; rwa [hadd] at this
    · have := g 1 _ rfl; rwa [hadd, ← Nat.add_assoc] at this
    · have := g 2 _ rfl; rwa [hadd, ← Nat.add_assoc] at this
    · have := g 3 _ rfl; rwa [hadd, ← Nat.add_assoc] at this⟩
  refine (encode_any _ (l.map toD) w hrow (fun x hx => by
    obtain ⟨y, hy, rfl⟩ := List.mem_map.1 hx
    exact u64S_U (List.all_eq_true.1 hu y hy))).mono ?_
  rintro e w' ⟨hb, h⟩
  refine ⟨hb, ?_⟩
  rcases h with ⟨h, _⟩ | ⟨_, ⟨_, r, he, ho⟩ | ⟨⟨x, hx, hf⟩, _⟩⟩
  ·rw [List.length_map] at h; omega
  ·exact ⟨r, he, ho⟩
  ·obtain ⟨y, hy, rfl⟩ := List.mem_map.1 hx
   have h1 := List.all_eq_true.1 hok y hy
   have h2 : okS y = false := hf
   rw [h1] at h2; cases h2
theorem raw_out (p N0 : Nat) (r : Value) (ys : List Int) (v : Value) (bs : List Int) (w : World) (h : WrSt w p v bs) (ho : Out N0 w r ys) (hp : p < N0) (hv : ∀ k, v.ownBlock = some k → k < N0) (hl : bs.length ≤ 400000000) (hl2 : ys.length ≤ 400000000) :
  Calls Tryz.prog 85 #[.pointer (some ⟨p, 0, none⟩), r] w (qCk p (bs ++ rawB ys) w v) := by
 have ho' := ho
 obtain ⟨_, ho⟩ := ho
 rcases ho with ⟨rfl, h0⟩ | ⟨g, cap, cur, rfl, hb, hh, _, _, _, hcur⟩
 ·obtain rfl : ys = [] := List.length_eq_zero_iff.1 h0
  exact raw_none p none 0 v bs w h hl
 ·rcases Nat.eq_zero_or_pos ys.length with h0 | hpos
  ·obtain rfl : ys = [] := List.length_eq_zero_iff.1 h0
   exact raw_none p _ cap v bs w h hl
  ·refine raw_some p g 0 cap ys v bs w h (qBd hh) (by omega) (fun e => by have := hv g e.symm; omega) hpos (fun j y hj => ?_) hl hl2
   have hx : cur[0 + j]? = some (Value.int .u8 y) := by
    have h1 : (bv ys)[j]? = some (Value.int .u8 y) := by unfold bv; rw [List.getElem?_map, hj]; rfl
    rw [← hcur, List.getElem?_take] at h1
    split at h1
    ·rw [Nat.zero_add, ← Array.getElem?_toList]; exact h1
    cases h1
   rw [qAn hh]; exact hx
def byB (l : List Int) : List Int := l.map (· % 256)
def fnB (l0 : List Int) (a1 : Int) (l2 : List Int) (l3 : List S144) : List Int :=
 [(l0.length : Int) % 256] ++ byB l0 ++ [a1 % 256] ++ [(l2.length : Int) % 256] ++ byB l2 ++ rawB (encB (l3.map toD))
theorem byB_take (l : List Int) (k : Nat) (x : Int) (h : l[k]? = some x) : byB (l.take (k + 1)) = byB (l.take k) ++ [x % 256] := by
 obtain ⟨hk, he⟩ := List.getElem?_eq_some_iff.1 h
 unfold byB
 rw [List.take_succ_eq_append_getElem hk, List.map_append, he]; rfl
theorem encB_len (l : List InsD) : (encB l).length ≤ l.length * 10 := by
 induction l with
 | nil => simp [encB]
 | cons x l ih =>
  have h1 : (insB x).length ≤ 10 := by
   unfold insB
   have := widN_le x.op
   split <;> simp [be_len] <;> omega
  have h2 : encB (x :: l) = insB x ++ encB l := by simp [encB]
  rw [h2, List.length_append, List.length_cons]; omega
theorem u8w (x : Int) : IntKind.u8.wrap x = x % 256 := by simp [IntKind.wrap, IntKind.signed, IntKind.bits]
theorem fn_any (p : Nat) (A0 : Option Addr) (c0 : Nat) (l0 : List Int) (a1 : Int) (A2 : Option Addr) (c2 : Nat) (l2 : List Int) (A3 : Option Addr) (c3 : Nat) (l3 : List S144) (v : Value) (bs : List Int) (wd w : World) (hk : WK wd p w v bs)
  (hr0 : Kd.C (Kd.int .i64) wd A0 l0.length l0) (hr2 : Kd.C (Kd.int .i64) wd A2 l2.length l2) (hr3 : Kd.C k144 wd A3 l3.length l3) (h0 : l0.length ≤ 8) (h2 : l2.length ≤ 64) (h3 : l3.length ≤ 4096) (hok : l3.all okS = true) (hu : l3.all u64S = true) (hl : bs.length ≤ 300000000) :
  Calls Tryz.prog 114 #[.pointer (some ⟨p, 0, none⟩), .agg #[.slice A0 l0.length c0, .int .i64 a1, .slice A2 l2.length c2, .slice A3 l3.length c3]] w (qCk p (bs ++ fnB l0 a1 l2 l3) w v) := by
 obtain ⟨n0, hn0⟩ : ∃ n, n = l0.length := ⟨_, rfl⟩
 obtain ⟨n2, hn2⟩ : ∃ n, n = l2.length := ⟨_, rfl⟩
 obtain ⟨n3, hn3⟩ : ∃ n, n = l3.length := ⟨_, rfl⟩
 rw [← hn0] at hr0 h0 ⊢
 rw [← hn2] at hr2 h2 ⊢
 rw [← hn3] at h3 ⊢
 obtain ⟨WA, hWA⟩ : ∃ WA, WA = w.alloc (.cells #[.slice A0 n0 c0, .int .i64 a1, .slice A2 n2 c2, .slice A3 n3 c3] 90) := ⟨_, rfl⟩
 have hKA : WK wd p WA v bs := hk.below' (hWA ▸ (Below.refl _ _).alloc (Nat.le_refl _) _)
 have hSA : qBo p w v WA v := qBo.of_below (hWA ▸ (Below.refl _ _).alloc (Nat.le_refl _) _)
 have hgA : w.heap.size < WA.heap.size := by rw [hWA]; simp
 have hgp : w.heap.size ≠ p := Nat.ne_of_gt hk.plt
 have hgv : some w.heap.size ≠ v.ownBlock := fun e => by have := hk.vlt _ e.symm; omega
 have k0 : WA.cell? ⟨w.heap.size, 0, none⟩ = some (.slice A0 n0 c0) := by rw [hWA, World.cell?_alloc_at _ _ _ _ rfl]; rfl
 have k1 : WA.cell? ⟨w.heap.size, 1, none⟩ = some (.int .i64 a1) := by rw [hWA, World.cell?_alloc_at _ _ _ _ rfl]; rfl
 have k2 : WA.cell? ⟨w.heap.size, 2, none⟩ = some (.slice A2 n2 c2) := by rw [hWA, World.cell?_alloc_at _ _ _ _ rfl]; rfl
 have k3 : WA.cell? ⟨w.heap.size, 3, none⟩ = some (.slice A3 n3 c3) := by rw [hWA, World.cell?_alloc_at _ _ _ _ rfl]; rfl
 have HB : qAa (∀ W' v', qBo p WA v W' v' → W'.cell? ⟨w.heap.size, 0, none⟩ = some (.slice A0 n0 c0) ∧ W'.cell? ⟨w.heap.size, 1, none⟩ = some (.int .i64 a1) ∧ W'.cell? ⟨w.heap.size, 2, none⟩ = some (.slice A2 n2 c2) ∧ W'.cell? ⟨w.heap.size, 3, none⟩ = some (.slice A3 n3 c3)) := ⟨fun W' v' hs =>
   ⟨(hKA.cell hs (a := ⟨w.heap.size, 0, none⟩) hgA hgp hgv).trans k0, (hKA.cell hs (a := ⟨w.heap.size, 1, none⟩) hgA hgp hgv).trans k1, (hKA.cell hs (a := ⟨w.heap.size, 2, none⟩) hgA hgp hgv).trans k2, (hKA.cell hs (a := ⟨w.heap.size, 3, none⟩) hgA hgp hgv).trans k3⟩⟩
 have HWA := am hWA
 have HKA := am hKA
 have HSA := am hSA
 have HR0 := am hr0
 have HR2 := am hr2
 have HE : qAa (∀ W, Below wd.heap.size wd W → Calls Tryz.prog 84 #[.slice A3 n3 c3] W fun e w' => Below W.heap.size W w' ∧ ∃ r, e = .returned (.tuple #[r, .int .i64 0]) ∧ Out W.heap.size w' r (encB (l3.map toD))) := ⟨fun W hW => hn3 ▸ enc_ok A3 c3 l3 W (Kd.C_below hr3 hW) (hn3 ▸ h3) hok hu⟩
 have HEL : qAa ((encB (l3.map toD)).length ≤ 40960) := ⟨by have := encB_len (l3.map toD); rw [List.length_map] at this; omega⟩
 have HN0 := am hn0
 have HN2 := am hn2
 have HL := am hl
 have HFB : qAa (fnB l0 a1 l2 l3 = [(n0 : Int) % 256] ++ byB l0 ++ [a1 % 256] ++ [(n2 : Int) % 256] ++ byB l2 ++ rawB (encB (l3.map toD))) := ⟨by unfold fnB; rw [hn0, hn2]⟩
 clear hk hr0 hr2 hr3 hok hu hl hKA hSA hgp hgv hn0 hn2 hn3 hWA h3
 go_enter Tryz.func114, Tryz.ntmps114
 go_wp2_with fail
 rw [← HWA.out]
 go_wp2_with fail
 refine (qCb p _ v bs WA HKA.out.st (by have := HL.out; omega)).mono ?_
 rintro e w1 ⟨v1, rfl, hst, hs⟩
 have HK1 := am (HKA.out.step hst hs)
 have HS1 := am hs
 obtain ⟨q0, q1, q2, q3⟩ := HB.out w1 v1 hs
 clear hst hs k0 k1 k2 k3
 go_wp2_with fail
 go_loopg [5, 21] n0 (fun gg _ s21 wr => ∃ (kk : Nat) (v' : Value), kk ≤ n0 ∧ n0 - kk ≤ gg ∧ s21 = .int .i64 kk ∧ qAa (WK wd p wr v' (bs ++ [(n0 : Int)] ++ byB (l0.take kk))) ∧ qAa (qBo p WA v wr v'))
 case atStart => exact ⟨0, v1, Nat.zero_le _, by omega, rfl, ⟨by rw [List.take_zero]; show WK wd p w1 v1 (bs ++ [(n0 : Int)] ++ []); rw [List.append_nil]; exact HK1.out⟩, HS1⟩
 case round =>
  clear q0 q1 q2 q3 HK1 HS1
  obtain ⟨kk, v', hkk, hg, rfl, HK, HS⟩ := hrel
  by_cases hlt : kk < n0
  ·have hltz : (kk : Int) < (n0 : Int) := by omega
   have h0' : (0 : Int) ≤ (kk : Int) := by omega
   obtain ⟨ad, ea, hx⟩ := Kd.at_int HR0.out (kk : Int) h0' hltz
   subst ea
   rw [Int.toNat_natCast] at hx
   replace hx := (HK.out.below.cell (World.block_lt_of_cell? wd _ hx)).trans hx
   obtain ⟨x, hx0⟩ : ∃ x, x = rd l0 (kk : Int) := ⟨_, rfl⟩
   rw [← hx0] at hx
   have HX : qAa (l0[kk]? = some x) := ⟨by rw [hx0]; exact qCv l0 0 kk (by have := HN0.out; omega)⟩
   have HLB : qAa ((bs ++ [(n0 : Int)] ++ byB (l0.take kk)).length ≤ 1000000000) := ⟨by have := HL.out; have := HN0.out; simp [byB]; omega⟩
   clear hx0
   go_wp2_with fail
   refine (qCb p _ v' _ wr HK.out.st HLB.out).mono ?_
   rintro e w2 ⟨v2, rfl, hst, hs⟩
   have HK2 : qAa (WK wd p w2 v2 (bs ++ [(n0 : Int)] ++ byB (l0.take (kk + 1)))) := ⟨by
     rw [byB_take l0 kk x HX.out, ← List.append_assoc, ← u8w]; exact HK.out.step hst hs⟩
   have HS2 := am (HS.out.trans hs)
   clear hst hs
   go_wp2
   go_roundg (n0 - (kk + 1))
   case measure => omega
   case rel => exact ⟨kk + 1, v2, by omega, by omega, by go_num, HK2, HS2⟩
  have hltz : ¬ (kk : Int) < (n0 : Int) := by omega
  have hkn : kk = n0 := by omega
  rw [show l0.take kk = l0 from List.take_of_length_le (by have := HN0.out; omega)] at HK
  obtain ⟨q0, q1, q2, q3⟩ := HB.out wr v' HS.out
  go_wp2_with fail
  clear hlt hg hkk HR0
  have HL3 : qAa ((bs ++ [(n0 : Int)] ++ byB l0).length ≤ 300000100) := ⟨by have := HL.out; have := HN0.out; simp [byB]; omega⟩
  refine (qCb p _ v' _ wr HK.out.st (by have := HL3.out; omega)).mono ?_
  rintro e w3 ⟨v3, rfl, hst, hs⟩
  have HK3 := am (HK.out.step hst hs)
  have HS3 := am (HS.out.trans hs)
  clear hst hs q0 q1 q2 q3 HK HS
  obtain ⟨q0, q1, q2, q3⟩ := HB.out w3 v3 HS3.out
  go_wp2_with fail
  refine (qCb p _ v3 _ w3 HK3.out.st (by have := HL3.out; rw [List.length_append]; simp only [List.length_cons, List.length_nil]; omega)).mono ?_
  rintro e w4 ⟨v4, rfl, hst, hs⟩
  have HK4 := am (HK3.out.step hst hs)
  have HS4 := am (HS3.out.trans hs)
  clear hst hs q0 q1 q2 q3 HK3 HS3
  obtain ⟨q0, q1, q2, q3⟩ := HB.out w4 v4 HS4.out
  obtain ⟨b4, hb4⟩ : ∃ b, b = bs ++ [(n0 : Int)] ++ byB l0 ++ [a1 % 256] ++ [(n2 : Int)] := ⟨_, rfl⟩
  rw [← hb4] at HK4
  have HB4 := am hb4
  have HL4 : qAa (b4.length ≤ 300000200) := ⟨by have := HL3.out; rw [hb4, List.length_append, List.length_append]; simp only [List.length_cons, List.length_nil]; omega⟩
  clear hb4
  go_wp2_with fail
  go_loopg [7, 45] n2 (fun gg _ s21 wr => ∃ (kk : Nat) (v' : Value), kk ≤ n2 ∧ n2 - kk ≤ gg ∧ s21 = .int .i64 kk ∧ qAa (WK wd p wr v' (b4 ++ byB (l2.take kk))) ∧ qAa (qBo p WA v wr v'))
  case atStart => exact ⟨0, v4, Nat.zero_le _, by omega, rfl, ⟨by rw [List.take_zero]; show WK wd p w4 v4 (b4 ++ []); rw [List.append_nil]; exact HK4.out⟩, HS4⟩
  case round =>
   clear q0 q1 q2 q3 HK4 HS4 hkn hltz
   obtain ⟨kk, v', hkk, hg, rfl, HK, HS⟩ := hrel
   by_cases hlt : kk < n2
   ·have hltz : (kk : Int) < (n2 : Int) := by omega
    have h0' : (0 : Int) ≤ (kk : Int) := by omega
    obtain ⟨ad, ea, hx⟩ := Kd.at_int HR2.out (kk : Int) h0' hltz
    subst ea
    rw [Int.toNat_natCast] at hx
    replace hx := (HK.out.below.cell (World.block_lt_of_cell? wd _ hx)).trans hx
    obtain ⟨x, hx0⟩ : ∃ x, x = rd l2 (kk : Int) := ⟨_, rfl⟩
    rw [← hx0] at hx
    have HX : qAa (l2[kk]? = some x) := ⟨by rw [hx0]; exact qCv l2 0 kk (by have := HN2.out; omega)⟩
    have HLB : qAa ((b4 ++ byB (l2.take kk)).length ≤ 1000000000) := ⟨by have := HL4.out; have := HN2.out; simp [byB]; omega⟩
    clear hx0
    go_wp2_with fail
    refine (qCb p _ v' _ wr HK.out.st HLB.out).mono ?_
    rintro e w2 ⟨v2, rfl, hst, hs⟩
    have HK2 : qAa (WK wd p w2 v2 (b4 ++ byB (l2.take (kk + 1)))) := ⟨by
      rw [byB_take l2 kk x HX.out, ← List.append_assoc, ← u8w]; exact HK.out.step hst hs⟩
    have HS2 := am (HS.out.trans hs)
    clear hst hs
    go_wp2
    go_roundg (n2 - (kk + 1))
    case measure => omega
    case rel => exact ⟨kk + 1, v2, by omega, by omega, by go_num, HK2, HS2⟩
   have hltz : ¬ (kk : Int) < (n2 : Int) := by omega
   rw [show l2.take kk = l2 from List.take_of_length_le (by have := HN2.out; omega)] at HK
   obtain ⟨q0, q1, q2, q3⟩ := HB.out wr v' HS.out
   have HL5 : qAa ((b4 ++ byB l2).length ≤ 300000300) := ⟨by have := HL4.out; have := HN2.out; simp [byB]; omega⟩
   clear hlt hg hkk HR2
   go_wp2_with fail
   refine (HE.out wr HK.out.below).mono ?_
   rintro e w5 ⟨hb, rr, rfl, ho⟩
   have HK5 := am (HK.out.below' hb)
   have HS5 := am (HS.out.trans (qBo.of_below hb))
   have HO := am ho
   have HPL := am HK.out.plt
   have HVL := am HK.out.vlt
   clear hb ho q0 q1 q2 q3 HK HS
   go_wp2_with fail
   refine (raw_out p wr.heap.size rr _ v' _ w5 HK5.out.st HO.out HPL.out HVL.out (by have := HL5.out; omega) (by have := HEL.out; omega)).mono ?_
   rintro e w6 ⟨v6, rfl, hst, hs⟩
   have HS6 := am (HSA.out.trans (HS5.out.trans hs))
   have HST : qAa (WrSt w6 p v6 (bs ++ fnB l0 a1 l2 l3)) := ⟨by
     have e : bs ++ fnB l0 a1 l2 l3 = b4 ++ byB l2 ++ rawB (encB (l3.map toD)) := by
       rw [HFB.out, HB4.out, Int.emod_eq_of_lt (by omega) (by omega : (n0 : Int) < 256), Int.emod_eq_of_lt (by omega) (by omega : (n2 : Int) < 256)]
       simp only [List.append_assoc]
     rw [e]; exact hst⟩
   clear hst hs
   go_wp2
   go_end0
   exact ⟨v6, rfl, HST.out, HS6.out⟩
theorem WK.alloc {wd W : World} {p : Nat} {v : Value} {bs : List Int} (h : WK wd p W v bs) (o : Obj) : WK wd p (W.alloc o) v bs := h.below' ((Below.refl _ _).alloc (Nat.le_refl _) _)
theorem qBY (p : Nat) (W : World) (v : Value) (o : Obj) : qBo p W v (W.alloc o) v := qBo.of_below ((Below.refl _ _).alloc (Nat.le_refl _) _)
theorem WK.box {wd W W' : World} {p : Nat} {v v' : Value} {bs : List Int} {cs : Array Value} {t : TypeId} (h : WK wd p W v bs) (hs : qBo p (W.alloc (.cells cs t)) v W' v') (i : Nat) (x : Value) (hx : cs[i]? = some x) : W'.cell? ⟨W.heap.size, i, none⟩ = some x := by
 rw [hs.cell (a := ⟨W.heap.size, i, none⟩) (by simp) (Nat.ne_of_gt h.plt) (fun e => absurd (h.vlt _ e.symm) (Nat.lt_irrefl _)), World.cell?_alloc_at _ _ _ _ rfl]
 exact hx
def varB (x : S85) : List Int := rawB (qBu x.f0) ++ ([x.f1.f0 % 256] ++ be x.f1.f1 8 8)
def nfnB (x : S92) : List Int := rawB (qBu x.f0) ++ fnB x.f1.f0.f0 x.f1.f0.f1 x.f1.f1 x.f1.f2
def relB (x : S104) : List Int := be x.f0 2 2 ++ (be x.f1 2 2 ++ ([x.f2 % 256] ++ (rawB (qBu x.f3) ++ rawB (qBu x.f4))))
theorem qFn {α : Type} (f : α → List Int) (l : List α) (k : Nat) (x : α) (h : l[k]? = some x) : (l.take (k + 1)).flatMap f = (l.take k).flatMap f ++ f x := by
 obtain ⟨hk, he⟩ := List.getElem?_eq_some_iff.1 h
 rw [List.take_succ_eq_append_getElem hk, List.flatMap_append, he]; simp
theorem qDJ {α : Type} (f : α → List Int) (l : List α) (m : Nat) (h : ∀ x ∈ l, (f x).length ≤ m) : (l.flatMap f).length ≤ l.length * m := by
 induction l with
 | nil => simp
 | cons x l ih =>
  have h1 := h x List.mem_cons_self
  have h2 := ih fun y hy => h y (List.mem_cons_of_mem _ hy)
  rw [List.flatMap_cons, List.length_append, List.length_cons]
  have : (l.length + 1) * m = l.length * m + m := by rw [Nat.add_mul, Nat.one_mul]
  omega
theorem rawB_len (ys : List Int) : (rawB ys).length = 4 + ys.length := by unfold rawB; rw [List.length_append, qAQ]
theorem qBS (s : ByteArray) : (rawB (qBu s)).length = 4 + s.size := by rw [rawB_len, qBH]
def qBQ (s : ByteArray) : Prop := s.size ≤ 32
theorem varB_len (x : S85) (h : qBQ x.f0) : (varB x).length ≤ 45 := by
 unfold qBQ at h; unfold varB; rw [List.length_append, qBS, List.length_append, qAQ]; simp only [List.length_cons, List.length_nil]; omega
theorem relB_len (x : S104) (h : qBQ x.f3) (h4 : qBQ x.f4) : (relB x).length ≤ 77 := by
 unfold qBQ at h h4; unfold relB
 rw [List.length_append, qAQ, List.length_append, qAQ, List.length_append, List.length_append, qBS, qBS]; simp only [List.length_cons, List.length_nil]; omega
def okFnS (x : S92) : Prop := x.f1.f0.f0.length ≤ 8 ∧ x.f1.f1.length ≤ 64 ∧ x.f1.f2.length ≤ 4096 ∧ x.f1.f2.all okS = true ∧ x.f1.f2.all u64S = true
theorem fnB_len (l0 : List Int) (a1 : Int) (l2 : List Int) (l3 : List S144) (h0 : l0.length ≤ 8) (h2 : l2.length ≤ 64) (h3 : l3.length ≤ 4096) : (fnB l0 a1 l2 l3).length ≤ 41050 := by
 have := encB_len (l3.map toD)
 rw [List.length_map] at this
 unfold fnB byB
 simp only [List.length_append, List.length_cons, List.length_nil, List.length_map, rawB_len]
 omega
theorem nfnB_len (x : S92) (h : qBQ x.f0) (hf : okFnS x) : (nfnB x).length ≤ 41100 := by
 unfold qBQ at h; unfold nfnB
 have := fnB_len x.f1.f0.f0 x.f1.f0.f1 x.f1.f1 x.f1.f2 hf.1 hf.2.1 hf.2.2.1
 rw [List.length_append, qBS]; omega
theorem vars_any (p : Nat) (a0 : ByteArray) (A1 : Option Addr) (n1 c1 : Nat) (A2 : Option Addr) (n2 c2 : Nat) (A3 : Option Addr) (n3 c3 : Nat) (l : List S85) (v : Value) (bs : List Int) (wd w : World) (hk : WK wd p w v bs)
  (hn : l.length = n1) (hr : Kd.C k85 wd A1 n1 l) (hl : l.length ≤ 64) (hok : ∀ x ∈ l, qBQ x.f0 ∧ 0 ≤ x.f1.f1 ∧ x.f1.f1 < 18446744073709551616) (hb : bs.length ≤ 100000) :
  Calls Tryz.prog 44 #[.agg #[.pointer (some ⟨p, 0, none⟩)], .agg #[.string a0, .slice A1 n1 c1, .slice A2 n2 c2, .slice A3 n3 c3]] w (qCk p (bs ++ (be l.length 4 4 ++ l.flatMap varB)) w v) := by
 obtain ⟨nn, hnn⟩ : ∃ m, m = n1 := ⟨_, rfl⟩
 obtain ⟨W0, hW0⟩ : ∃ W0, W0 = w.alloc (.cells #[.pointer (some ⟨p, 0, none⟩)] 114) := ⟨_, rfl⟩
 obtain ⟨WA, hWA⟩ : ∃ WA, WA = W0.alloc (.cells #[.string a0, .slice A1 n1 c1, .slice A2 n2 c2, .slice A3 n3 c3] 33) := ⟨_, rfl⟩
 have hK0 : WK wd p W0 v bs := hW0 ▸ hk.alloc _
 have hKA : WK wd p WA v bs := hWA ▸ hK0.alloc _
 have hS0 : qBo p w v W0 v := hW0 ▸ qBY p w v _
 have hSA0 : qBo p W0 v WA v := hWA ▸ qBY p W0 v _
 have hz0 : W0.heap.size = w.heap.size + 1 := by rw [hW0]; simp
 have HB : qAa (∀ W' v', qBo p WA v W' v' → W'.cell? ⟨w.heap.size, 0, none⟩ = some (.pointer (some ⟨p, 0, none⟩)) ∧ W'.cell? ⟨w.heap.size + 1, 1, none⟩ = some (.slice A1 n1 c1)) := ⟨fun W' v' hs => by
   have hs0 := hSA0.trans hs
   rw [hW0] at hs0
   have h2 := hK0.box (hWA ▸ hs) 1 (.slice A1 n1 c1) rfl
   rw [hz0] at h2
   exact ⟨hk.box hs0 0 _ rfl, h2⟩⟩
 have HWA : qAa (WA = (w.alloc (.cells #[.pointer (some ⟨p, 0, none⟩)] 114)).alloc (.cells #[.string a0, .slice A1 n1 c1, .slice A2 n2 c2, .slice A3 n3 c3] 33)) := ⟨by rw [← hW0]; exact hWA⟩
 have HKA := am hKA
 have HSA := am (hS0.trans hSA0)
 have HR := am hr
 have HN := am hn
 have HOK := am hok
 have HBL := am hb
 have hgA : w.heap.size + 1 < WA.heap.size := by rw [hWA]; simp [hz0]
 rw [hn] at hl
 clear hk hr hok hb hK0 hKA hS0 hSA0 hz0 hW0 hWA hnn
 clear hn
 go_enter Tryz.func44, Tryz.ntmps44
 go_wp2_with fail
 rw [← HWA.out]
 obtain ⟨q0, q1⟩ := HB.out WA v (qBo.refl _ _ _)
 go_wp2_with fail
 refine (qFt p (n1 : Int) v bs WA HKA.out.st (by omega) (by omega) (by have := HBL.out; omega)).mono ?_
 rintro e w1 ⟨v1, rfl, hst, hs⟩
 have HK1 := am (HKA.out.step hst hs)
 have HS1 := am hs
 clear hst hs q0 q1
 obtain ⟨q0, q1⟩ := HB.out w1 v1 HS1.out
 obtain ⟨b1, hb1⟩ : ∃ b, b = bs ++ be (n1 : Int) 4 4 := ⟨_, rfl⟩
 rw [← hb1] at HK1
 have HB1 := am hb1
 have HL1 : qAa (b1.length ≤ 100004) := ⟨by have := HBL.out; rw [hb1, List.length_append, qAQ]; omega⟩
 clear hb1
 go_wp2_with fail
 go_loopg [5, 15] n1 (fun gg _ s15 wr => ∃ (kk : Nat) (v' : Value), kk ≤ n1 ∧ n1 - kk ≤ gg ∧ s15 = .int .i64 kk ∧ qAa (WK wd p wr v' (b1 ++ (l.take kk).flatMap varB)) ∧ qAa (qBo p WA v wr v'))
 case atStart => exact ⟨0, v1, Nat.zero_le _, by omega, rfl, ⟨by rw [List.take_zero]; show WK wd p w1 v1 (b1 ++ []); rw [List.append_nil]; exact HK1.out⟩, HS1⟩
 case round =>
  clear q0 q1 HK1 HS1
  obtain ⟨kk, v', hkk, hg, rfl, HK, HS⟩ := hrel
  by_cases hlt : kk < n1
  rotate_left
  ·have hltz : ¬ (kk : Int) < (n1 : Int) := by omega
   rw [show l.take kk = l from List.take_of_length_le (by have := HN.out; omega)] at HK
   go_wp2
   go_end0
   exact ⟨v', rfl, by rw [HN.out, ← List.append_assoc, ← HB1.out]; exact HK.out.st, HSA.out.trans HS.out⟩
  have hltz : (kk : Int) < (n1 : Int) := by omega
  have h0' : (0 : Int) ≤ (kk : Int) := by omega
  obtain ⟨ad, ea, hx0, hx1, hx2⟩ := at_T85 HR.out (kk : Int) h0' hltz
  subst ea
  rw [Int.toNat_natCast] at hx0 hx1 hx2
  replace hx0 := (HK.out.below.cell (World.block_lt_of_cell? wd _ hx0)).trans hx0
  replace hx1 := (HK.out.below.cell (World.block_lt_of_cell? wd _ hx1)).trans hx1
  replace hx2 := (HK.out.below.cell (World.block_lt_of_cell? wd _ hx2)).trans hx2
  obtain ⟨x, hx⟩ : ∃ x, x = qBk l (kk : Int) := ⟨_, rfl⟩
  rw [← hx] at hx0 hx1 hx2
  have HX : qAa (l[kk]? = some x) := ⟨by rw [hx]; exact qCv l z85 kk (by have := HN.out; omega)⟩
  have HO := am (HOK.out x (List.mem_of_getElem? HX.out))
  have HLB : qAa ((b1 ++ (l.take kk).flatMap varB).length ≤ 102884) := ⟨by
    have h1 := qDJ varB (l.take kk) 45 (fun y hy => by have hy := HOK.out y (List.mem_of_mem_take hy); exact varB_len y hy.1)
    have h2 := HL1.out
    have h3 : (l.take kk).length ≤ 64 := by have := HN.out; rw [List.length_take]; omega
    rw [List.length_append]; omega⟩
  clear hx
  obtain ⟨q0, q1⟩ := HB.out wr v' HS.out
  obtain ⟨b2, hb2⟩ : ∃ b, b = b1 ++ (l.take kk).flatMap varB := ⟨_, rfl⟩
  rw [← hb2] at HK HLB
  have HB2 := am hb2
  clear hb2
  obtain ⟨WB, hWB⟩ : ∃ WB, WB = wr.alloc (.cells #[.string x.f0, .int .i64 x.f1.f0, .int .u64 x.f1.f1] 85) := ⟨_, rfl⟩
  have HKB : qAa (WK wd p WB v' b2) := ⟨hWB ▸ HK.out.alloc _⟩
  have HSB : qAa (qBo p WA v WB v') := ⟨HS.out.trans (hWB ▸ qBY p wr v' _)⟩
  have hgB : wr.heap.size < WB.heap.size := by rw [hWB]; simp
  have HBX : qAa (∀ W' v'', qBo p WB v' W' v'' → W'.cell? ⟨wr.heap.size, 0, none⟩ = some (.string x.f0) ∧ W'.cell? ⟨wr.heap.size, 1, none⟩ = some (.int .i64 x.f1.f0) ∧ W'.cell? ⟨wr.heap.size, 2, none⟩ = some (.int .u64 x.f1.f1)) := ⟨fun W' v'' hs => ⟨HK.out.box (hWB ▸ hs) 0 _ rfl, HK.out.box (hWB ▸ hs) 1 _ rfl, HK.out.box (hWB ▸ hs) 2 _ rfl⟩⟩
  have HWB := am hWB
  clear hWB
  have hgw : w.heap.size + 1 < wr.heap.size := Nat.lt_of_lt_of_le hgA HS.out.size
  have hgw0 : w.heap.size < wr.heap.size := by omega
  go_wp2_with fail
  rw [← HWB.out]
  clear q0 q1 hx0 hx1 hx2 HK HS hgw hgw0
  refine (qEt p x.f0 v' _ WB HKB.out.st (by have := HLB.out; omega) (by have := HO.out.1; unfold qBQ at this; omega)).mono ?_
  rintro e y0 ⟨u0, rfl, hst, hs⟩
  have HK10 := am (HKB.out.step hst hs)
  have HS10 := am (HSB.out.trans hs)
  have HR10 := am ((qBo.refl p WB v').trans hs)
  clear hst hs
  obtain ⟨q0, q1⟩ := HB.out y0 u0 HS10.out
  obtain ⟨x0, x1, x2⟩ := HBX.out y0 u0 HR10.out
  go_wp2_with fail
  refine (qCb p _ u0 _ y0 HK10.out.st (by have := HLB.out; have hz := HO.out.1; unfold qBQ at hz; simp only [List.length_append, qBS]; omega)).mono ?_
  rintro e y1 ⟨u1, rfl, hst, hs⟩
  have HK11 := am (HK10.out.step hst hs)
  have HS11 := am (HS10.out.trans hs)
  have HR11 := am (HR10.out.trans hs)
  clear hst hs q0 q1 x0 x1 x2
  obtain ⟨q0, q1⟩ := HB.out y1 u1 HS11.out
  obtain ⟨x0, x1, x2⟩ := HBX.out y1 u1 HR11.out
  go_wp2_with fail
  refine (long_any p x.f1.f1 u1 _ y1 HK11.out.st HO.out.2.1 (by have := HO.out.2.2; omega) (by have := HLB.out; have hz := HO.out.1; unfold qBQ at hz; simp only [List.length_append, List.length_cons, List.length_nil, qBS]; omega)).mono ?_
  rintro e y2 ⟨u2, rfl, hst, hs⟩
  have HK12 := am (HK11.out.step hst hs)
  have HS12 := am (HS11.out.trans hs)
  clear hst hs q0 q1 x0 x1 x2
  have HKN : qAa (WK wd p y2 u2 (b1 ++ (l.take (kk + 1)).flatMap varB)) := ⟨by
    rw [qFn varB l kk x HX.out, ← List.append_assoc, ← HB2.out]; unfold varB; simpa only [List.append_assoc] using HK12.out⟩
  go_wp2
  go_roundg (n1 - (kk + 1))
  case measure => omega
  case rel => exact ⟨kk + 1, u2, by omega, by omega, by go_num, HKN, ⟨HS12.out⟩⟩
theorem fns_any (p : Nat) (a0 : ByteArray) (A1 : Option Addr) (n1 c1 : Nat) (A2 : Option Addr) (n2 c2 : Nat) (A3 : Option Addr) (n3 c3 : Nat) (l : List S92) (v : Value) (bs : List Int) (wd w : World) (hk : WK wd p w v bs)
  (hn : l.length = n2) (hr : Kd.C k92 wd A2 n2 l) (hl : l.length ≤ 64) (hok : ∀ x ∈ l, qBQ x.f0 ∧ okFnS x) (hb : bs.length ≤ 200000) :
  Calls Tryz.prog 45 #[.agg #[.pointer (some ⟨p, 0, none⟩)], .agg #[.string a0, .slice A1 n1 c1, .slice A2 n2 c2, .slice A3 n3 c3]] w (qCk p (bs ++ (be l.length 4 4 ++ l.flatMap nfnB)) w v) := by
 obtain ⟨nn, hnn⟩ : ∃ m, m = n2 := ⟨_, rfl⟩
 obtain ⟨W0, hW0⟩ : ∃ W0, W0 = w.alloc (.cells #[.pointer (some ⟨p, 0, none⟩)] 114) := ⟨_, rfl⟩
 obtain ⟨WA, hWA⟩ : ∃ WA, WA = W0.alloc (.cells #[.string a0, .slice A1 n1 c1, .slice A2 n2 c2, .slice A3 n3 c3] 33) := ⟨_, rfl⟩
 have hK0 : WK wd p W0 v bs := hW0 ▸ hk.alloc _
 have hKA : WK wd p WA v bs := hWA ▸ hK0.alloc _
 have hS0 : qBo p w v W0 v := hW0 ▸ qBY p w v _
 have hSA0 : qBo p W0 v WA v := hWA ▸ qBY p W0 v _
 have hz0 : W0.heap.size = w.heap.size + 1 := by rw [hW0]; simp
 have HB : qAa (∀ W' v', qBo p WA v W' v' → W'.cell? ⟨w.heap.size, 0, none⟩ = some (.pointer (some ⟨p, 0, none⟩)) ∧ W'.cell? ⟨w.heap.size + 1, 2, none⟩ = some (.slice A2 n2 c2)) := ⟨fun W' v' hs => by
   have hs0 := hSA0.trans hs
   rw [hW0] at hs0
   have h2 := hK0.box (hWA ▸ hs) 2 (.slice A2 n2 c2) rfl
   rw [hz0] at h2
   exact ⟨hk.box hs0 0 _ rfl, h2⟩⟩
 have HWA : qAa (WA = (w.alloc (.cells #[.pointer (some ⟨p, 0, none⟩)] 114)).alloc (.cells #[.string a0, .slice A1 n1 c1, .slice A2 n2 c2, .slice A3 n3 c3] 33)) := ⟨by rw [← hW0]; exact hWA⟩
 have HKA := am hKA
 have HSA := am (hS0.trans hSA0)
 have HR := am hr
 have HN := am hn
 have HOK := am hok
 have HBL := am hb
 have hgA : w.heap.size + 1 < WA.heap.size := by rw [hWA]; simp [hz0]
 rw [hn] at hl
 clear hk hr hok hb hK0 hKA hS0 hSA0 hz0 hW0 hWA hnn
 clear hn
 go_enter Tryz.func45, Tryz.ntmps45
 go_wp2_with fail
 rw [← HWA.out]
 obtain ⟨q0, q1⟩ := HB.out WA v (qBo.refl _ _ _)
 go_wp2_with fail
 refine (qFt p (n2 : Int) v bs WA HKA.out.st (by omega) (by omega) (by have := HBL.out; omega)).mono ?_
 rintro e w1 ⟨v1, rfl, hst, hs⟩
 have HK1 := am (HKA.out.step hst hs)
 have HS1 := am hs
 clear hst hs q0 q1
 obtain ⟨q0, q1⟩ := HB.out w1 v1 HS1.out
 obtain ⟨b1, hb1⟩ : ∃ b, b = bs ++ be (n2 : Int) 4 4 := ⟨_, rfl⟩
 rw [← hb1] at HK1
 have HB1 := am hb1
 have HL1 : qAa (b1.length ≤ 200004) := ⟨by have := HBL.out; rw [hb1, List.length_append, qAQ]; omega⟩
 clear hb1
 go_wp2_with fail
 go_loopg [5, 15] n2 (fun gg _ s15 wr => ∃ (kk : Nat) (v' : Value), kk ≤ n2 ∧ n2 - kk ≤ gg ∧ s15 = .int .i64 kk ∧ qAa (WK wd p wr v' (b1 ++ (l.take kk).flatMap nfnB)) ∧ qAa (qBo p WA v wr v'))
 case atStart => exact ⟨0, v1, Nat.zero_le _, by omega, rfl, ⟨by rw [List.take_zero]; show WK wd p w1 v1 (b1 ++ []); rw [List.append_nil]; exact HK1.out⟩, HS1⟩
 case round =>
  clear q0 q1 HK1 HS1
  obtain ⟨kk, v', hkk, hg, rfl, HK, HS⟩ := hrel
  by_cases hlt : kk < n2
  rotate_left
  ·have hltz : ¬ (kk : Int) < (n2 : Int) := by omega
   rw [show l.take kk = l from List.take_of_length_le (by have := HN.out; omega)] at HK
   go_wp2
   go_end0
   exact ⟨v', rfl, by rw [HN.out, ← List.append_assoc, ← HB1.out]; exact HK.out.st, HSA.out.trans HS.out⟩
  have hltz : (kk : Int) < (n2 : Int) := by omega
  have h0' : (0 : Int) ≤ (kk : Int) := by omega
  obtain ⟨ad, B1, d1, B3, d3, B4, d4, ea, hx0, hx1, hx2, hx3, hx4, hl1, hC1, hl3, hC3, hl4, hC4⟩ := qFg HR.out (kk : Int) h0' hltz
  subst ea
  rw [Int.toNat_natCast] at hx0 hx1 hx2 hx3 hx4
  replace hx0 := (HK.out.below.cell (World.block_lt_of_cell? wd _ hx0)).trans hx0
  replace hx1 := (HK.out.below.cell (World.block_lt_of_cell? wd _ hx1)).trans hx1
  replace hx2 := (HK.out.below.cell (World.block_lt_of_cell? wd _ hx2)).trans hx2
  replace hx3 := (HK.out.below.cell (World.block_lt_of_cell? wd _ hx3)).trans hx3
  replace hx4 := (HK.out.below.cell (World.block_lt_of_cell? wd _ hx4)).trans hx4
  obtain ⟨x, hx⟩ : ∃ x, x = qAt l (kk : Int) := ⟨_, rfl⟩
  rw [← hx] at hx0 hx1 hx2 hx3 hx4 hC1 hC3 hC4
  have HC1 := am hC1
  have HC3 := am hC3
  have HC4 := am hC4
  clear hl1 hl3 hl4 hC1 hC3 hC4
  have HX : qAa (l[kk]? = some x) := ⟨by rw [hx]; exact qCv l z92 kk (by have := HN.out; omega)⟩
  have HO := am (HOK.out x (List.mem_of_getElem? HX.out))
  have HLB : qAa ((b1 ++ (l.take kk).flatMap nfnB).length ≤ 2830404) := ⟨by
    have h1 := qDJ nfnB (l.take kk) 41100 (fun y hy => by have hy := HOK.out y (List.mem_of_mem_take hy); exact nfnB_len y hy.1 hy.2)
    have h2 := HL1.out
    have h3 : (l.take kk).length ≤ 64 := by have := HN.out; rw [List.length_take]; omega
    rw [List.length_append]; omega⟩
  clear hx
  obtain ⟨q0, q1⟩ := HB.out wr v' HS.out
  obtain ⟨b2, hb2⟩ : ∃ b, b = b1 ++ (l.take kk).flatMap nfnB := ⟨_, rfl⟩
  rw [← hb2] at HK HLB
  have HB2 := am hb2
  clear hb2
  obtain ⟨WB, hWB⟩ : ∃ WB, WB = wr.alloc (.cells #[.string x.f0, .slice B1 x.f1.f0.f0.length d1, .int .i64 x.f1.f0.f1, .slice B3 x.f1.f1.length d3, .slice B4 x.f1.f2.length d4] 92) := ⟨_, rfl⟩
  have HKB : qAa (WK wd p WB v' b2) := ⟨hWB ▸ HK.out.alloc _⟩
  have HSB : qAa (qBo p WA v WB v') := ⟨HS.out.trans (hWB ▸ qBY p wr v' _)⟩
  have hgB : wr.heap.size < WB.heap.size := by rw [hWB]; simp
  have HBX : qAa (∀ W' v'', qBo p WB v' W' v'' → W'.cell? ⟨wr.heap.size, 0, none⟩ = some (.string x.f0) ∧ W'.cell? ⟨wr.heap.size, 1, none⟩ = some (.slice B1 x.f1.f0.f0.length d1) ∧ W'.cell? ⟨wr.heap.size, 2, none⟩ = some (.int .i64 x.f1.f0.f1) ∧ W'.cell? ⟨wr.heap.size, 3, none⟩ = some (.slice B3 x.f1.f1.length d3) ∧ W'.cell? ⟨wr.heap.size, 4, none⟩ = some (.slice B4 x.f1.f2.length d4)) := ⟨fun W' v'' hs => ⟨HK.out.box (hWB ▸ hs) 0 _ rfl, HK.out.box (hWB ▸ hs) 1 _ rfl, HK.out.box (hWB ▸ hs) 2 _ rfl, HK.out.box (hWB ▸ hs) 3 _ rfl, HK.out.box (hWB ▸ hs) 4 _ rfl⟩⟩
  have HWB := am hWB
  clear hWB
  have hgw : w.heap.size + 1 < wr.heap.size := Nat.lt_of_lt_of_le hgA HS.out.size
  have hgw0 : w.heap.size < wr.heap.size := by omega
  go_wp2_with fail
  rw [← HWB.out]
  clear q0 q1 hx0 hx1 hx2 hx3 hx4 HK HS hgw hgw0
  refine (qEt p x.f0 v' _ WB HKB.out.st (by have := HLB.out; omega) (by have := HO.out.1; unfold qBQ at this; omega)).mono ?_
  rintro e y0 ⟨u0, rfl, hst, hs⟩
  have HK10 := am (HKB.out.step hst hs)
  have HS10 := am (HSB.out.trans hs)
  have HR10 := am ((qBo.refl p WB v').trans hs)
  clear hst hs
  obtain ⟨q0, q1⟩ := HB.out y0 u0 HS10.out
  obtain ⟨x0, x1, x2, x3, x4⟩ := HBX.out y0 u0 HR10.out
  go_wp2_with fail
  refine (fn_any p B1 d1 _ _ B3 d3 _ B4 d4 _ u0 _ wd y0 HK10.out HC1.out HC3.out HC4.out HO.out.2.1 HO.out.2.2.1 HO.out.2.2.2.1 HO.out.2.2.2.2.1 HO.out.2.2.2.2.2 (by have := HLB.out; have hz := HO.out.1; unfold qBQ at hz; simp only [List.length_append, qBS]; omega)).mono ?_
  rintro e y1 ⟨u1, rfl, hst, hs⟩
  have HK11 := am (HK10.out.step hst hs)
  have HS11 := am (HS10.out.trans hs)
  clear hst hs q0 q1 x0 x1 x2 x3 x4
  have HKN : qAa (WK wd p y1 u1 (b1 ++ (l.take (kk + 1)).flatMap nfnB)) := ⟨by
    rw [qFn nfnB l kk x HX.out, ← List.append_assoc, ← HB2.out]; unfold nfnB; simpa only [List.append_assoc] using HK11.out⟩
  go_wp2
  go_roundg (n2 - (kk + 1))
  case measure => omega
  case rel => exact ⟨kk + 1, u1, by omega, by omega, by go_num, HKN, ⟨HS11.out⟩⟩
theorem rels_any (p : Nat) (a0 : ByteArray) (A1 : Option Addr) (n1 c1 : Nat) (A2 : Option Addr) (n2 c2 : Nat) (A3 : Option Addr) (n3 c3 : Nat) (l : List S104) (v : Value) (bs : List Int) (wd w : World) (hk : WK wd p w v bs)
  (hn : l.length = n3) (hr : Kd.C k104 wd A3 n3 l) (hl : l.length ≤ 262144) (hok : ∀ x ∈ l, qBQ x.f3 ∧ qBQ x.f4 ∧ 0 ≤ x.f0 ∧ x.f0 ≤ 9223372036854775807 ∧ 0 ≤ x.f1 ∧ x.f1 ≤ 9223372036854775807) (hb : bs.length ≤ 100000000) :
  Calls Tryz.prog 46 #[.agg #[.pointer (some ⟨p, 0, none⟩)], .agg #[.string a0, .slice A1 n1 c1, .slice A2 n2 c2, .slice A3 n3 c3]] w (qCk p (bs ++ (be l.length 4 4 ++ l.flatMap relB)) w v) := by
 obtain ⟨nn, hnn⟩ : ∃ m, m = n3 := ⟨_, rfl⟩
 obtain ⟨W0, hW0⟩ : ∃ W0, W0 = w.alloc (.cells #[.pointer (some ⟨p, 0, none⟩)] 114) := ⟨_, rfl⟩
 obtain ⟨WA, hWA⟩ : ∃ WA, WA = W0.alloc (.cells #[.string a0, .slice A1 n1 c1, .slice A2 n2 c2, .slice A3 n3 c3] 33) := ⟨_, rfl⟩
 have hK0 : WK wd p W0 v bs := hW0 ▸ hk.alloc _
 have hKA : WK wd p WA v bs := hWA ▸ hK0.alloc _
 have hS0 : qBo p w v W0 v := hW0 ▸ qBY p w v _
 have hSA0 : qBo p W0 v WA v := hWA ▸ qBY p W0 v _
 have hz0 : W0.heap.size = w.heap.size + 1 := by rw [hW0]; simp
 have HB : qAa (∀ W' v', qBo p WA v W' v' → W'.cell? ⟨w.heap.size, 0, none⟩ = some (.pointer (some ⟨p, 0, none⟩)) ∧ W'.cell? ⟨w.heap.size + 1, 3, none⟩ = some (.slice A3 n3 c3)) := ⟨fun W' v' hs => by
   have hs0 := hSA0.trans hs
   rw [hW0] at hs0
   have h2 := hK0.box (hWA ▸ hs) 3 (.slice A3 n3 c3) rfl
   rw [hz0] at h2
   exact ⟨hk.box hs0 0 _ rfl, h2⟩⟩
 have HWA : qAa (WA = (w.alloc (.cells #[.pointer (some ⟨p, 0, none⟩)] 114)).alloc (.cells #[.string a0, .slice A1 n1 c1, .slice A2 n2 c2, .slice A3 n3 c3] 33)) := ⟨by rw [← hW0]; exact hWA⟩
 have HKA := am hKA
 have HSA := am (hS0.trans hSA0)
 have HR := am hr
 have HN := am hn
 have HOK := am hok
 have HBL := am hb
 have hgA : w.heap.size + 1 < WA.heap.size := by rw [hWA]; simp [hz0]
 rw [hn] at hl
 clear hk hr hok hb hK0 hKA hS0 hSA0 hz0 hW0 hWA hnn
 clear hn
 go_enter Tryz.func46, Tryz.ntmps46
 go_wp2_with fail
 rw [← HWA.out]
 obtain ⟨q0, q1⟩ := HB.out WA v (qBo.refl _ _ _)
 go_wp2_with fail
 refine (qFt p (n3 : Int) v bs WA HKA.out.st (by omega) (by omega) (by have := HBL.out; omega)).mono ?_
 rintro e w1 ⟨v1, rfl, hst, hs⟩
 have HK1 := am (HKA.out.step hst hs)
 have HS1 := am hs
 clear hst hs q0 q1
 obtain ⟨q0, q1⟩ := HB.out w1 v1 HS1.out
 obtain ⟨b1, hb1⟩ : ∃ b, b = bs ++ be (n3 : Int) 4 4 := ⟨_, rfl⟩
 rw [← hb1] at HK1
 have HB1 := am hb1
 have HL1 : qAa (b1.length ≤ 100000004) := ⟨by have := HBL.out; rw [hb1, List.length_append, qAQ]; omega⟩
 clear hb1
 go_wp2_with fail
 go_loopg [5, 15] n3 (fun gg _ s15 wr => ∃ (kk : Nat) (v' : Value), kk ≤ n3 ∧ n3 - kk ≤ gg ∧ s15 = .int .i64 kk ∧ qAa (WK wd p wr v' (b1 ++ (l.take kk).flatMap relB)) ∧ qAa (qBo p WA v wr v'))
 case atStart => exact ⟨0, v1, Nat.zero_le _, by omega, rfl, ⟨by rw [List.take_zero]; show WK wd p w1 v1 (b1 ++ []); rw [List.append_nil]; exact HK1.out⟩, HS1⟩
 case round =>
  clear q0 q1 HK1 HS1
  obtain ⟨kk, v', hkk, hg, rfl, HK, HS⟩ := hrel
  by_cases hlt : kk < n3
  rotate_left
  ·have hltz : ¬ (kk : Int) < (n3 : Int) := by omega
   rw [show l.take kk = l from List.take_of_length_le (by have := HN.out; omega)] at HK
   go_wp2
   go_end0
   exact ⟨v', rfl, by rw [HN.out, ← List.append_assoc, ← HB1.out]; exact HK.out.st, HSA.out.trans HS.out⟩
  have hltz : (kk : Int) < (n3 : Int) := by omega
  have h0' : (0 : Int) ≤ (kk : Int) := by omega
  obtain ⟨ad, ea, hx0, hx1, hx2, hx3, hx4⟩ := qDQ HR.out (kk : Int) h0' hltz
  subst ea
  rw [Int.toNat_natCast] at hx0 hx1 hx2 hx3 hx4
  replace hx0 := (HK.out.below.cell (World.block_lt_of_cell? wd _ hx0)).trans hx0
  replace hx1 := (HK.out.below.cell (World.block_lt_of_cell? wd _ hx1)).trans hx1
  replace hx2 := (HK.out.below.cell (World.block_lt_of_cell? wd _ hx2)).trans hx2
  replace hx3 := (HK.out.below.cell (World.block_lt_of_cell? wd _ hx3)).trans hx3
  replace hx4 := (HK.out.below.cell (World.block_lt_of_cell? wd _ hx4)).trans hx4
  obtain ⟨x, hx⟩ : ∃ x, x = qC9 l (kk : Int) := ⟨_, rfl⟩
  rw [← hx] at hx0 hx1 hx2 hx3 hx4
  have HX : qAa (l[kk]? = some x) := ⟨by rw [hx]; exact qCv l z104 kk (by have := HN.out; omega)⟩
  have HO := am (HOK.out x (List.mem_of_getElem? HX.out))
  have HLB : qAa ((b1 ++ (l.take kk).flatMap relB).length ≤ 120185092) := ⟨by
    have h1 := qDJ relB (l.take kk) 77 (fun y hy => by have hy := HOK.out y (List.mem_of_mem_take hy); exact relB_len y hy.1 hy.2.1)
    have h2 := HL1.out
    have h3 : (l.take kk).length ≤ 262144 := by have := HN.out; rw [List.length_take]; omega
    rw [List.length_append]; omega⟩
  clear hx
  obtain ⟨q0, q1⟩ := HB.out wr v' HS.out
  obtain ⟨b2, hb2⟩ : ∃ b, b = b1 ++ (l.take kk).flatMap relB := ⟨_, rfl⟩
  rw [← hb2] at HK HLB
  have HB2 := am hb2
  clear hb2
  obtain ⟨WB, hWB⟩ : ∃ WB, WB = wr.alloc (.cells #[.int .i64 x.f0, .int .i64 x.f1, .int .i64 x.f2, .string x.f3, .string x.f4] 104) := ⟨_, rfl⟩
  have HKB : qAa (WK wd p WB v' b2) := ⟨hWB ▸ HK.out.alloc _⟩
  have HSB : qAa (qBo p WA v WB v') := ⟨HS.out.trans (hWB ▸ qBY p wr v' _)⟩
  have hgB : wr.heap.size < WB.heap.size := by rw [hWB]; simp
  have HBX : qAa (∀ W' v'', qBo p WB v' W' v'' → W'.cell? ⟨wr.heap.size, 0, none⟩ = some (.int .i64 x.f0) ∧ W'.cell? ⟨wr.heap.size, 1, none⟩ = some (.int .i64 x.f1) ∧ W'.cell? ⟨wr.heap.size, 2, none⟩ = some (.int .i64 x.f2) ∧ W'.cell? ⟨wr.heap.size, 3, none⟩ = some (.string x.f3) ∧ W'.cell? ⟨wr.heap.size, 4, none⟩ = some (.string x.f4)) := ⟨fun W' v'' hs => ⟨HK.out.box (hWB ▸ hs) 0 _ rfl, HK.out.box (hWB ▸ hs) 1 _ rfl, HK.out.box (hWB ▸ hs) 2 _ rfl, HK.out.box (hWB ▸ hs) 3 _ rfl, HK.out.box (hWB ▸ hs) 4 _ rfl⟩⟩
  have HWB := am hWB
  clear hWB
  have hgw : w.heap.size + 1 < wr.heap.size := Nat.lt_of_lt_of_le hgA HS.out.size
  have hgw0 : w.heap.size < wr.heap.size := by omega
  go_wp2_with fail
  rw [← HWB.out]
  clear q0 q1 hx0 hx1 hx2 hx3 hx4 HK HS hgw hgw0
  refine (short_any p x.f0 v' _ WB HKB.out.st HO.out.2.2.1 HO.out.2.2.2.1 (by have := HLB.out; omega)).mono ?_
  rintro e y0 ⟨u0, rfl, hst, hs⟩
  have HK10 := am (HKB.out.step hst hs)
  have HS10 := am (HSB.out.trans hs)
  have HR10 := am ((qBo.refl p WB v').trans hs)
  clear hst hs
  obtain ⟨q0, q1⟩ := HB.out y0 u0 HS10.out
  obtain ⟨x0, x1, x2, x3, x4⟩ := HBX.out y0 u0 HR10.out
  go_wp2_with fail
  refine (short_any p x.f1 u0 _ y0 HK10.out.st HO.out.2.2.2.2.1 HO.out.2.2.2.2.2 (by have := HLB.out; have hz := HO.out.1; have hz2 := HO.out.2.1; unfold qBQ at hz hz2; simp only [List.length_append, qAQ]; omega)).mono ?_
  rintro e y1 ⟨u1, rfl, hst, hs⟩
  have HK11 := am (HK10.out.step hst hs)
  have HS11 := am (HS10.out.trans hs)
  have HR11 := am (HR10.out.trans hs)
  clear hst hs q0 q1 x0 x1 x2 x3 x4
  obtain ⟨q0, q1⟩ := HB.out y1 u1 HS11.out
  obtain ⟨x0, x1, x2, x3, x4⟩ := HBX.out y1 u1 HR11.out
  go_wp2_with fail
  refine (qCb p _ u1 _ y1 HK11.out.st (by have := HLB.out; have hz := HO.out.1; have hz2 := HO.out.2.1; unfold qBQ at hz hz2; simp only [List.length_append, qAQ]; omega)).mono ?_
  rintro e y2 ⟨u2, rfl, hst, hs⟩
  have HK12 := am (HK11.out.step hst hs)
  have HS12 := am (HS11.out.trans hs)
  have HR12 := am (HR11.out.trans hs)
  clear hst hs q0 q1 x0 x1 x2 x3 x4
  obtain ⟨q0, q1⟩ := HB.out y2 u2 HS12.out
  obtain ⟨x0, x1, x2, x3, x4⟩ := HBX.out y2 u2 HR12.out
  go_wp2_with fail
  refine (qEt p x.f3 u2 _ y2 HK12.out.st (by have := HLB.out; have hz := HO.out.1; have hz2 := HO.out.2.1; unfold qBQ at hz hz2; simp only [List.length_append, List.length_cons, List.length_nil, qAQ]; omega) (by have := HO.out.1; unfold qBQ at this; omega)).mono ?_
  rintro e y3 ⟨u3, rfl, hst, hs⟩
  have HK13 := am (HK12.out.step hst hs)
  have HS13 := am (HS12.out.trans hs)
  have HR13 := am (HR12.out.trans hs)
  clear hst hs q0 q1 x0 x1 x2 x3 x4
  obtain ⟨q0, q1⟩ := HB.out y3 u3 HS13.out
  obtain ⟨x0, x1, x2, x3, x4⟩ := HBX.out y3 u3 HR13.out
  go_wp2_with fail
  refine (qEt p x.f4 u3 _ y3 HK13.out.st (by have := HLB.out; have hz := HO.out.1; have hz2 := HO.out.2.1; unfold qBQ at hz hz2; simp only [List.length_append, List.length_cons, List.length_nil, qAQ, qBS]; omega) (by have := HO.out.2.1; unfold qBQ at this; omega)).mono ?_
  rintro e y4 ⟨u4, rfl, hst, hs⟩
  have HK14 := am (HK13.out.step hst hs)
  have HS14 := am (HS13.out.trans hs)
  clear hst hs q0 q1 x0 x1 x2 x3 x4
  have HKN : qAa (WK wd p y4 u4 (b1 ++ (l.take (kk + 1)).flatMap relB)) := ⟨by
    rw [qFn relB l kk x HX.out, ← List.append_assoc, ← HB2.out]; unfold relB; simpa only [List.append_assoc] using HK14.out⟩
  go_wp2
  go_roundg (n3 - (kk + 1))
  case measure => omega
  case rel => exact ⟨kk + 1, u4, by omega, by omega, by go_num, HKN, ⟨HS14.out⟩⟩
def qCo (m : ByteArray) (vars : List S85) (fns : List S92) (rels : List S104) : List Int :=
 [102, 111, 98, 106] ++ (rawB (qBu m) ++ ((be vars.length 4 4 ++ vars.flatMap varB) ++ ((be fns.length 4 4 ++ fns.flatMap nfnB) ++ (be rels.length 4 4 ++ rels.flatMap relB))))
theorem qEH {s : ByteArray} {l : List ByteArray} (h : qBy s l = 0) : Names.nameE s = 0 ∧ hasB l s = false := by
 unfold qBy at h
 split at h
 ·rename_i h1; exact absurd h h1
 rename_i h1
 split at h
 ·cases h
 rename_i h2; exact ⟨Decidable.not_not.mp h1, by simpa using h2⟩
theorem varsE_ok : ∀ (l : List S85) (ahead : List ByteArray), qDt ahead l = 0 → ∀ x ∈ l, Names.nameE x.f0 = 0 ∧ okV x.f1.f0 x.f1.f1 = true
 | [], _, _, x, hx => by cases hx
 | v :: vs, ahead, h, x, hx => by
  simp only [qDt] at h
  split at h
  ·rename_i h1; exact absurd h h1
  rename_i h1
  split at h
  ·cases h
  rename_i h2
  rcases List.mem_cons.1 hx with e | hx
  ·rw [e]; exact ⟨(qEH (Decidable.not_not.mp h1)).1, by simpa using h2⟩
  exact varsE_ok vs _ h x hx
theorem fnsE_ok : ∀ (l : List S92) (ahead : List ByteArray), fnsE ahead l = 0 → ∀ x ∈ l, Names.nameE x.f0 = 0 ∧ fnOk x = true
 | [], _, _, x, hx => by cases hx
 | v :: vs, ahead, h, x, hx => by
  simp only [fnsE] at h
  split at h
  ·rename_i h1; exact absurd h h1
  rename_i h1
  split at h
  ·cases h
  rename_i h2
  rcases List.mem_cons.1 hx with e | hx
  ·rw [e]; exact ⟨(qEH (Decidable.not_not.mp h1)).1, by simpa using h2⟩
  exact fnsE_ok vs _ h x hx
theorem qF5 : ∀ (l : List S104), qB3 l = 0 → ∀ x ∈ l, Names.nameE x.f3 = 0 ∧ Names.nameE x.f4 = 0
 | [], _, x, hx => by cases hx
 | r :: rs, h, x, hx => by
  simp only [qB3] at h
  split at h
  ·rename_i h1; exact absurd h h1
  rename_i h1
  split at h
  ·rename_i h2; exact absurd h h2
  rename_i h2
  rcases List.mem_cons.1 hx with e | hx
  ·rw [e]; exact ⟨Decidable.not_not.mp h1, Decidable.not_not.mp h2⟩
  exact qF5 rs h x hx
theorem qE0 : ∀ (a b : List S104), qBP a b = true → ∀ x ∈ a, ∃ y ∈ b, qFh x y = true
 | [], _, _, x, hx => by cases hx
 | x :: xs, [], h, _, _ => by simp [qBP] at h
 | x :: xs, y :: ys, h, z, hz => by
  simp only [qBP, Bool.and_eq_true] at h
  rcases List.mem_cons.1 hz with e | hz
  ·exact ⟨y, List.mem_cons_self, e ▸ h.1⟩
  obtain ⟨u, hu, hb⟩ := qE0 xs ys h.2 z hz
  exact ⟨u, List.mem_cons_of_mem _ hu, hb⟩
structure qD0 (m : ByteArray) (vars : List S85) (fns : List S92) (rels : List S104) : Prop where
 m : Names.nameE m = 0
 n : vars.length + fns.length ≤ 64
 v : ∀ x ∈ vars, Names.nameE x.f0 = 0 ∧ okV x.f1.f0 x.f1.f1 = true
 f : ∀ x ∈ fns, Names.nameE x.f0 = 0 ∧ fnOk x = true
 e : qBP rels (qB7 fns) = true
 r : ∀ x ∈ rels, Names.nameE x.f3 = 0 ∧ Names.nameE x.f4 = 0
theorem qD0.of {m : ByteArray} {vars : List S85} {fns : List S92} {rels : List S104} (h : qBR m vars fns rels = 0) : qD0 m vars fns rels := by
 unfold qBR at h
 split at h
 ·rename_i h1; exact absurd h h1
 rename_i h1
 split at h
 ·cases h
 rename_i h2
 split at h
 ·rename_i h3; exact absurd h h3
 rename_i h3
 split at h
 ·rename_i h4; exact absurd h h4
 rename_i h4
 unfold qDf at h
 split at h
 ·cases h
 rename_i h5
 split at h
 ·cases h
 rename_i h6
 split at h
 ·rename_i h7; exact absurd h h7
 rename_i h7
 exact ⟨Decidable.not_not.mp h1, by omega, varsE_ok _ _ (Decidable.not_not.mp h3), fnsE_ok _ _ (Decidable.not_not.mp h4), by simpa using h5, qF5 _ (Decidable.not_not.mp h7)⟩
theorem qD0.rels {m : ByteArray} {vars : List S85} {fns : List S92} {rels : List S104} (h : qD0 m vars fns rels) : rels.length ≤ 262144 := by
 rw [qE1 _ _ h.e]
 have := fnsP_len fns 0 fun x hx => (qEY (h.f x hx).2).2.2.1
 have := h.n
 unfold qB7; omega
theorem bareB_eq {x y : S104} (h : qFh x y = true) : x.f0 = y.f0 ∧ x.f1 = y.f1 ∧ x.f2 = y.f2 := by
 unfold qFh at h; simpa using h
theorem qD0.at_ {m : ByteArray} {vars : List S85} {fns : List S92} {rels : List S104} (h : qD0 m vars fns rels) : ∀ x ∈ rels, 0 ≤ x.f0 ∧ x.f0 < 64 ∧ 0 ≤ x.f1 ∧ x.f1 < 4096 := fun x hx => by
 obtain ⟨y, hy, hb⟩ := qE0 _ _ h.e x hx
 obtain ⟨e0, e1, _⟩ := bareB_eq hb
 obtain ⟨g0, g1, g2, g3⟩ := placesL_in fns y hy
 have hm := qCc fns z92 y.f0 g0 g1
 have := (qEY (h.f _ hm).2).2.2.1
 have : (qAt fns y.f0).f1.f2.length ≤ 4096 := this
 have := h.n
 rw [e0, e1]; omega
instance (m : ByteArray) (vars : List S85) (fns : List S92) (rels : List S104) : Decidable (qDl m vars fns rels) :=
 decidable_of_iff (m.size ≤ 140737488351232 ∧ vars.length ≤ 2305843009213693952 ∧ (∀ x ∈ vars, x.f0.size ≤ 140737488351232 ∧ 0 ≤ x.f1.f1 ∧ x.f1.f1 < 18446744073709551616) ∧ fns.length ≤ 2305843009213693952 ∧
   (∀ x ∈ fns, x.f0.size ≤ 140737488351232 ∧ x.f1.f0.f0.length ≤ 4611686018427387904 ∧ x.f1.f1.length ≤ 4611686018427387904 ∧ x.f1.f2.length ≤ 4611686018427387904 ∧ x.f1.f2.all u64S = true) ∧ rels.length ≤ 4611686018427387904 ∧ (∀ x ∈ rels, x.f3.size ≤ 140737488351232 ∧ x.f4.size ≤ 140737488351232))
  ⟨fun ⟨a, b, c, d, e, f, g⟩ => ⟨a, b, c, d, e, f, g⟩, fun ⟨a, b, c, d, e, f, g⟩ => ⟨a, b, c, d, e, f, g⟩⟩
def qBg.f (a0_0 : ByteArray) (l0_1 : List (S85)) (l0_2 : List (S92)) (l0_3 : List (S104)) : Option (List Int × Int) :=
 if qDl a0_0 l0_1 l0_2 l0_3 then (if qBR a0_0 l0_1 l0_2 l0_3 ≠ 0 then some ([], qBR a0_0 l0_1 l0_2 l0_3) else if 16384 < (qCo a0_0 l0_1 l0_2 l0_3).length then some ([], 3) else some (qCo a0_0 l0_1 l0_2 l0_3, 0)) else none
end Q
end
section
namespace Q
open Go.RowKit PA PC PB
open Val Ins Wr Enc Wr2 Clone
def accP (b5 : List Int) (vars : List S85) (fns : List S92) (rels : List S104) : Nat → List Int
 | 0 => b5
 | 1 => b5 ++ (be vars.length 4 4 ++ vars.flatMap varB)
 | 2 => b5 ++ (be vars.length 4 4 ++ vars.flatMap varB) ++ (be fns.length 4 4 ++ fns.flatMap nfnB)
 | _ => b5 ++ (be vars.length 4 4 ++ vars.flatMap varB) ++ (be fns.length 4 4 ++ fns.flatMap nfnB) ++ (be rels.length 4 4 ++ rels.flatMap relB)
theorem idx3_0 (f0 f1 f2 : Value) (w : World) : (Instr.index 116 (.agg #[f0, f1, f2]) (.int .i64 0)).run Tryz.prog w = .ok f0 w := by kernel_rfl
theorem idx3_1 (f0 f1 f2 : Value) (w : World) : (Instr.index 116 (.agg #[f0, f1, f2]) (.int .i64 1)).run Tryz.prog w = .ok f1 w := by kernel_rfl
theorem idx3_2 (f0 f1 f2 : Value) (w : World) : (Instr.index 116 (.agg #[f0, f1, f2]) (.int .i64 2)).run Tryz.prog w = .ok f2 w := by kernel_rfl
theorem conv_mark (W : World) (g n c : Nat) (cur : Array Value) (hg : W.heap[g]? = some (.cells cur 5 (0, 0))) (hs : cur.size = n) :
  (convert 38 38 (.slice (some ⟨g, 0, none⟩) n c)).run Tryz.prog W = .ok (.slice (some ⟨g, 0, none⟩) n c) (W.freeze ⟨g, n, none⟩ 1) := by
 have hsh : W.shape? g = some (5, cur.size) := by unfold World.shape?; rw [hg]
 subst hs
 simp [convert, run_underlying Tryz.underlying38, run_underlying Tryz.underlying5, markStringish, hsh]
theorem freeze_at (W : World) (g n : Nat) (cur : Array Value) (hg : W.heap[g]? = some (.cells cur 5 (0, 0))) : (W.freeze ⟨g, n, none⟩ 1).heap[g]? = some (.cells cur 5 (n, n + 1)) := by
 unfold World.freeze
 simp [Array.getElem?_modify, hg]
theorem qFo (W : World) (a : Addr) (n : Nat) : (W.freeze a n).heap.size = W.heap.size := by unfold World.freeze; split <;> simp
theorem freeze_below {B : Nat} {a W : World} (h : Below B a W) (p : Addr) (n : Nat) (hp : B ≤ p.block) : Below B a (W.freeze p n) :=
 ⟨by have := h.os; unfold World.freeze; split <;> simpa using this, by have := h.tape; unfold World.freeze; split <;> simpa using this, by have := h.output; unfold World.freeze; split <;> simpa using this, by rw [qFo]; exact h.size, fun k hk => (qDV W p n k (by omega)).trans (h.block k hk)⟩
theorem qBg.calls (a0_0 : ByteArray) (A0_1 : Option Addr) (c0_1 : Nat) (l0_1 : List (S85)) (A0_2 : Option Addr) (c0_2 : Nat) (l0_2 : List (S92)) (A0_3 : Option Addr) (c0_3 : Nat) (l0_3 : List (S104)) (r1 : List Int) (r2 : Int) (w : World) (hr0_1 : Kd.C k85 w A0_1 l0_1.length l0_1) (hc0_1 : l0_1.length ≤ c0_1) (hr0_2 : Kd.C k92 w A0_2 l0_2.length l0_2) (hc0_2 : l0_2.length ≤ c0_2) (hr0_3 : Kd.C k104 w A0_3 l0_3.length l0_3) (hc0_3 : l0_3.length ≤ c0_3) (h : qBg.f a0_0 l0_1 l0_2 l0_3 = some (r1, r2)) :
  Calls Tryz.prog 13 #[.agg #[.string a0_0, .slice A0_1 l0_1.length c0_1, .slice A0_2 l0_2.length c0_2, .slice A0_3 l0_3.length c0_3]] w fun e w' => ∃ v0_ : Value, e = .returned (.tuple #[v0_, .int .i64 r2]) ∧ Kd.R (Kd.int .u8) 5 w' w.heap.size (fun _ => True) v0_ r1 ∧ Below w.heap.size w w' := by
 unfold qBg.f at h
 split at h
 case isFalse => cases h
 rename_i hg
 obtain ⟨kr, hkr⟩ := (right_ev a0_0 l0_1 l0_2 l0_3 hg).rounds
 obtain ⟨n1, hn1⟩ : ∃ n, n = l0_1.length := ⟨_, rfl⟩
 obtain ⟨n2, hn2⟩ : ∃ n, n = l0_2.length := ⟨_, rfl⟩
 obtain ⟨n3, hn3⟩ : ∃ n, n = l0_3.length := ⟨_, rfl⟩
 obtain ⟨OV, hOV⟩ : ∃ OV : Array Value, OV = #[.string a0_0, .slice A0_1 n1 c0_1, .slice A0_2 n2 c0_2, .slice A0_3 n3 c0_3] := ⟨_, rfl⟩
 obtain ⟨WA, hWA⟩ : ∃ WA, WA = w.alloc (.cells OV 33) := ⟨_, rfl⟩
 have hBA : Below w.heap.size w WA := hWA ▸ (Below.refl _ _).alloc (Nat.le_refl _) _
 have hgA : w.heap.size < WA.heap.size := by rw [hWA]; simp
 have k0 : WA.cell? ⟨w.heap.size, 0, none⟩ = some (.string a0_0) := by rw [hWA, World.cell?_alloc_at _ _ _ _ rfl, hOV]; rfl
 have k1 : WA.cell? ⟨w.heap.size, 1, none⟩ = some (.slice A0_1 n1 c0_1) := by rw [hWA, World.cell?_alloc_at _ _ _ _ rfl, hOV]; rfl
 have k2 : WA.cell? ⟨w.heap.size, 2, none⟩ = some (.slice A0_2 n2 c0_2) := by rw [hWA, World.cell?_alloc_at _ _ _ _ rfl, hOV]; rfl
 have k3 : WA.cell? ⟨w.heap.size, 3, none⟩ = some (.slice A0_3 n3 c0_3) := by rw [hWA, World.cell?_alloc_at _ _ _ _ rfl, hOV]; rfl
 have HBX : qAa (∀ W, Below WA.heap.size WA W → W.cell? ⟨w.heap.size, 0, none⟩ = some (.string a0_0) ∧ W.cell? ⟨w.heap.size, 1, none⟩ = some (.slice A0_1 n1 c0_1) ∧ W.cell? ⟨w.heap.size, 2, none⟩ = some (.slice A0_2 n2 c0_2) ∧ W.cell? ⟨w.heap.size, 3, none⟩ = some (.slice A0_3 n3 c0_3)) := ⟨fun W hW =>
   ⟨(hW.cell (p := ⟨w.heap.size, 0, none⟩) hgA).trans k0, (hW.cell (p := ⟨w.heap.size, 1, none⟩) hgA).trans k1, (hW.cell (p := ⟨w.heap.size, 2, none⟩) hgA).trans k2, (hW.cell (p := ⟨w.heap.size, 3, none⟩) hgA).trans k3⟩⟩
 have HRT : qAa (Calls Tryz.prog 9 #[.agg #[.string a0_0, .slice A0_1 n1 c0_1, .slice A0_2 n2 c0_2, .slice A0_3 n3 c0_3]] WA fun e w' => e = .returned (.int .i64 (qBR a0_0 l0_1 l0_2 l0_3)) ∧ Below WA.heap.size WA w') :=
  ⟨by rw [hn1, hn2, hn3]; exact qAB.calls kr a0_0 A0_1 c0_1 l0_1 A0_2 c0_2 l0_2 A0_3 c0_3 l0_3 _ WA (Kd.C_below hr0_1 hBA) hc0_1 (Kd.C_below hr0_2 hBA) hc0_2 (Kd.C_below hr0_3 hBA) hc0_3 hkr⟩
 have HBA := am hBA
 have HC1 : qAa (Kd.C k85 WA A0_1 n1 l0_1) := ⟨hn1 ▸ Kd.C_below hr0_1 hBA⟩
 have HC2 : qAa (Kd.C k92 WA A0_2 n2 l0_2) := ⟨hn2 ▸ Kd.C_below hr0_2 hBA⟩
 have HC3 : qAa (Kd.C k104 WA A0_3 n3 l0_3) := ⟨hn3 ▸ Kd.C_below hr0_3 hBA⟩
 rw [← hn1, ← hn2, ← hn3]
 have HN1 := am hn1
 have HN2 := am hn2
 have HN3 := am hn3
 have HG := am hg
 obtain ⟨er, her⟩ : ∃ z, z = qBR a0_0 l0_1 l0_2 l0_3 := ⟨_, rfl⟩
 rw [← her] at HRT h
 have HER := am her
 rw [hOV] at hWA
 have HWA := am hWA
 clear hr0_1 hr0_2 hr0_3 hc0_1 hc0_2 hc0_3 hkr hBA k0 k1 k2 k3 hn1 hn2 hn3 hg her hWA hOV
 by_cases hz : er = 0
 case neg =>
  rw [if_pos hz] at h
  have h := Option.some.inj h
  obtain ⟨rfl, rfl⟩ : [] = r1 ∧ er = r2 := ⟨congrArg Prod.fst h, congrArg Prod.snd h⟩
  have hz' : (er != 0) = true := bne_iff_ne.mpr hz
  clear h hz
  go_enter Tryz.func13, Tryz.ntmps13
  go_wp2_with fail
  rw [← HWA.out]
  go_wp2_with fail
  refine HRT.out.mono ?_
  rintro e w1 ⟨rfl, hb⟩
  have HB1 := am hb
  clear hb
  go_wp2
  go_ret2
  exact ⟨_, rfl, Kd.R_nil _ _ _ _ _, qAw HBA.out HBA.out.size HB1.out⟩
 rw [if_neg (fun hh => hh hz)] at h
 have HRO := am (qD0.of (m := a0_0) (vars := l0_1) (fns := l0_2) (rels := l0_3) (HER.out.symm.trans hz))
 have HH := am h
 subst hz
 clear h
 go_enter Tryz.func13, Tryz.ntmps13
 go_wp2_with fail
 rw [← HWA.out]
 go_wp2_with fail
 refine HRT.out.mono ?_
 rintro e w1 ⟨rfl, hb⟩
 have HB1 := am hb
 clear hb
 obtain ⟨WM, hWM⟩ : ∃ WM, WM = (w1.alloc (.cells #[.slice none 0 0] 110)).alloc (.cells #[.int .u8 102, .int .u8 111, .int .u8 98, .int .u8 106] 5) := ⟨_, rfl⟩
 have hsM : WM.heap.size = w1.heap.size + 2 := by rw [hWM]; simp
 have hlM : WM.heap[w1.heap.size + 1]? = some (.cells #[.int .u8 102, .int .u8 111, .int .u8 98, .int .u8 106] 5 (0, 0)) := by
  rw [hWM]; simpa using heap_alloc_new (w1.alloc (.cells #[.slice none 0 0] 110)) (.cells #[.int .u8 102, .int .u8 111, .int .u8 98, .int .u8 106] 5)
 have hpM : WM.heap[w1.heap.size]? = some (.cells #[.slice none 0 0] 110 (0, 0)) := by
  rw [hWM]; exact qAW (heap_alloc_new w1 _) _
 have hcv := conv_mark WM (w1.heap.size + 1) 4 4 _ hlM rfl
 obtain ⟨WF, hWF⟩ : ∃ WF, WF = WM.freeze ⟨w1.heap.size + 1, 4, none⟩ 1 := ⟨_, rfl⟩
 have hsF : WF.heap.size = w1.heap.size + 2 := by rw [hWF, qFo]; exact hsM
 have hlF : WF.heap[w1.heap.size + 1]? = some (.cells #[.int .u8 102, .int .u8 111, .int .u8 98, .int .u8 106] 5 (4, 5)) := hWF ▸ freeze_at WM _ 4 _ hlM
 have hpF : WF.heap[w1.heap.size]? = some (.cells #[.slice none 0 0] 110 (0, 0)) := by
  rw [hWF, qDV _ _ _ _ (by show w1.heap.size ≠ w1.heap.size + 1; omega)]; exact hpM
 have hBF : Below WA.heap.size WA WF := by
  rw [hWF, hWM]
  exact freeze_below ((HB1.out.alloc HB1.out.size _).alloc (by have := HB1.out.size; simp; omega) _) _ _ (by have := HB1.out.size; show WA.heap.size ≤ w1.heap.size + 1; omega)
 have HKF : qAa (WK WA w1.heap.size WF (.slice none 0 0) []) := ⟨⟨⟨(qAn hpF 0).trans rfl, qAx hpF 0, World.ownsRow_nil _ _ _ _, fun k hk => by cases hk⟩, hBF, HB1.out.size, fun k hk => by cases hk⟩⟩
 have HLF : qAa (∀ W' v', qBo w1.heap.size WF (.slice none 0 0) W' v' → W'.cell? ⟨w1.heap.size + 1, 0, none⟩ = some (.int .u8 102) ∧ W'.cell? ⟨w1.heap.size + 1, 1, none⟩ = some (.int .u8 111) ∧ W'.cell? ⟨w1.heap.size + 1, 2, none⟩ = some (.int .u8 98) ∧ W'.cell? ⟨w1.heap.size + 1, 3, none⟩ = some (.int .u8 106)) := ⟨fun W' v' hs => by
   have g : ∀ i, W'.cell? ⟨w1.heap.size + 1, i, none⟩ = WF.cell? ⟨w1.heap.size + 1, i, none⟩ := fun i => hs.cell (a := ⟨w1.heap.size + 1, i, none⟩) (by rw [hsF]; exact Nat.lt_succ_self _) (Nat.succ_ne_self _) (by simp [Value.ownBlock])
   exact ⟨by rw [g 0]; simp [World.cell?, hlF], by rw [g 1]; simp [World.cell?, hlF], by rw [g 2]; simp [World.cell?, hlF], by rw [g 3]; simp [World.cell?, hlF]⟩⟩
 have HWM := am hWM
 have HWF := am hWF
 rw [← hWF, hWM] at hcv
 clear hsM hlM hpM hWF hsF hlF hpF hBF hWM HRT
 go_wp2_with fail
 go_loopg [7, 21] 4 (fun gg _ s21 wr => ∃ (kk : Nat) (v' : Value), kk ≤ 4 ∧ 4 - kk ≤ gg ∧ s21 = .int .i64 kk ∧ qAa (WK WA w1.heap.size wr v' (([102, 111, 98, 106] : List Int).take kk)) ∧ qAa (qBo w1.heap.size WF (.slice none 0 0) wr v'))
 case atStart => exact ⟨0, .slice none 0 0, by omega, by omega, rfl, HKF, ⟨qBo.refl _ _ _⟩⟩
 case round =>
  clear hcv
  obtain ⟨kk, v', hkk, hg, rfl, HK, HS⟩ := hrel
  have hcase : kk = 0 ∨ kk = 1 ∨ kk = 2 ∨ kk = 3 ∨ kk = 4 := by omega
  rcases hcase with rfl | rfl | rfl | rfl | rfl
  ·obtain ⟨z0, z1, z2, z3⟩ := HLF.out wr v' HS.out
   go_wp2_with fail
   refine (qCb w1.heap.size 102 v' _ wr HK.out.st (by simp)).mono ?_
   rintro e w2 ⟨v2, rfl, hst, hs⟩
   have HK2 : qAa (WK WA w1.heap.size w2 v2 (([102, 111, 98, 106] : List Int).take 1)) := ⟨HK.out.step hst hs⟩
   have HS2 := am (HS.out.trans hs)
   clear hst hs z0 z1 z2 z3
   go_wp2
   go_roundg (4 - 1)
   case measure => omega
   case rel => exact ⟨1, v2, by omega, by omega, rfl, HK2, HS2⟩
  ·obtain ⟨z0, z1, z2, z3⟩ := HLF.out wr v' HS.out
   go_wp2_with fail
   refine (qCb w1.heap.size 111 v' _ wr HK.out.st (by simp)).mono ?_
   rintro e w2 ⟨v2, rfl, hst, hs⟩
   have HK2 : qAa (WK WA w1.heap.size w2 v2 (([102, 111, 98, 106] : List Int).take 2)) := ⟨HK.out.step hst hs⟩
   have HS2 := am (HS.out.trans hs)
   clear hst hs z0 z1 z2 z3
   go_wp2
   go_roundg (4 - 2)
   case measure => omega
   case rel => exact ⟨2, v2, by omega, by omega, rfl, HK2, HS2⟩
  ·obtain ⟨z0, z1, z2, z3⟩ := HLF.out wr v' HS.out
   go_wp2_with fail
   refine (qCb w1.heap.size 98 v' _ wr HK.out.st (by simp)).mono ?_
   rintro e w2 ⟨v2, rfl, hst, hs⟩
   have HK2 : qAa (WK WA w1.heap.size w2 v2 (([102, 111, 98, 106] : List Int).take 3)) := ⟨HK.out.step hst hs⟩
   have HS2 := am (HS.out.trans hs)
   clear hst hs z0 z1 z2 z3
   go_wp2
   go_roundg (4 - 3)
   case measure => omega
   case rel => exact ⟨3, v2, by omega, by omega, rfl, HK2, HS2⟩
  ·obtain ⟨z0, z1, z2, z3⟩ := HLF.out wr v' HS.out
   go_wp2_with fail
   refine (qCb w1.heap.size 106 v' _ wr HK.out.st (by simp)).mono ?_
   rintro e w2 ⟨v2, rfl, hst, hs⟩
   have HK2 : qAa (WK WA w1.heap.size w2 v2 (([102, 111, 98, 106] : List Int).take 4)) := ⟨HK.out.step hst hs⟩
   have HS2 := am (HS.out.trans hs)
   clear hst hs z0 z1 z2 z3
   go_wp2
   go_roundg (4 - 4)
   case measure => omega
   case rel => exact ⟨4, v2, by omega, by omega, rfl, HK2, HS2⟩
  have HK4 : qAa (WK WA w1.heap.size wr v' [102, 111, 98, 106]) := ⟨HK.out⟩
  clear HK HS HKF HLF hg hkk
  obtain ⟨q0, q1, q2, q3⟩ := HBX.out wr HK4.out.below
  have hmS : a0_0.size ≤ 32 := Names.size_le_of_ok HRO.out.m
  go_wp2_with fail
  refine (qEt w1.heap.size a0_0 v' _ wr HK4.out.st (by simp) (by omega)).mono ?_
  rintro e w5 ⟨v5, rfl, hst, hs⟩
  have HK5 := am (HK4.out.step hst hs)
  obtain ⟨b5, hb5⟩ : ∃ b : List Int, b = [102, 111, 98, 106] ++ rawB (qBu a0_0) := ⟨_, rfl⟩
  rw [← hb5] at HK5
  have HB5 := am hb5
  have HL5 : qAa (b5.length ≤ 40) := ⟨by rw [hb5, List.length_append, qBS]; simp; omega⟩
  clear hst hs q0 q1 q2 q3 hb5 HK4
  have HV : qAa (∀ x ∈ l0_1, qBQ x.f0 ∧ 0 ≤ x.f1.f1 ∧ x.f1.f1 < 18446744073709551616) := ⟨fun x hx => ⟨Names.size_le_of_ok (HRO.out.v x hx).1, (HG.out.v x hx).2⟩⟩
  have HF : qAa (∀ x ∈ l0_2, qBQ x.f0 ∧ okFnS x) := ⟨fun x hx => ⟨Names.size_le_of_ok (HRO.out.f x hx).1, by
    obtain ⟨g1, g2, g3, g4⟩ := qEY (HRO.out.f x hx).2
    exact ⟨g1, g2, g3, g4, (HG.out.f x hx).2.2.2.2⟩⟩⟩
  have HRL : qAa (∀ x ∈ l0_3, qBQ x.f3 ∧ qBQ x.f4 ∧ 0 ≤ x.f0 ∧ x.f0 ≤ 9223372036854775807 ∧ 0 ≤ x.f1 ∧ x.f1 ≤ 9223372036854775807) := ⟨fun x hx => by
    obtain ⟨g0, g1, g2, g3⟩ := HRO.out.at_ x hx
    exact ⟨Names.size_le_of_ok (HRO.out.r x hx).1, Names.size_le_of_ok (HRO.out.r x hx).2, g0, by omega, g2, by omega⟩⟩
  have HNV : qAa (l0_1.length ≤ 64 ∧ l0_2.length ≤ 64 ∧ l0_3.length ≤ 262144) := ⟨by have := HRO.out.n; omega, by have := HRO.out.n; omega, HRO.out.rels⟩
  have HLV : qAa ((be l0_1.length 4 4 ++ l0_1.flatMap varB).length ≤ 2884) := ⟨by
    have h1 := qDJ varB l0_1 45 fun y hy => varB_len y (HV.out y hy).1
    have := HNV.out.1
    rw [List.length_append, qAQ]; omega⟩
  have HLF2 : qAa ((be l0_2.length 4 4 ++ l0_2.flatMap nfnB).length ≤ 2630404) := ⟨by
    have h1 := qDJ nfnB l0_2 41100 fun y hy => nfnB_len y (HF.out y hy).1 (HF.out y hy).2
    have := HNV.out.2.1
    rw [List.length_append, qAQ]; omega⟩
  have HLR : qAa ((be l0_3.length 4 4 ++ l0_3.flatMap relB).length ≤ 20185092) := ⟨by
    have h1 := qDJ relB l0_3 77 fun y hy => relB_len y (HRL.out y hy).1 (HRL.out y hy).2.1
    have := HNV.out.2.2
    rw [List.length_append, qAQ]; omega⟩
  go_wp2_with fail
  go_loopg [10, 42] 3 (fun gg _ s42 wr => ∃ (kk : Nat) (v' : Value), kk ≤ 3 ∧ 3 - kk ≤ gg ∧ s42 = .int .i64 kk ∧ qAa (WK WA w1.heap.size wr v' (accP b5 l0_1 l0_2 l0_3 kk)))
  case atStart => exact ⟨0, v5, by omega, by omega, rfl, ⟨HK5.out.alloc _⟩⟩
  case round =>
   clear HK5
   obtain ⟨kk, v', hkk, hg, rfl, HK⟩ := hrel
   have hcase : kk = 0 ∨ kk = 1 ∨ kk = 2 ∨ kk = 3 := by omega
   rcases hcase with rfl | rfl | rfl | rfl
   ·have hix := idx3_0 (.func (.func 44) #[.agg #[.pointer (some ⟨w1.heap.size, 0, none⟩)]] #[]) (.func (.func 45) #[.agg #[.pointer (some ⟨w1.heap.size, 0, none⟩)]] #[]) (.func (.func 46) #[.agg #[.pointer (some ⟨w1.heap.size, 0, none⟩)]] #[]) wr
    replace HK : qAa (WK WA w1.heap.size wr v' (b5)) := HK
    obtain ⟨q0, q1, q2, q3⟩ := HBX.out wr HK.out.below
    go_wp2_with fail
    refine (vars_any w1.heap.size a0_0 A0_1 n1 c0_1 A0_2 n2 c0_2 A0_3 n3 c0_3 l0_1 v' _ WA wr HK.out HN1.out.symm HC1.out HNV.out.1 HV.out (by have := HL5.out; omega)).mono ?_
    rintro e w2 ⟨v2, rfl, hst, hs⟩
    have HK2 : qAa (WK WA w1.heap.size w2 v2 (accP b5 l0_1 l0_2 l0_3 1)) := ⟨HK.out.step hst hs⟩
    clear hst hs q0 q1 q2 q3
    go_wp2
    go_roundg (3 - 1)
    case measure => omega
    case rel => exact ⟨1, v2, by omega, by omega, rfl, HK2⟩
   ·have hix := idx3_1 (.func (.func 44) #[.agg #[.pointer (some ⟨w1.heap.size, 0, none⟩)]] #[]) (.func (.func 45) #[.agg #[.pointer (some ⟨w1.heap.size, 0, none⟩)]] #[]) (.func (.func 46) #[.agg #[.pointer (some ⟨w1.heap.size, 0, none⟩)]] #[]) wr
    replace HK : qAa (WK WA w1.heap.size wr v' (b5 ++ (be l0_1.length 4 4 ++ l0_1.flatMap varB))) := HK
    obtain ⟨q0, q1, q2, q3⟩ := HBX.out wr HK.out.below
    go_wp2_with fail
    refine (fns_any w1.heap.size a0_0 A0_1 n1 c0_1 A0_2 n2 c0_2 A0_3 n3 c0_3 l0_2 v' _ WA wr HK.out HN2.out.symm HC2.out HNV.out.2.1 HF.out (by have := HL5.out; have := HLV.out; rw [List.length_append]; omega)).mono ?_
    rintro e w2 ⟨v2, rfl, hst, hs⟩
    have HK2 : qAa (WK WA w1.heap.size w2 v2 (accP b5 l0_1 l0_2 l0_3 2)) := ⟨HK.out.step hst hs⟩
    clear hst hs q0 q1 q2 q3
    go_wp2
    go_roundg (3 - 2)
    case measure => omega
    case rel => exact ⟨2, v2, by omega, by omega, rfl, HK2⟩
   ·have hix := idx3_2 (.func (.func 44) #[.agg #[.pointer (some ⟨w1.heap.size, 0, none⟩)]] #[]) (.func (.func 45) #[.agg #[.pointer (some ⟨w1.heap.size, 0, none⟩)]] #[]) (.func (.func 46) #[.agg #[.pointer (some ⟨w1.heap.size, 0, none⟩)]] #[]) wr
    replace HK : qAa (WK WA w1.heap.size wr v' (b5 ++ (be l0_1.length 4 4 ++ l0_1.flatMap varB) ++ (be l0_2.length 4 4 ++ l0_2.flatMap nfnB))) := HK
    obtain ⟨q0, q1, q2, q3⟩ := HBX.out wr HK.out.below
    go_wp2_with fail
    refine (rels_any w1.heap.size a0_0 A0_1 n1 c0_1 A0_2 n2 c0_2 A0_3 n3 c0_3 l0_3 v' _ WA wr HK.out HN3.out.symm HC3.out HNV.out.2.2 HRL.out (by have := HL5.out; have := HLV.out; have := HLF2.out; rw [List.length_append, List.length_append]; omega)).mono ?_
    rintro e w2 ⟨v2, rfl, hst, hs⟩
    have HK2 : qAa (WK WA w1.heap.size w2 v2 (accP b5 l0_1 l0_2 l0_3 3)) := ⟨HK.out.step hst hs⟩
    clear hst hs q0 q1 q2 q3
    go_wp2
    go_roundg (3 - 3)
    case measure => omega
    case rel => exact ⟨3, v2, by omega, by omega, rfl, HK2⟩
   have HP : qAa (WK WA w1.heap.size wr v' (qCo a0_0 l0_1 l0_2 l0_3)) := ⟨by
     have e : qCo a0_0 l0_1 l0_2 l0_3 = accP b5 l0_1 l0_2 l0_3 3 := by
       show _ = b5 ++ (be l0_1.length 4 4 ++ l0_1.flatMap varB) ++ (be l0_2.length 4 4 ++ l0_2.flatMap nfnB) ++ (be l0_3.length 4 4 ++ l0_3.flatMap relB)
       rw [HB5.out]; unfold qCo; simp only [List.append_assoc]
     rw [e]; exact HK.out⟩
   have HPL : qAa ((qCo a0_0 l0_1 l0_2 l0_3).length ≤ 30000000) := ⟨by
     have e : qCo a0_0 l0_1 l0_2 l0_3 = b5 ++ (be l0_1.length 4 4 ++ l0_1.flatMap varB) ++ (be l0_2.length 4 4 ++ l0_2.flatMap nfnB) ++ (be l0_3.length 4 4 ++ l0_3.flatMap relB) := by
       rw [HB5.out]; unfold qCo; simp only [List.append_assoc]
     have := HL5.out; have := HLV.out; have := HLF2.out; have := HLR.out
     rw [e, List.length_append, List.length_append, List.length_append]; omega⟩
   clear HK hg hkk
   obtain ⟨pb, hpb⟩ : ∃ pb, pb = qCo a0_0 l0_1 l0_2 l0_3 := ⟨_, rfl⟩
   rw [← hpb] at HP HPL HH
   clear hpb
   go_wp2_with fail
   refine (len_any w1.heap.size v' _ wr HP.out.st).mono ?_
   rintro e w6 ⟨rfl, rfl⟩
   by_cases hbig : 16384 < pb.length
   ·have hbig' : decide (16384 < (pb.length : Int)) = true := decide_eq_true (by omega)
    have H2 := HH.out
    rw [if_pos hbig] at H2
    have H2 := Option.some.inj H2
    obtain ⟨rfl, rfl⟩ : [] = r1 ∧ 3 = r2 := ⟨congrArg Prod.fst H2, congrArg Prod.snd H2⟩
    clear H2 HH
    go_wp2
    go_ret2
    exact ⟨_, rfl, Kd.R_nil _ _ _ _ _, qAw HBA.out HBA.out.size HP.out.below⟩
   have hbig' : decide (16384 < (pb.length : Int)) = false := decide_eq_false (by omega)
   have H2 := HH.out
   rw [if_neg hbig] at H2
   have H2 := Option.some.inj H2
   obtain ⟨rfl, rfl⟩ : pb = r1 ∧ 0 = r2 := ⟨congrArg Prod.fst H2, congrArg Prod.snd H2⟩
   clear H2 HH
   go_wp2_with fail
   refine (bytes_any w1.heap.size v' _ wr HP.out.st (by have := HPL.out; omega)).mono ?_
   rintro e w7 ⟨x, rfl, hown, hb⟩
   have HOW := am hown
   have HB7 := am hb
   clear hown hb
   go_wp2
   go_ret2
   exact ⟨x, rfl, Kd.R_lower (Kd.R_of_own HOW.out (fun _ _ => trivial)) (Nat.le_trans HBA.out.size HP.out.below.size), qAw HBA.out HBA.out.size (qAw HP.out.below HP.out.below.size HB7.out)⟩
end Q
end
section
namespace Q
open Go.RowKit PA PC PB
theorem RdB.of_R {W : World} {b0 g base : Nat} {bs : List Int} {v : Value} (h : Kd.R (Kd.int .u8) 5 W base (fun _ => True) v bs) (h0 : b0 ≤ base) (hg : W.heap.size ≤ g) : RdB W b0 g bs v := by
 rcases Nat.eq_zero_or_pos bs.length with hz | hp
 ·obtain ⟨A, c, hv⟩ := Kd.R_slice h
  exact .inl ⟨List.length_eq_zero_iff.1 hz, A, c, by rw [hv, hz]⟩
 obtain ⟨A, c, hv, hcl, hC⟩ := Kd.R_reads h
 obtain ⟨inner, hown⟩ := Kd.R_own h
 rcases hown.2 with ⟨hv2, _⟩ | ⟨gb, cap, cur, hv2, hb, hcur, _⟩
 ·rw [hv] at hv2; injection hv2 with _ h2 _; omega
 rw [hv] at hv2; injection hv2 with h1 _ h3; subst h1; subst h3
 refine .inr ⟨gb, 0, c, cur, by omega, Nat.lt_of_lt_of_le (qBd hcur) hg, hv, hp, hcl, hcur, fun j y hj => ?_⟩
 obtain ⟨ad, had, hcell⟩ := hC.2.2 hp
 cases had
 obtain ⟨cs, _, hK, hcc⟩ := hcell j y hj
 obtain rfl : cs = [Value.int .u8 y] := hK
 have h2 := hcc 0 _ rfl
 rw [show j * (Kd.int .u8).sz + 0 = j from Nat.mul_one j, qCU] at h2
 rw [Nat.zero_add, ← qAn hcur]; exact h2
def qCL.f (l0 : List Int) : Option (List Int × Int × Int) := if l0.length ≤ 4294967296 then some (l0, 0, 0) else none
theorem qCL.calls (A0 : Option Addr) (c0 : Nat) (l0 : List Int) (r1 : List Int) (r2 : Int) (r3 : Int) (w0 w : World) (hB : Below w0.heap.size w0 w) (hr0 : Kd.C (Kd.int .u8) w0 A0 l0.length l0) (hc0 : l0.length ≤ c0) (h : qCL.f l0 = some (r1, r2, r3)) :
  Calls Tryz.prog 55 #[.slice A0 l0.length c0] w fun e w' => ∃ g_ : Nat, e = .returned (.pointer (some ⟨g_, 0, none⟩)) ∧ qAm w0 w' g_ r1 r2 r3 ∧ Below w0.heap.size w0 w' ∧ Below w.heap.size w w' := by
 unfold qCL.f at h
 split at h
 case isFalse => cases h
 rename_i hl
 simp only [Option.some.injEq, Prod.mk.injEq] at h
 obtain ⟨rfl, rfl, rfl⟩ := h
 have HB := am hB
 have HCL := am (qBv.calls A0 c0 l0 l0 w (Kd.C_below hr0 hB) hc0 (by unfold qBv.f; rw [if_pos hl]))
 have HL := am hl
 clear hB hr0 hc0 hl
 go_enter Tryz.func55, Tryz.ntmps55
 go_wp2_with (go_at_call 116; refine HCL.out.mono ?_; rintro e w1 ⟨v, rfl, hR, hb⟩; obtain ⟨A1, c1, ev⟩ := Kd.R_slice hR; subst ev; have HR := am hR; have HB1 := am hb; clear hR hb)
 go_ret
 refine ⟨w1.heap.size, rfl, ⟨Nat.le_trans HB.out.size HB1.out.size, Int.le_refl 0, by omega, by have := HL.out; omega, .slice A1 l0.length c1, by simpa using heap_alloc_new w1 (.cells #[.slice A1 l0.length c1, .int .i64 0] 182), ?_⟩, ?_, ?_⟩
 ·exact (RdB.of_R HR.out HB.out.size (Nat.le_refl _)).move fun gb cells hc => (qA3 (Below.refl _ _) _).block gb (qBd hc)
 ·exact qA3 (qAw HB.out HB.out.size HB1.out) _
 ·exact qA3 HB1.out _
end Q
end
section
namespace Q
open Go.RowKit PA PC PB
attribute [local go_sem] qAX min2_int qBi min_two max_three min_three max_four min_four
def qAE.l0 : Nat → List Int → Int → Int → List Int → Int → Int → Option (List Int × Int × Int)
 | 0, _, _, _, _, _, _ => none
 | k + 1, x3, x6, x7, aR, aT, aU => if x7 < x6 then ((qAr.f aR aT aU).bind fun aJ => (if x3.length < 17592186044416 then (qAE.l0 k (x3 ++ [wrap64 (aJ.1)]) x6 (wrap64 (x7 + 1)) aR aJ.2.1 aJ.2.2) else (none))) else (some (x3, aT, aU))
def qAE.f (k : Nat) (s0_0 : List Int) (s0_1 : Int) (s0_2 : Int) : Option (List Int × Int × Int) := (qAr.f s0_0 s0_1 s0_2).bind fun aC => (qAE.l0 k ([] : List Int) (wrap64 (aC.1)) 0 s0_0 aC.2.1 aC.2.2)
theorem qAE.calls (k : Nat) (g : Nat) (s0_0 : List Int) (s0_1 : Int) (s0_2 : Int) (r1 : List Int) (r2 : Int) (r3 : Int) (w0 w : World) (hI : qAm w0 w g s0_0 s0_1 s0_2) (hB : Below w0.heap.size w0 w) (h : qAE.f k s0_0 s0_1 s0_2 = some (r1, r2, r3)) :
  Calls Tryz.prog 129 #[.pointer (some ⟨g, 0, none⟩)] w fun e w' => ∃ v0_ : Value, e = .returned (v0_) ∧ Kd.R (Kd.int .i64) 3 w' w.heap.size (fun _ => True) v0_ r1 ∧ qAm w0 w' g s0_0 r2 r3 ∧ Below w0.heap.size w0 w' ∧ qAh w w' g none := by
 have aI := am hI
 have HK := am (qAh.refl w g none)
 have HL := am hB.size
 clear hI
 have HB := am hB
 clear hB
 have H : ((qAr.f s0_0 s0_1 s0_2).bind fun aC => (qAE.l0 k ([] : List Int) (wrap64 (aC.1)) 0 s0_0 aC.2.1 aC.2.2)) = some (r1, r2, r3) := h
 clear h
 replace H := bm H
 obtain ⟨⟨aG, aV, aW⟩, a5, H⟩ := H
 replace H : (qAE.l0 k ([] : List Int) (wrap64 (aG)) 0 s0_0 aV aW) = some (r1, r2, r3) := H
 have A2 := am a5
 clear a5
 have H' := am H
 clear H
 go_enter Tryz.func129, Tryz.ntmps129
 go_wp2_with ((with_reducible refine qAi (f := 56) rfl ?_); refine gL 5 Tryz.func56 #[.pointer (some ⟨g, 0, none⟩)] ?_; (with_reducible refine (qAr.calls g s0_0 s0_1 s0_2 aG aV aW w0 _ ?side1 ?side2 A2.o).mono ?_); (case side1 => exact aI.o); (case side2 => exact HB.o); rintro e w3 ⟨rfl, hi, hb, hk⟩; refine ⟨_, rfl, ?_⟩; have n_ := a2 (qAh.trans HK.o hk (.inl rfl)) (a2 (hb) (am (hi))); clear HK HB aI; obtain ⟨HK, HB, aI⟩ := n_)
 go_loopg [3, 7] k (fun kq v3 v7 w' => ∃ (aH : List Int) (aD : Int) (aA : Int) (aB : Int), v7 = .int .i64 aD ∧ qAa (qAE.l0 kq aH (wrap64 (aG)) aD s0_0 aA aB = some (r1, r2, r3)) ∧ qAa (kq ≤ k) ∧ qAa (Kd.R (Kd.int .i64) 3 w' w.heap.size (fun _ => True) v3 aH) ∧ qAa (qAm w0 w' g s0_0 aA aB) ∧ qAa (qAh w w' g none) ∧ qAa (Below w0.heap.size w0 w'))
 case atStart => exact ⟨([] : List Int), (0), (aV), (aW), (by rfl), H', ⟨Nat.le_refl _⟩, ⟨by (exact Kd.R_nil _ _ _ _ _)⟩, ⟨by exact aI.o⟩, ⟨by exact HK.o⟩, ⟨by exact HB.o⟩⟩
 case round =>
  clear H'
  obtain ⟨aH, aD, aA, aB, rfl, HA, a7, aE, aI, HK, HB⟩ := hrel
  cases gk with
  | zero => exact absurd HA.o (by simp [qAE.l0])
  | succ k1 =>
   have H := HA.o
   clear HA
   simp only [qAE.l0] at H
   by_cases c4 : aD < (wrap64 (aG))
   rotate_left
   ·rw [if_neg c4] at H
    replace c4 := d0 c4
    simp only [Option.some.injEq, Prod.mk.injEq] at H
    obtain ⟨rfl, rfl, rfl⟩ := H
    go_wp2
    go_ret
    exact ⟨_, by rfl, by exact aE.o, by exact aI.o, by exact HB.o, by exact HK.o⟩
   rw [if_pos c4] at H
   replace c4 := d1 c4
   replace H := bm H
   obtain ⟨⟨aM, aN, aQ⟩, a6, H⟩ := H
   replace H : (if aH.length < 17592186044416 then (qAE.l0 k1 (aH ++ [wrap64 (aM)]) (wrap64 (aG)) (wrap64 (aD + 1)) s0_0 aN aQ) else (none)) = some (r1, r2, r3) := H
   have A5 := am a6
   clear a6
   obtain ⟨c6, H⟩ := gd H
   have a3 := am c6
   clear c6
   obtain ⟨aZ, aK⟩ : ∃ y_ : List Int, y_ = (aH ++ [wrap64 (aM)]) := ⟨_, rfl⟩
   replace H : (qAE.l0 k1 aZ (wrap64 (aG)) (wrap64 (aD + 1)) s0_0 aN aQ) = some (r1, r2, r3) := by (rw [aK]; with_reducible exact H)
   have aY := am aK
   clear aK
   have H' := am H
   clear H
   go_wp2_with (first | ((with_reducible refine qAi (f := 56) rfl ?_); refine gL 11 Tryz.func56 #[.pointer (some ⟨g, 0, none⟩)] ?_; (with_reducible refine (qAr.calls g s0_0 aA aB aM aN aQ w0 _ ?side1 ?side2 A5.o).mono ?_); (case side1 => exact aI.o); (case side2 => exact HB.o); rintro e w7 ⟨rfl, hi, hb, hk⟩; refine ⟨_, rfl, ?_⟩; have n_ := a2 (Kd.R_kp (qAm.apart (show qAm w0 _ g s0_0 aA aB from aI.o) aE.o (by decide)) hk) (a2 (qAh.trans HK.o hk (.inl rfl)) (a2 (hb) (am (hi)))); clear aE HK HB aI; obtain ⟨aE, HK, HB, aI⟩ := n_) | ((with_reducible refine qAP (b := .append) (xs := #[.tmp 9, .tmp 13]) rfl ?_); at_builtin; refine Kd.R_append (Kd.int .i64) w.heap.size rfl (.tmp 9) (.tmp 13) 57 3 (.int .i64 0) 8 rfl Tryz.underlying57 info3 rfl (by decide) (by omega) u3 aH (wrap64 (aM)) [.int .i64 (wrap64 (aM))] (fun _ => True) (fun _ => False) rfl rfl ?aP (fun _ hk => hk.elim) ?aF ?aO (Below.refl _ _) ?aS ?aL ?_; (case aP => exact rfl); (case aF => exact (fun _ _ => trivial)); (case aO => exact aE.o); (case aS => exact (qBB (w := w) (g := g) (row := none) HK.o)); (case aL => have := a3.o; omega); intro a9 w8 ho hb hg a8; rw [← aY.o] at ho; have n_ := a2 (qAm.grownR (show qAm w0 _ g s0_0 aN aQ from aI.o) hg aI.o aE.o (by decide) (fun b_ t_ h_ => h_)) (a2 (below_weaken HB.o HL.o hb) (a2 (qAh.trans HK.o (qAh.of_grown hg g) (Kd.R_base2 aE.o)) (am (ho)))); clear aI HB HK aE; obtain ⟨aI, HB, HK, aX⟩ := n_; clear ho hb hg a8))
   go_roundg k1
   case measure => have := a7.o; omega
   case rel => exact ⟨(aZ), (wrap64 (aD + 1)), (aN), (aQ), (by rfl), H', ⟨by have := a7.o; omega⟩, ⟨by exact aX.o⟩, ⟨by exact aI.o⟩, ⟨by exact HK.o⟩, ⟨by exact HB.o⟩⟩
def qBC.f (k : Nat) (s0_0 : List Int) (s0_1 : Int) (s0_2 : Int) : Option (List Int × Int × List Int × (List (S144)) × Int × Int) := (qAE.f k s0_0 s0_1 s0_2).bind fun aW => ((qAr.f s0_0 aW.2.1 aW.2.2).bind fun aR => ((qAE.f k s0_0 aR.2.1 aR.2.2).bind fun aP => ((qAF.f s0_0 aP.2.1 aP.2.2 16384).bind fun aG => ((qBx.f aG.1).bind fun aJ => (if aJ.2 = 0 then (some (aW.1, wrap64 (aR.1), aP.1, aJ.1, aG.2.1, aG.2.2)) else ((qAU.f s0_0 aG.2.1 aG.2.2 52).bind fun aN => (some (aW.1, wrap64 (aR.1), aP.1, aJ.1, aN.1, aN.2))))))))
theorem qBC.calls (k : Nat) (g : Nat) (s0_0 : List Int) (s0_1 : Int) (s0_2 : Int) (r1 : List Int) (r2 : Int) (r3 : List Int) (r4 : List (S144)) (r5 : Int) (r6 : Int) (w0 w : World) (hI : qAm w0 w g s0_0 s0_1 s0_2) (hB : Below w0.heap.size w0 w) (h : qBC.f k s0_0 s0_1 s0_2 = some (r1, r2, r3, r4, r5, r6)) :
  Calls Tryz.prog 62 #[.pointer (some ⟨g, 0, none⟩)] w fun e w' => ∃ v0_ v2_ v3_ : Value, e = .returned (.agg #[v0_, .int .i64 r2, v2_, v3_]) ∧ Kd.R (Kd.int .i64) 3 w' w.heap.size (fun k_ => some k_ ≠ (v2_ : Value).ownBlock) v0_ r1 ∧ Kd.R (Kd.int .i64) 3 w' w.heap.size (fun k_ => some k_ ≠ (v0_ : Value).ownBlock) v2_ r3 ∧ Kd.R k144 144 w' w.heap.size (fun _ => True) v3_ r4 ∧ qAm w0 w' g s0_0 r5 r6 ∧ Below w0.heap.size w0 w' ∧ qAh w w' g none := by
 have aL := am hI
 have HK := am (qAh.refl w g none)
 clear hI
 have ay := am hB.size
 have HB := am hB
 clear hB
 have H : ((qAE.f k s0_0 s0_1 s0_2).bind fun aW => ((qAr.f s0_0 aW.2.1 aW.2.2).bind fun aR => ((qAE.f k s0_0 aR.2.1 aR.2.2).bind fun aP => ((qAF.f s0_0 aP.2.1 aP.2.2 16384).bind fun aG => ((qBx.f aG.1).bind fun aJ => (if aJ.2 = 0 then (some (aW.1, wrap64 (aR.1), aP.1, aJ.1, aG.2.1, aG.2.2)) else ((qAU.f s0_0 aG.2.1 aG.2.2 52).bind fun aN => (some (aW.1, wrap64 (aR.1), aP.1, aJ.1, aN.1, aN.2))))))))) = some (r1, r2, r3, r4, r5, r6) := h
 clear h
 replace H := bm H
 obtain ⟨⟨aI, ap, aq⟩, cE, H⟩ := H
 replace H : ((qAr.f s0_0 ap aq).bind fun aR => ((qAE.f k s0_0 aR.2.1 aR.2.2).bind fun aP => ((qAF.f s0_0 aP.2.1 aP.2.2 16384).bind fun aG => ((qBx.f aG.1).bind fun aJ => (if aJ.2 = 0 then (some (aI, wrap64 (aR.1), aP.1, aJ.1, aG.2.1, aG.2.2)) else ((qAU.f s0_0 aG.2.1 aG.2.2 52).bind fun aN => (some (aI, wrap64 (aR.1), aP.1, aJ.1, aN.1, aN.2)))))))) = some (r1, r2, r3, r4, r5, r6) := H
 have A2 := am cE
 clear cE
 replace H := bm H
 obtain ⟨⟨aK, ar, au⟩, cF, H⟩ := H
 replace H : ((qAE.f k s0_0 ar au).bind fun aP => ((qAF.f s0_0 aP.2.1 aP.2.2 16384).bind fun aG => ((qBx.f aG.1).bind fun aJ => (if aJ.2 = 0 then (some (aI, wrap64 (aK), aP.1, aJ.1, aG.2.1, aG.2.2)) else ((qAU.f s0_0 aG.2.1 aG.2.2 52).bind fun aN => (some (aI, wrap64 (aK), aP.1, aJ.1, aN.1, aN.2))))))) = some (r1, r2, r3, r4, r5, r6) := H
 have A3 := am cF
 clear cF
 replace H := bm H
 obtain ⟨⟨aQ, ab, ac⟩, cG, H⟩ := H
 replace H : ((qAF.f s0_0 ab ac 16384).bind fun aG => ((qBx.f aG.1).bind fun aJ => (if aJ.2 = 0 then (some (aI, wrap64 (aK), aQ, aJ.1, aG.2.1, aG.2.2)) else ((qAU.f s0_0 aG.2.1 aG.2.2 52).bind fun aN => (some (aI, wrap64 (aK), aQ, aJ.1, aN.1, aN.2)))))) = some (r1, r2, r3, r4, r5, r6) := H
 have A4 := am cG
 clear cG
 replace H := bm H
 obtain ⟨⟨ai, aj, ak⟩, cH, H⟩ := H
 replace H : ((qBx.f ai).bind fun aJ => (if aJ.2 = 0 then (some (aI, wrap64 (aK), aQ, aJ.1, aj, ak)) else ((qAU.f s0_0 aj ak 52).bind fun aN => (some (aI, wrap64 (aK), aQ, aJ.1, aN.1, aN.2))))) = some (r1, r2, r3, r4, r5, r6) := H
 have A5 := am cH
 clear cH
 replace H := bm H
 obtain ⟨⟨aS, al⟩, cI, H⟩ := H
 replace H : (if al = 0 then (some (aI, wrap64 (aK), aQ, aS, aj, ak)) else ((qAU.f s0_0 aj ak 52).bind fun aN => (some (aI, wrap64 (aK), aQ, aS, aN.1, aN.2)))) = some (r1, r2, r3, r4, r5, r6) := H
 have A6 := am cI
 clear cI
 by_cases c7 : al = 0
 ·rw [if_pos c7] at H
  have bj : (al != 0) = false := bn c7
  clear c7
  simp only [Option.some.injEq, Prod.mk.injEq] at H
  obtain ⟨rfl, rfl, rfl, rfl, rfl, rfl⟩ := H
  go_enter Tryz.func62, Tryz.ntmps62
  go_wp2_with (first | ((with_reducible refine qAK (N := 2) rfl ?_); refine bx 2 #[.slice none 0 0, .int .i64 0, .slice none 0 0, .slice none 0 0] 90 ?_; intro aC hg w8 hbox hb; have n_ := a2 (qAm.below aL.o hb) (a2 (qAh.trans HK.o (qAh.of_below hb g none) (.inl rfl)) (a2 (qAe HB.o hb) (a2 (hbox) (a2 (by rw [hg]; exact (qBB HK.o) : w.heap.size ≤ aC) (a2 (Nat.le_trans ay.o (by rw [hg]; exact (qBB HK.o) : w.heap.size ≤ aC) : w0.heap.size ≤ aC) (a2 (by rw [hg]; exact Nat.ne_of_lt (qAm.lt aL.o) : g ≠ aC) (am (by rw [hg]; exact Nat.ne_of_gt (qAm.lt aL.o) : aC ≠ g)))))))); clear aL HK HB; obtain ⟨aL, HK, HB, aA, ao, an, aV, aM⟩ := n_; clear hb hbox hg) | ((with_reducible refine qAi (f := 129) rfl ?_); refine gL 7 Tryz.func129 #[.pointer (some ⟨g, 0, none⟩)] ?_; (with_reducible refine (qAE.calls k g s0_0 s0_1 s0_2 aI ap aq w0 _ ?side1 ?side2 A2.o).mono ?_); (case side1 => exact aL.o); (case side2 => exact HB.o); rintro e w9 ⟨cA, rfl, a5, hi, hb, hk⟩; refine ⟨_, rfl, ?_⟩; have n_ := a2 (qAh.blk hk aA.o aM.o (by simp)) (a2 (Kd.R_lower a5 (qBB HK.o)) (a2 (qAh.trans HK.o hk (.inl rfl)) (a2 (hb) (am (hi))))); clear aA HK HB aL; obtain ⟨aA, aD, HK, HB, aL⟩ := n_) | ((with_reducible refine qAi (f := 56) rfl ?_); refine gL 9 Tryz.func56 #[.pointer (some ⟨g, 0, none⟩)] ?_; (with_reducible refine (qAr.calls g s0_0 ap aq aK ar au w0 _ ?side1 ?side2 A3.o).mono ?_); (case side1 => exact aL.o); (case side2 => exact HB.o); rintro e cY ⟨rfl, hi, hb, hk⟩; refine ⟨_, rfl, ?_⟩; have n_ := a2 (qAh.blk hk aA.o aM.o (by simp)) (a2 (Kd.R_kp (qAm.apart aL.o aD.o (by decide)) hk) (a2 (qAh.trans HK.o hk (.inl rfl)) (a2 (hb) (am (hi))))); clear aA aD HK HB aL; obtain ⟨aA, aD, HK, HB, aL⟩ := n_; obtain ⟨aX, aZ, bo⟩ := Kd.R_slice aD.o; subst bo) | ((with_reducible refine qAi (f := 129) rfl ?_); refine gL 13 Tryz.func129 #[.pointer (some ⟨g, 0, none⟩)] ?_; (with_reducible refine (qAE.calls k g s0_0 ar au aQ ab ac w0 _ ?side1 ?side2 A4.o).mono ?_); (case side1 => exact aL.o); (case side2 => exact HB.o); rintro e cZ ⟨cB, rfl, a5, hi, hb, hk⟩; refine ⟨_, rfl, ?_⟩; have n_ := a2 (qAh.blk hk aA.o aM.o (by simp)) (a2 (Kd.R_mono (Kd.R_told (Kd.R_oldK (qAm.apart aL.o aD.o (by decide)) hk) (Kd.R_base a5)) (fun _ h_ => h_.1)) (a2 (Kd.R_lower (Kd.R_new' a5 (Kd.R_lt aD.o)) (qBB HK.o)) (a2 (qAh.trans HK.o hk (.inl rfl)) (a2 (hb) (am (hi)))))); clear aA aD HK HB aL; obtain ⟨aA, aD, aH, HK, HB, aL⟩ := n_; obtain ⟨a7, a9, bp⟩ := Kd.R_slice aH.o; subst bp) | ((with_reducible refine qAK (N := 3) rfl ?_); refine bx 3 #[.slice none 0 0, .int .i64 0, .slice none 0 0, .slice none 0 0] 90 ?_; intro aE hg cW hbox hb; have n_ := a2 (Kd.R_below aD.o hb) (a2 (Kd.R_below aH.o hb) (a2 (qAm.below aL.o hb) (a2 (qAk aA.o hb) (a2 (qAh.trans HK.o (qAh.of_below hb g none) (.inl rfl)) (a2 (qAe HB.o hb) (a2 (hbox) (a2 (by rw [hg]; exact (qBB HK.o) : w.heap.size ≤ aE) (a2 (Nat.le_trans ay.o (by rw [hg]; exact (qBB HK.o) : w.heap.size ≤ aE) : w0.heap.size ≤ aE) (a2 (by rw [hg]; exact Nat.ne_of_lt (qBd aA.o) : aC ≠ aE) (a2 (by rw [hg]; exact Nat.ne_of_lt (qAm.lt aL.o) : g ≠ aE) (am (by rw [hg]; exact Nat.ne_of_gt (qAm.lt aL.o) : aE ≠ g)))))))))))); clear aD aH aL aA HK HB; obtain ⟨aD, aH, aL, aA, HK, HB, aB, a6, ad, aF, aO, aU⟩ := n_; clear hb hbox hg; have cN := aF.o; have cJ := aU.o; have cO := aO.o; obtain ⟨az, bA, bB, bC⟩ := c4_ cW aB.o; obtain ⟨bX, bY, bZ, b0⟩ := z4_ aB.o) | ((with_reducible refine qAi (f := 89) rfl ?_); refine gL 17 Tryz.func89 #[.pointer (some ⟨g, 0, none⟩), .int .i64 16384] ?_; (with_reducible refine (qAF.calls g s0_0 ab ac 16384 ai aj ak w0 _ ?side1 ?side2 A5.o).mono ?_); (case side1 => repeat (with_reducible first | exact aL.o | refine qAm.far ?_ aO.o (by (with_reducible repeat (apply TyB.set)); exact TyB.of aB.o) (by decide) _)); (case side2 => repeat (with_reducible first | exact HB.o | refine qA1 ?_ ad.o)); rintro e c0 ⟨cC, rfl, a5, hi, hb, hk⟩; refine ⟨_, rfl, ?_⟩; have n_ := a2 (qAh.blk hk (g' := aC) (o := .cells #[.slice none 0 0, .int .i64 0, .slice none 0 0, .slice none 0 0] 90 (0, 0)) (by refine qA2 ?_ aF.o _; refine qA2 ?_ aF.o _; refine qA2 ?_ aF.o _; refine qA2 ?_ aF.o _; exact aA.o) aM.o (by simp)) (a2 (Kd.R_kp (qAm.apart (show qAm w0 _ g s0_0 ab ac from by repeat (with_reducible first | exact aL.o | refine qAm.far ?_ aO.o (by (with_reducible repeat (apply TyB.set)); exact TyB.of aB.o) (by decide) _)) (by exact (Kd.R_mono (Kd.R_far (p := ⟨aE, 3, none⟩) (Kd.R_far (p := ⟨aE, 2, none⟩) (Kd.R_far (p := ⟨aE, 1, none⟩) (Kd.R_far (p := ⟨aE, 0, none⟩) (Kd.R_types aD.o aB.o (by decide)) (fun _ hk => hk.2) (.slice aX aI.length aZ)) (fun _ hk => hk.2) (.int .i64 (wrap64 (aK)))) (fun _ hk => hk.2) (.slice a7 aQ.length a9)) (fun _ hk => hk.2) (.slice none 0 0)) (fun _ h_ => h_.1))) (by decide)) hk) (a2 (Kd.R_kp (qAm.apart (show qAm w0 _ g s0_0 ab ac from by repeat (with_reducible first | exact aL.o | refine qAm.far ?_ aO.o (by (with_reducible repeat (apply TyB.set)); exact TyB.of aB.o) (by decide) _)) (by exact (Kd.R_mono (Kd.R_far (p := ⟨aE, 3, none⟩) (Kd.R_far (p := ⟨aE, 2, none⟩) (Kd.R_far (p := ⟨aE, 1, none⟩) (Kd.R_far (p := ⟨aE, 0, none⟩) (Kd.R_types aH.o aB.o (by decide)) (fun _ hk => hk.2) (.slice aX aI.length aZ)) (fun _ hk => hk.2) (.int .i64 (wrap64 (aK)))) (fun _ hk => hk.2) (.slice a7 aQ.length a9)) (fun _ hk => hk.2) (.slice none 0 0)) (fun _ h_ => h_.1))) (by decide)) hk) (a2 (qAh.blk hk (g' := aE) (o := .cells #[.slice aX aI.length aZ, .int .i64 (wrap64 (aK)), .slice a7 aQ.length a9, .slice none 0 0] 90 (0, 0)) (by refine qA5 (cs := #[.slice aX aI.length aZ, .int .i64 (wrap64 (aK)), .slice a7 aQ.length a9, .slice none 0 0]) ?_ 3 _ rfl; refine qA5 (cs := #[.slice aX aI.length aZ, .int .i64 (wrap64 (aK)), .slice none 0 0, .slice none 0 0]) ?_ 2 _ rfl; refine qA5 (cs := #[.slice aX aI.length aZ, .int .i64 0, .slice none 0 0, .slice none 0 0]) ?_ 1 _ rfl; refine qA5 (cs := #[.slice none 0 0, .int .i64 0, .slice none 0 0, .slice none 0 0]) ?_ 0 _ rfl; exact aB.o) aU.o (by simp)) (a2 (Kd.R_lower a5 (qBB (w := w) (g := g) (row := none) (by repeat (with_reducible first | exact HK.o | refine qCQ ?_ a6.o _)))) (a2 (qAh.trans (by repeat (with_reducible first | exact HK.o | refine qCQ ?_ a6.o _)) hk (.inl rfl)) (a2 (hb) (am (hi)))))))); clear aA aD aH aB HK HB aL; obtain ⟨aA, aD, aH, aB, aT, HK, HB, aL⟩ := n_; obtain ⟨bh, bk, bq⟩ := Kd.R_slice aT.o; subst bq) | ((with_reducible refine qAi (f := 88) rfl ?_); refine gL 18 Tryz.func88 #[.slice bh ai.length bk] ?_; (with_reducible refine (qBx.calls _ _ ai aS al _ ?side1 ?side2 A6.o).mono ?_); (case side1 => exact (Kd.R_reads' aT.o).2.2); (case side2 => exact (Kd.R_reads' aT.o).2.1); rintro e cT ⟨cD, rfl, a5, hb⟩; refine ⟨_, rfl, ?_⟩; have n_ := a2 (Kd.R_below aD.o hb) (a2 (Kd.R_below aH.o hb) (a2 (Kd.R_lower a5 (qBB HK.o)) (a2 (qAm.below aL.o hb) (a2 (qAk aA.o hb) (a2 (qAk aB.o hb) (a2 (qAh.trans HK.o (qAh.of_below hb g none) (.inl rfl)) (am (qAe HB.o hb)))))))); clear aD aH aT aL aA aB HK HB; obtain ⟨aD, aH, a4, aL, aA, aB, HK, HB⟩ := n_; obtain ⟨ae, ag, br⟩ := Kd.R_slice a4.o; subst br; obtain ⟨bD, bE, bF, bG⟩ := c4_ cT aB.o; have b1 := qAx aB.o 3; have cK := aM.o; have cP := aV.o; obtain ⟨bH, bI, bJ, bK⟩ := c4_ cT aA.o; obtain ⟨b2, b3, b4, b5⟩ := z4_ aA.o))
  refine bodyPost_ret (results_cell_row rfl _ _ aC 90 #[.slice aX aI.length aZ, .int .i64 (wrap64 (aK)), .slice a7 aQ.length a9, .slice ae aS.length ag] (0, 0) _ rfl (by refine qA5 (cs := #[.slice aX aI.length aZ, .int .i64 (wrap64 (aK)), .slice a7 aQ.length a9, .slice none 0 0]) ?_ 3 _ rfl; refine qA5 (cs := #[.slice aX aI.length aZ, .int .i64 (wrap64 (aK)), .slice none 0 0, .slice none 0 0]) ?_ 2 _ rfl; refine qA5 (cs := #[.slice aX aI.length aZ, .int .i64 0, .slice none 0 0, .slice none 0 0]) ?_ 1 _ rfl; refine qA5 (cs := #[.slice none 0 0, .int .i64 0, .slice none 0 0, .slice none 0 0]) ?_ 0 _ rfl; refine qA2 ?_ aF.o _; exact aA.o) Tryz.underlying90 rfl (by kernel_rfl)) rfl ?_
  exact ⟨_, _, _, by rfl, by exact Kd.R_mono (Kd.R_far (p := ⟨aC, 3, none⟩) (Kd.R_far (p := ⟨aC, 2, none⟩) (Kd.R_far (p := ⟨aC, 1, none⟩) (Kd.R_far (p := ⟨aC, 0, none⟩) (Kd.R_far (p := ⟨aE, 3, none⟩) (Kd.R_types (Kd.R_types aD.o aB.o (by decide)) aA.o (by decide)) (fun _ hk => hk.1.2) (.slice ae aS.length ag)) (fun _ hk => hk.2) (.slice aX aI.length aZ)) (fun _ hk => hk.2) (.int .i64 (wrap64 (aK)))) (fun _ hk => hk.2) (.slice a7 aQ.length a9)) (fun _ hk => hk.2) (.slice ae aS.length ag)) (fun _ hk => hk.1.1.2), by exact Kd.R_mono (Kd.R_far (p := ⟨aC, 3, none⟩) (Kd.R_far (p := ⟨aC, 2, none⟩) (Kd.R_far (p := ⟨aC, 1, none⟩) (Kd.R_far (p := ⟨aC, 0, none⟩) (Kd.R_far (p := ⟨aE, 3, none⟩) (Kd.R_types (Kd.R_types aH.o aB.o (by decide)) aA.o (by decide)) (fun _ hk => hk.1.2) (.slice ae aS.length ag)) (fun _ hk => hk.2) (.slice aX aI.length aZ)) (fun _ hk => hk.2) (.int .i64 (wrap64 (aK)))) (fun _ hk => hk.2) (.slice a7 aQ.length a9)) (fun _ hk => hk.2) (.slice ae aS.length ag)) (fun _ hk => hk.1.1.2), by exact Kd.R_mono (Kd.R_far (p := ⟨aC, 3, none⟩) (Kd.R_far (p := ⟨aC, 2, none⟩) (Kd.R_far (p := ⟨aC, 1, none⟩) (Kd.R_far (p := ⟨aC, 0, none⟩) (Kd.R_far (p := ⟨aE, 3, none⟩) (Kd.R_types (Kd.R_types a4.o aB.o (by decide)) aA.o (by decide)) (fun _ hk => hk.1.2) (.slice ae aS.length ag)) (fun _ hk => hk.2) (.slice aX aI.length aZ)) (fun _ hk => hk.2) (.int .i64 (wrap64 (aK)))) (fun _ hk => hk.2) (.slice a7 aQ.length a9)) (fun _ hk => hk.2) (.slice ae aS.length ag)) (fun _ hk => trivial), by repeat (with_reducible first | exact aL.o | refine qAm.far ?_ aV.o (by (with_reducible repeat (apply TyB.set)); exact TyB.of aA.o) (by decide) _ | refine qAm.far ?_ aO.o (by exact TyB.of aB.o) (by decide) _), by repeat (with_reducible first | exact HB.o | refine qA1 ?_ an.o | refine qA1 ?_ ad.o), by repeat (with_reducible first | exact HK.o | refine qCQ ?_ ao.o _ | refine qCQ ?_ a6.o _)⟩
 ·rw [if_neg c7] at H
  have bj : (al != 0) = true := bne_iff_ne.mpr c7
  replace H := bm H
  obtain ⟨⟨aw, ax⟩, av, H⟩ := H
  replace H : (some (aI, wrap64 (aK), aQ, aS, aw, ax)) = some (r1, r2, r3, r4, r5, r6) := H
  have cV := am av
  clear av
  simp only [Option.some.injEq, Prod.mk.injEq] at H
  obtain ⟨rfl, rfl, rfl, rfl, rfl, rfl⟩ := H
  go_enter Tryz.func62, Tryz.ntmps62
  go_wp2_with (first | ((with_reducible refine qAK (N := 2) rfl ?_); refine bx 2 #[.slice none 0 0, .int .i64 0, .slice none 0 0, .slice none 0 0] 90 ?_; intro aC hg c1 hbox hb; have n_ := a2 (qAm.below aL.o hb) (a2 (qAh.trans HK.o (qAh.of_below hb g none) (.inl rfl)) (a2 (qAe HB.o hb) (a2 (hbox) (a2 (by rw [hg]; exact (qBB HK.o) : w.heap.size ≤ aC) (a2 (Nat.le_trans ay.o (by rw [hg]; exact (qBB HK.o) : w.heap.size ≤ aC) : w0.heap.size ≤ aC) (a2 (by rw [hg]; exact Nat.ne_of_lt (qAm.lt aL.o) : g ≠ aC) (am (by rw [hg]; exact Nat.ne_of_gt (qAm.lt aL.o) : aC ≠ g)))))))); clear aL HK HB; obtain ⟨aL, HK, HB, aA, ao, an, aV, aM⟩ := n_; clear hb hbox hg) | ((with_reducible refine qAi (f := 129) rfl ?_); refine gL 7 Tryz.func129 #[.pointer (some ⟨g, 0, none⟩)] ?_; (with_reducible refine (qAE.calls k g s0_0 s0_1 s0_2 aI ap aq w0 _ ?side1 ?side2 A2.o).mono ?_); (case side1 => exact aL.o); (case side2 => exact HB.o); rintro e ca ⟨cA, rfl, a5, hi, hb, hk⟩; refine ⟨_, rfl, ?_⟩; have n_ := a2 (qAh.blk hk aA.o aM.o (by simp)) (a2 (Kd.R_lower a5 (qBB HK.o)) (a2 (qAh.trans HK.o hk (.inl rfl)) (a2 (hb) (am (hi))))); clear aA HK HB aL; obtain ⟨aA, aD, HK, HB, aL⟩ := n_) | ((with_reducible refine qAi (f := 56) rfl ?_); refine gL 9 Tryz.func56 #[.pointer (some ⟨g, 0, none⟩)] ?_; (with_reducible refine (qAr.calls g s0_0 ap aq aK ar au w0 _ ?side1 ?side2 A3.o).mono ?_); (case side1 => exact aL.o); (case side2 => exact HB.o); rintro e cc ⟨rfl, hi, hb, hk⟩; refine ⟨_, rfl, ?_⟩; have n_ := a2 (qAh.blk hk aA.o aM.o (by simp)) (a2 (Kd.R_kp (qAm.apart aL.o aD.o (by decide)) hk) (a2 (qAh.trans HK.o hk (.inl rfl)) (a2 (hb) (am (hi))))); clear aA aD HK HB aL; obtain ⟨aA, aD, HK, HB, aL⟩ := n_; obtain ⟨aY, a3, bs⟩ := Kd.R_slice aD.o; subst bs) | ((with_reducible refine qAi (f := 129) rfl ?_); refine gL 13 Tryz.func129 #[.pointer (some ⟨g, 0, none⟩)] ?_; (with_reducible refine (qAE.calls k g s0_0 ar au aQ ab ac w0 _ ?side1 ?side2 A4.o).mono ?_); (case side1 => exact aL.o); (case side2 => exact HB.o); rintro e cd ⟨cB, rfl, a5, hi, hb, hk⟩; refine ⟨_, rfl, ?_⟩; have n_ := a2 (qAh.blk hk aA.o aM.o (by simp)) (a2 (Kd.R_mono (Kd.R_told (Kd.R_oldK (qAm.apart aL.o aD.o (by decide)) hk) (Kd.R_base a5)) (fun _ h_ => h_.1)) (a2 (Kd.R_lower (Kd.R_new' a5 (Kd.R_lt aD.o)) (qBB HK.o)) (a2 (qAh.trans HK.o hk (.inl rfl)) (a2 (hb) (am (hi)))))); clear aA aD HK HB aL; obtain ⟨aA, aD, aH, HK, HB, aL⟩ := n_; obtain ⟨a8, aa, bu⟩ := Kd.R_slice aH.o; subst bu) | ((with_reducible refine qAK (N := 3) rfl ?_); refine bx 3 #[.slice none 0 0, .int .i64 0, .slice none 0 0, .slice none 0 0] 90 ?_; intro aE hg cX hbox hb; have n_ := a2 (Kd.R_below aD.o hb) (a2 (Kd.R_below aH.o hb) (a2 (qAm.below aL.o hb) (a2 (qAk aA.o hb) (a2 (qAh.trans HK.o (qAh.of_below hb g none) (.inl rfl)) (a2 (qAe HB.o hb) (a2 (hbox) (a2 (by rw [hg]; exact (qBB HK.o) : w.heap.size ≤ aE) (a2 (Nat.le_trans ay.o (by rw [hg]; exact (qBB HK.o) : w.heap.size ≤ aE) : w0.heap.size ≤ aE) (a2 (by rw [hg]; exact Nat.ne_of_lt (qBd aA.o) : aC ≠ aE) (a2 (by rw [hg]; exact Nat.ne_of_lt (qAm.lt aL.o) : g ≠ aE) (am (by rw [hg]; exact Nat.ne_of_gt (qAm.lt aL.o) : aE ≠ g)))))))))))); clear aD aH aL aA HK HB; obtain ⟨aD, aH, aL, aA, HK, HB, aB, a6, ad, aF, aO, aU⟩ := n_; clear hb hbox hg; have cQ := aF.o; have cL := aU.o; have cR := aO.o; obtain ⟨bL, bM, bN, bO⟩ := c4_ cX aB.o; obtain ⟨b6, b7, b8, b9⟩ := z4_ aB.o) | ((with_reducible refine qAi (f := 89) rfl ?_); refine gL 17 Tryz.func89 #[.pointer (some ⟨g, 0, none⟩), .int .i64 16384] ?_; (with_reducible refine (qAF.calls g s0_0 ab ac 16384 ai aj ak w0 _ ?side1 ?side2 A5.o).mono ?_); (case side1 => repeat (with_reducible first | exact aL.o | refine qAm.far ?_ aO.o (by (with_reducible repeat (apply TyB.set)); exact TyB.of aB.o) (by decide) _)); (case side2 => repeat (with_reducible first | exact HB.o | refine qA1 ?_ ad.o)); rintro e ce ⟨cC, rfl, a5, hi, hb, hk⟩; refine ⟨_, rfl, ?_⟩; have n_ := a2 (qAh.blk hk (g' := aC) (o := .cells #[.slice none 0 0, .int .i64 0, .slice none 0 0, .slice none 0 0] 90 (0, 0)) (by refine qA2 ?_ aF.o _; refine qA2 ?_ aF.o _; refine qA2 ?_ aF.o _; refine qA2 ?_ aF.o _; exact aA.o) aM.o (by simp)) (a2 (Kd.R_kp (qAm.apart (show qAm w0 _ g s0_0 ab ac from by repeat (with_reducible first | exact aL.o | refine qAm.far ?_ aO.o (by (with_reducible repeat (apply TyB.set)); exact TyB.of aB.o) (by decide) _)) (by exact (Kd.R_mono (Kd.R_far (p := ⟨aE, 3, none⟩) (Kd.R_far (p := ⟨aE, 2, none⟩) (Kd.R_far (p := ⟨aE, 1, none⟩) (Kd.R_far (p := ⟨aE, 0, none⟩) (Kd.R_types aD.o aB.o (by decide)) (fun _ hk => hk.2) (.slice aY aI.length a3)) (fun _ hk => hk.2) (.int .i64 (wrap64 (aK)))) (fun _ hk => hk.2) (.slice a8 aQ.length aa)) (fun _ hk => hk.2) (.slice none 0 0)) (fun _ h_ => h_.1))) (by decide)) hk) (a2 (Kd.R_kp (qAm.apart (show qAm w0 _ g s0_0 ab ac from by repeat (with_reducible first | exact aL.o | refine qAm.far ?_ aO.o (by (with_reducible repeat (apply TyB.set)); exact TyB.of aB.o) (by decide) _)) (by exact (Kd.R_mono (Kd.R_far (p := ⟨aE, 3, none⟩) (Kd.R_far (p := ⟨aE, 2, none⟩) (Kd.R_far (p := ⟨aE, 1, none⟩) (Kd.R_far (p := ⟨aE, 0, none⟩) (Kd.R_types aH.o aB.o (by decide)) (fun _ hk => hk.2) (.slice aY aI.length a3)) (fun _ hk => hk.2) (.int .i64 (wrap64 (aK)))) (fun _ hk => hk.2) (.slice a8 aQ.length aa)) (fun _ hk => hk.2) (.slice none 0 0)) (fun _ h_ => h_.1))) (by decide)) hk) (a2 (qAh.blk hk (g' := aE) (o := .cells #[.slice aY aI.length a3, .int .i64 (wrap64 (aK)), .slice a8 aQ.length aa, .slice none 0 0] 90 (0, 0)) (by refine qA5 (cs := #[.slice aY aI.length a3, .int .i64 (wrap64 (aK)), .slice a8 aQ.length aa, .slice none 0 0]) ?_ 3 _ rfl; refine qA5 (cs := #[.slice aY aI.length a3, .int .i64 (wrap64 (aK)), .slice none 0 0, .slice none 0 0]) ?_ 2 _ rfl; refine qA5 (cs := #[.slice aY aI.length a3, .int .i64 0, .slice none 0 0, .slice none 0 0]) ?_ 1 _ rfl; refine qA5 (cs := #[.slice none 0 0, .int .i64 0, .slice none 0 0, .slice none 0 0]) ?_ 0 _ rfl; exact aB.o) aU.o (by simp)) (a2 (Kd.R_lower a5 (qBB (w := w) (g := g) (row := none) (by repeat (with_reducible first | exact HK.o | refine qCQ ?_ a6.o _)))) (a2 (qAh.trans (by repeat (with_reducible first | exact HK.o | refine qCQ ?_ a6.o _)) hk (.inl rfl)) (a2 (hb) (am (hi)))))))); clear aA aD aH aB HK HB aL; obtain ⟨aA, aD, aH, aB, aT, HK, HB, aL⟩ := n_; obtain ⟨bi, bl, bw⟩ := Kd.R_slice aT.o; subst bw) | ((with_reducible refine qAi (f := 88) rfl ?_); refine gL 18 Tryz.func88 #[.slice bi ai.length bl] ?_; (with_reducible refine (qBx.calls _ _ ai aS al _ ?side1 ?side2 A6.o).mono ?_); (case side1 => exact (Kd.R_reads' aT.o).2.2); (case side2 => exact (Kd.R_reads' aT.o).2.1); rintro e cf ⟨cD, rfl, a5, hb⟩; refine ⟨_, rfl, ?_⟩; have n_ := a2 (Kd.R_below aD.o hb) (a2 (Kd.R_below aH.o hb) (a2 (Kd.R_below aT.o hb) (a2 (Kd.R_lower a5 (qBB HK.o)) (a2 (qAm.below aL.o hb) (a2 (qAk aA.o hb) (a2 (qAk aB.o hb) (a2 (qAh.trans HK.o (qAh.of_below hb g none) (.inl rfl)) (am (qAe HB.o hb))))))))); clear aD aH aT aL aA aB HK HB; obtain ⟨aD, aH, aT, a4, aL, aA, aB, HK, HB⟩ := n_) | ((with_reducible refine qAi (f := 57) rfl ?_); refine gL 24 Tryz.func57 #[.pointer (some ⟨g, 0, none⟩), .int .i64 52] ?_; (with_reducible refine (qAU.calls g s0_0 aj ak 52 aw ax w0 _ ?side1 ?side2 cV.o).mono ?_); (case side1 => exact aL.o); (case side2 => exact HB.o); rintro e cU ⟨rfl, hi, hb, hk⟩; refine ⟨_, rfl, ?_⟩; have n_ := a2 (qAh.blk hk aA.o aM.o (by simp)) (a2 (Kd.R_kp (qAm.apart aL.o aD.o (by decide)) hk) (a2 (Kd.R_kp (qAm.apart aL.o aH.o (by decide)) hk) (a2 (qAh.blk hk aB.o aU.o (by simp)) (a2 (Kd.R_kp (qAm.apart aL.o a4.o (by decide)) hk) (a2 (qAh.trans HK.o hk (.inl rfl)) (a2 (hb) (am (hi)))))))); clear aA aD aH aB aT a4 HK HB aL; obtain ⟨aA, aD, aH, aB, a4, HK, HB, aL⟩ := n_; obtain ⟨af, ah, bz⟩ := Kd.R_slice a4.o; subst bz; obtain ⟨bP, bQ, bR, bS⟩ := c4_ cU aB.o; have ba := qAx aB.o 3; have cM := aM.o; have cS := aV.o; obtain ⟨bT, bU, bV, bW⟩ := c4_ cU aA.o; obtain ⟨bb, bc, bd, bg⟩ := z4_ aA.o))
  refine bodyPost_ret (results_cell_row rfl _ _ aC 90 #[.slice aY aI.length a3, .int .i64 (wrap64 (aK)), .slice a8 aQ.length aa, .slice af aS.length ah] (0, 0) _ rfl (by refine qA5 (cs := #[.slice aY aI.length a3, .int .i64 (wrap64 (aK)), .slice a8 aQ.length aa, .slice none 0 0]) ?_ 3 _ rfl; refine qA5 (cs := #[.slice aY aI.length a3, .int .i64 (wrap64 (aK)), .slice none 0 0, .slice none 0 0]) ?_ 2 _ rfl; refine qA5 (cs := #[.slice aY aI.length a3, .int .i64 0, .slice none 0 0, .slice none 0 0]) ?_ 1 _ rfl; refine qA5 (cs := #[.slice none 0 0, .int .i64 0, .slice none 0 0, .slice none 0 0]) ?_ 0 _ rfl; refine qA2 ?_ aF.o _; exact aA.o) Tryz.underlying90 rfl (by kernel_rfl)) rfl ?_
  exact ⟨_, _, _, by rfl, by exact Kd.R_mono (Kd.R_far (p := ⟨aC, 3, none⟩) (Kd.R_far (p := ⟨aC, 2, none⟩) (Kd.R_far (p := ⟨aC, 1, none⟩) (Kd.R_far (p := ⟨aC, 0, none⟩) (Kd.R_far (p := ⟨aE, 3, none⟩) (Kd.R_types (Kd.R_types aD.o aB.o (by decide)) aA.o (by decide)) (fun _ hk => hk.1.2) (.slice af aS.length ah)) (fun _ hk => hk.2) (.slice aY aI.length a3)) (fun _ hk => hk.2) (.int .i64 (wrap64 (aK)))) (fun _ hk => hk.2) (.slice a8 aQ.length aa)) (fun _ hk => hk.2) (.slice af aS.length ah)) (fun _ hk => hk.1.1.2), by exact Kd.R_mono (Kd.R_far (p := ⟨aC, 3, none⟩) (Kd.R_far (p := ⟨aC, 2, none⟩) (Kd.R_far (p := ⟨aC, 1, none⟩) (Kd.R_far (p := ⟨aC, 0, none⟩) (Kd.R_far (p := ⟨aE, 3, none⟩) (Kd.R_types (Kd.R_types aH.o aB.o (by decide)) aA.o (by decide)) (fun _ hk => hk.1.2) (.slice af aS.length ah)) (fun _ hk => hk.2) (.slice aY aI.length a3)) (fun _ hk => hk.2) (.int .i64 (wrap64 (aK)))) (fun _ hk => hk.2) (.slice a8 aQ.length aa)) (fun _ hk => hk.2) (.slice af aS.length ah)) (fun _ hk => hk.1.1.2), by exact Kd.R_mono (Kd.R_far (p := ⟨aC, 3, none⟩) (Kd.R_far (p := ⟨aC, 2, none⟩) (Kd.R_far (p := ⟨aC, 1, none⟩) (Kd.R_far (p := ⟨aC, 0, none⟩) (Kd.R_far (p := ⟨aE, 3, none⟩) (Kd.R_types (Kd.R_types a4.o aB.o (by decide)) aA.o (by decide)) (fun _ hk => hk.1.2) (.slice af aS.length ah)) (fun _ hk => hk.2) (.slice aY aI.length a3)) (fun _ hk => hk.2) (.int .i64 (wrap64 (aK)))) (fun _ hk => hk.2) (.slice a8 aQ.length aa)) (fun _ hk => hk.2) (.slice af aS.length ah)) (fun _ hk => trivial), by repeat (with_reducible first | exact aL.o | refine qAm.far ?_ aV.o (by (with_reducible repeat (apply TyB.set)); exact TyB.of aA.o) (by decide) _ | refine qAm.far ?_ aO.o (by exact TyB.of aB.o) (by decide) _), by repeat (with_reducible first | exact HB.o | refine qA1 ?_ an.o | refine qA1 ?_ ad.o), by repeat (with_reducible first | exact HK.o | refine qCQ ?_ ao.o _ | refine qCQ ?_ a6.o _)⟩
def qBm.f (s0_0 : List Int) (s0_1 : Int) (s0_2 : Int) : Option (Int × Int × Int) := (qB2.f s0_0 s0_1 s0_2).bind fun aA => (if aA.1 > 0 then (some (41, aA.2.1, aA.2.2)) else ((qAO.f s0_0 aA.2.1 aA.2.2).bind fun aB => (some (aB.1, aB.2.1, aB.2.2))))
theorem qBm.calls (g : Nat) (s0_0 : List Int) (s0_1 : Int) (s0_2 : Int) (r1 : Int) (r2 : Int) (r3 : Int) (w0 w : World) (hI : qAm w0 w g s0_0 s0_1 s0_2) (hB : Below w0.heap.size w0 w) (h : qBm.f s0_0 s0_1 s0_2 = some (r1, r2, r3)) :
  Calls Tryz.prog 64 #[.pointer (some ⟨g, 0, none⟩)] w fun e w' => e = .returned (.int .i64 r1) ∧ qAm w0 w' g s0_0 r2 r3 ∧ Below w0.heap.size w0 w' ∧ qAh w w' g none := by
 have aD := am hI
 have HK := am (qAh.refl w g none)
 clear hI
 have HB := am hB
 clear hB
 have H : ((qB2.f s0_0 s0_1 s0_2).bind fun aA => (if aA.1 > 0 then (some (41, aA.2.1, aA.2.2)) else ((qAO.f s0_0 aA.2.1 aA.2.2).bind fun aB => (some (aB.1, aB.2.1, aB.2.2))))) = some (r1, r2, r3) := h
 clear h
 replace H := bm H
 obtain ⟨⟨aC, aE, aF⟩, aK, H⟩ := H
 replace H : (if aC > 0 then (some (41, aE, aF)) else ((qAO.f s0_0 aE aF).bind fun aB => (some (aB.1, aB.2.1, aB.2.2)))) = some (r1, r2, r3) := H
 have A2 := am aK
 clear aK
 by_cases c3 : aC > 0
 ·rw [if_pos c3] at H
  replace c3 := d1 c3
  simp only [Option.some.injEq, Prod.mk.injEq] at H
  obtain ⟨rfl, rfl, rfl⟩ := H
  go_enter Tryz.func64, Tryz.ntmps64
  go_wp2_with ((with_reducible refine qAi (f := 131) rfl ?_); refine gL 4 Tryz.func131 #[.pointer (some ⟨g, 0, none⟩)] ?_; (with_reducible refine (qB2.calls g s0_0 s0_1 s0_2 aC aE aF w0 _ ?side1 ?side2 A2.o).mono ?_); (case side1 => exact aD.o); (case side2 => exact HB.o); rintro e w4 ⟨rfl, hi, hb, hk⟩; refine ⟨_, rfl, ?_⟩; have n_ := a2 (qAh.trans HK.o hk (.inl rfl)) (a2 (hb) (am (hi))); clear HK HB aD; obtain ⟨HK, HB, aD⟩ := n_)
  go_ret
  exact ⟨by rfl, by exact aD.o, by exact HB.o, by exact HK.o⟩
 ·rw [if_neg c3] at H
  replace c3 := d0 c3
  replace H := bm H
  obtain ⟨⟨aG, aH, aI⟩, aL, H⟩ := H
  replace H : (some (aG, aH, aI)) = some (r1, r2, r3) := H
  have A5 := am aL
  clear aL
  simp only [Option.some.injEq, Prod.mk.injEq] at H
  obtain ⟨rfl, rfl, rfl⟩ := H
  go_enter Tryz.func64, Tryz.ntmps64
  go_wp2_with (first | ((with_reducible refine qAi (f := 131) rfl ?_); refine gL 4 Tryz.func131 #[.pointer (some ⟨g, 0, none⟩)] ?_; (with_reducible refine (qB2.calls g s0_0 s0_1 s0_2 aC aE aF w0 _ ?side1 ?side2 A2.o).mono ?_); (case side1 => exact aD.o); (case side2 => exact HB.o); rintro e w6 ⟨rfl, hi, hb, hk⟩; refine ⟨_, rfl, ?_⟩; have n_ := a2 (qAh.trans HK.o hk (.inl rfl)) (a2 (hb) (am (hi))); clear HK HB aD; obtain ⟨HK, HB, aD⟩ := n_) | ((with_reducible refine qAi (f := 60) rfl ?_); refine gL 7 Tryz.func60 #[.pointer (some ⟨g, 0, none⟩)] ?_; (with_reducible refine (qAO.calls g s0_0 aE aF aG aH aI w0 _ ?side1 ?side2 A5.o).mono ?_); (case side1 => exact aD.o); (case side2 => exact HB.o); rintro e w7 ⟨rfl, hi, hb, hk⟩; refine ⟨_, rfl, ?_⟩; have n_ := a2 (qAh.trans HK.o hk (.inl rfl)) (a2 (hb) (am (hi))); clear HK HB aD; obtain ⟨HK, HB, aD⟩ := n_))
  go_ret
  exact ⟨by rfl, by exact aD.o, by exact HB.o, by exact HK.o⟩
def qAy.l0 : Nat → List Int → List Int → Int → Int → Option (Bool)
 | 0, _, _, _, _ => none
 | k + 1, x0, x1, aU, aJ => if aJ < aU then (if 0 ≤ aJ then (if aJ < (x0.length : Int) then (if aJ < (x1.length : Int) then (if (rd x0 aJ) = (rd x1 aJ) then (qAy.l0 k x0 x1 aU (wrap64 (aJ + 1))) else (some false)) else (none)) else (none)) else (none)) else (some true)
def qAy.f (k : Nat) (l0 : List Int) (l1 : List Int) : Option (Bool) := if (l0.length : Int) = (l1.length : Int) then (qAy.l0 k l0 l1 (l0.length : Int) 0) else (some false)
theorem qAy.calls (k : Nat) (A0 : Option Addr) (c0 : Nat) (l0 : List Int) (A1 : Option Addr) (c1 : Nat) (l1 : List Int) (r : Bool) (w : World) (hr0 : Kd.C (Kd.int .u8) w A0 l0.length l0) (hc0 : l0.length ≤ c0) (hr1 : Kd.C (Kd.int .u8) w A1 l1.length l1) (hc1 : l1.length ≤ c1) (h : qAy.f k l0 l1 = some r) :
  Calls Tryz.prog 65 #[.slice A0 l0.length c0, .slice A1 l1.length c1] w fun e w' => e = .returned (.bool r) ∧ qAS w w' := by
 have aS := am hr0
 clear hr0 hc0
 have aT := am hr1
 clear hr1 hc1
 have H : (if (l0.length : Int) = (l1.length : Int) then (qAy.l0 k l0 l1 (l0.length : Int) 0) else (some false)) = some r := h
 clear h
 by_cases c3 : (l0.length : Int) = (l1.length : Int)
 ·rw [if_pos c3] at H
  have aN : ((l0.length : Int) == (l1.length : Int)) = true := beq_iff_eq.mpr c3
  have aM : ((l0.length : Int) != (l1.length : Int)) = false := bn c3
  have aO : (l0.length == l1.length) = true := by (simp at c3 ⊢; omega)
  clear c3
  have H' := am H
  clear H
  go_enter Tryz.func65, Tryz.ntmps65
  go_wp2
  repeat (go_quiet (fail))
  go_loopg [13] k (fun kq aY w' => ∃ (aA : Int), aY = .int .i64 aA ∧ qAa (qAy.l0 kq l0 l1 (l0.length : Int) aA = some r) ∧ qAa (kq ≤ k) ∧ qAS w w')
  case atStart => exact ⟨(0), (by rfl), H', ⟨Nat.le_refl _⟩, by exact qAS.refl _⟩
  case round =>
   clear H'
   obtain ⟨aA, rfl, HA, aR, ⟨m1, rfl⟩⟩ := hrel
   cases gk with
   | zero => exact absurd HA.o (by simp [qAy.l0])
   | succ k1 =>
    have H := HA.o
    clear HA
    simp only [qAy.l0] at H
    by_cases c4 : aA < (l0.length : Int)
    rotate_left
    ·rw [if_neg c4] at H
     replace c4 := d0 c4
     obtain rfl := Option.some.inj H
     go_wp2
     repeat (go_quiet (fail))
     go_ret
     exact ⟨by rfl, by repeat (first | exact qAS.refl _ | apply qAS.step)⟩
    rw [if_pos c4] at H
    replace c4 := d1 c4
    obtain ⟨c5, H⟩ := gd H
    replace c5 := d1 c5
    obtain ⟨c6, H⟩ := gd H
    replace c6 := d1 c6
    obtain ⟨c7, H⟩ := gd H
    replace c7 := d1 c7
    by_cases c8 : (rd l0 aA) = (rd l1 aA)
    rotate_left
    ·rw [if_neg c8] at H
     have aQ : ((rd l0 aA) != (rd l1 aA)) = true := bne_iff_ne.mpr c8
     obtain rfl := Option.some.inj H
     have aB : 0 ≤ aA := od (by assumption)
     have aC : aA < (l0.length : Int) := od (by assumption)
     obtain ⟨aK, aG, aE⟩ := Kd.at_int aS.o aA aB aC
     cases aG
     replace aB := eq_true aB
     replace aC := eq_true aC
     have aI : 0 ≤ aA := od (by assumption)
     have aD : aA < (l1.length : Int) := od (by assumption)
     obtain ⟨aL, aH, aF⟩ := Kd.at_int aT.o aA aI aD
     cases aH
     replace aD := eq_true aD
     go_wp2
     repeat (go_quiet (fail); try go_wp2)
     go_ret
     exact ⟨by rfl, by repeat (first | exact qAS.refl _ | apply qAS.step)⟩
    rw [if_pos c8] at H
    have aQ : ((rd l0 aA) != (rd l1 aA)) = false := bn c8
    clear c8
    have H' := am H
    clear H
    have aB : 0 ≤ aA := od (by assumption)
    have aC : aA < (l0.length : Int) := od (by assumption)
    obtain ⟨aK, aG, aE⟩ := Kd.at_int aS.o aA aB aC
    cases aG
    replace aB := eq_true aB
    replace aC := eq_true aC
    have aI : 0 ≤ aA := od (by assumption)
    have aD : aA < (l1.length : Int) := od (by assumption)
    obtain ⟨aL, aH, aF⟩ := Kd.at_int aT.o aA aI aD
    cases aH
    replace aD := eq_true aD
    go_wp2
    repeat (go_quiet (fail); try go_wp2)
    go_roundg k1
    case measure => have := aR.o; omega
    case rel => exact ⟨(wrap64 (aA + 1)), (by rfl), H', ⟨by have := aR.o; omega⟩, by repeat (first | exact qAS.refl _ | apply qAS.step)⟩
 ·rw [if_neg c3] at H
  have aM : ((l0.length : Int) != (l1.length : Int)) = true := bne_iff_ne.mpr c3
  obtain rfl := Option.some.inj H
  go_enter Tryz.func65, Tryz.ntmps65
  go_wp2
  repeat (go_quiet (fail))
  go_ret
  exact ⟨by rfl, by exact qAS.refl _⟩
end Q
end
end Go.Proofs.YtfjpnjbinbhcfaaGreat
