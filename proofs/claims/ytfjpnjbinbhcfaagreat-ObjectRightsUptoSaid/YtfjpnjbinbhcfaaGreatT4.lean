/- The program's object.Right of any object and the document's tell the same, where what is read is of bulk at most 1048576: Rows.ObjectRightsUptoSaid. Part 4 of 10. -/
import Derived.Test.YtfjpnjbinbhcfaaGreatT3
import Derived.Deep.RegionHeld3
import Derived.Deep.AppendLies
set_option maxHeartbeats 8000000
set_option maxRecDepth 100000
set_option linter.unusedVariables false
set_option linter.unusedSimpArgs false
namespace Go.Proofs.YtfjpnjbinbhcfaaGreat
section
namespace Q
open Go.RowKit PA PC PB
theorem step_append_zero {P : Program} {w : World} {ops : Array Oper} {o : Oper} {a : Act} {K : Act → World → Prop} {Q : Exit → Act → World → Prop} {E : Prop} (hgd : o.guard = none) (s x : Operand) (t : TypeId)
  (ho : o.op = .call { callee := .builtin .append, args := #[s, x], argTypes := #[t, t] })
  (base : Nat) (e : TypeId) (i : TypeInfo) (size : Nat) (ht : P.underlying t = some (.slice e)) (hi : P.info? e = some i)
  (v : Value) (n : Nat) (xs : List Value) (hs : a.eval s = v) (hown : w.ownsRow base e size v n xs) (A : Option Addr) (c : Nat) (hx : a.eval x = .slice A 0 c)
  (h : K (a.put o.dst v) w) :
  if Region.wanted o (yielded ops a.tmps) = true then Oper.wp P o a w K Q else E := by
 have hw : Region.wanted o (yielded ops a.tmps) = true := by simp [Region.wanted, hgd]
 rw [if_pos hw]
 have hrun := Base.run_append_zero (P := P) (w := w) base t o.type e i size ht hi v n xs hown A c
 unfold Oper.wp
 simp [execOp, ho, resolve, invoke, builtin, hs, hx, hrun, Result.andThen]
 exact h
end Q
end
section
namespace Q
open Go.RowKit PA PC PB
attribute [local go_sem] qAU min2_int qBd min_two max_three min_three max_four min_four
end Q
end
section
namespace Q
open Go.RowKit PA PC PB
open DecLaw
theorem qD4 {l : List Int} (h : qB6 l) (n : Nat) : qB6 (l.take n) := fun x hx => h x (List.mem_of_mem_take hx)
theorem qBO {l : List Int} (h : qB6 l) (n : Nat) : qB6 (l.drop n) := fun x hx => h x (List.mem_of_mem_drop hx)
theorem qFa : ∀ (l : List Int), qB6 l → ∀ v : Int, 0 ≤ v → 0 ≤ l.foldl (fun v x => v * 256 + x) v ∧ l.foldl (fun v x => v * 256 + x) v < (v + 1) * 256 ^ l.length := by
 intro l
 induction l with
 | nil => intro _ v hv; simp; omega
 | cons x l ih =>
  intro h v hv
  have hx := h x List.mem_cons_self
  obtain ⟨h1, h2⟩ := ih (fun y hy => h y (List.mem_cons_of_mem _ hy)) (v * 256 + x) (by omega)
  refine ⟨h1, Int.lt_of_lt_of_le h2 ?_⟩
  rw [List.length_cons, Int.pow_succ]
  have : (v * 256 + x + 1) * 256 ^ l.length ≤ ((v + 1) * 256) * 256 ^ l.length := Int.mul_le_mul_of_nonneg_right (by omega) (Int.le_of_lt (Int.pow_pos (by decide)))
  have e : (v + 1) * (256 ^ l.length * 256) = ((v + 1) * 256) * 256 ^ l.length := by rw [Int.mul_assoc, Int.mul_comm (256 ^ l.length) 256]
  rw [e]; exact this
theorem qEi (l : List Int) (h : qB6 l) : 0 ≤ valB l ∧ valB l < 256 ^ l.length := by
 have := qFa l h 0 (Int.le_refl 0)
 unfold valB
 simpa using this
theorem numStep_eq (v x : Int) (hv : 0 ≤ v) (hv2 : v < 72057594037927936) (hx : 0 ≤ x) (hx2 : x < 256) : qDg v x = v * 256 + x := by
 unfold qDg
 rw [Dec.wrap_256, show IntKind.u64.wrap x = x from by simp [IntKind.wrap, IntKind.bits, IntKind.signed]; omega, Dec.or_low v x hv (by omega) hx hx2]
 omega
theorem numF_fold (l : List Int) (h : qB6 l) : ∀ (v : Int), 0 ≤ v → (v + 1) * 256 ^ l.length ≤ 18446744073709551616 → l.foldl qDg v = l.foldl (fun v x => v * 256 + x) v := by
 induction l with
 | nil => intro v _ _; rfl
 | cons x l ih =>
  intro v hv hb
  have hx := h x List.mem_cons_self
  have hp : (1 : Int) ≤ 256 ^ l.length := by have := @Int.pow_pos 256 l.length (by decide); omega
  rw [List.length_cons, Int.pow_succ] at hb
  have hv2 : v < 72057594037927936 := by
   have h1 : (v + 1) * (1 * 256) ≤ (v + 1) * (256 ^ l.length * 256) := Int.mul_le_mul_of_nonneg_left (Int.mul_le_mul_of_nonneg_right hp (by decide)) (by omega)
   omega
  simp only [List.foldl_cons]
  rw [numStep_eq v x hv hv2 hx.1 hx.2]
  refine ih (fun y hy => h y (List.mem_cons_of_mem _ hy)) _ (by omega) ?_
  have h1 : (v * 256 + x + 1) * 256 ^ l.length ≤ ((v + 1) * 256) * 256 ^ l.length := Int.mul_le_mul_of_nonneg_right (by omega) (by omega)
  have e : (v + 1) * (256 ^ l.length * 256) = ((v + 1) * 256) * 256 ^ l.length := by rw [Int.mul_assoc, Int.mul_comm (256 ^ l.length) 256]
  omega
theorem qEN (l : List Int) (h : qB6 l) (h8 : l.length ≤ 8) : numF l = valB l := by
 unfold numF valB
 refine numF_fold l h 0 (Int.le_refl 0) ?_
 have : ∀ n : Nat, n < 9 → (256 : Int) ^ n ≤ 18446744073709551616 := by decide
 have := this l.length (by omega)
 omega
abbrev Ps (α : Type) := List Int → Option (α × List Int)
def byteP : Ps Int := fun r => match r with | [] => none | x :: r => some (x, r)
def numP (m : Nat) : Ps Int := fun r => if m ≤ r.length then some (valB (r.take m), r.drop m) else none
def intP : Ps Int := fun r => if 4 ≤ r.length then (if valB (r.take 4) ≤ 2147483647 then some (valB (r.take 4), r.drop 4) else none) else none
def rawP (most : Int) : Ps (List Int) := fun r => (intP r).bind fun a => if a.1 ≤ most ∧ a.1 ≤ a.2.length then some (a.2.take a.1.toNat, a.2.drop a.1.toNat) else none
def textP (most : Int) : Ps ByteArray := fun r => (rawP most r).map fun a => (strOfNums a.1, a.2)
def Rd {α : Type} (f0 : List Int) (g : Nat → Option (α × Int × Int)) (s : Option (α × List Int)) : Prop :=
 ∃ v p e, Ev g (v, p, e) ∧ match s with
  | some (x, r) => v = x ∧ e = 0 ∧ 0 ≤ p ∧ p ≤ f0.length ∧ r = f0.drop p.toNat
  | none => e ≠ 0
def Pl (f0 : List Int) (p : Int) : Prop := 0 ≤ p ∧ p ≤ f0.length
theorem Rd.ok {α : Type} {f0 : List Int} {g : Nat → Option (α × Int × Int)} {x : α} {p : Int} (h : Ev g (x, p, 0)) (hp : Pl f0 p) : Rd f0 g (some (x, f0.drop p.toNat)) := ⟨x, p, 0, h, rfl, rfl, hp.1, hp.2, rfl⟩
theorem Rd.no {α : Type} {f0 : List Int} {g : Nat → Option (α × Int × Int)} {x : α} {p e : Int} (h : Ev g (x, p, e)) (he : e ≠ 0) : Rd f0 g none := ⟨x, p, e, h, he⟩
theorem Rd.bind {α β : Type} {f0 : List Int} {g : Nat → Option (α × Int × Int)} {s : Option (α × List Int)} {h : Nat → α × Int × Int → Option (β × Int × Int)} {t : α × List Int → Option (β × List Int)} (hg : Rd f0 g s)
  (good : ∀ x p, Pl f0 p → s = some (x, f0.drop p.toNat) → Rd f0 (fun k => h k (x, p, 0)) (t (x, f0.drop p.toNat))) (bad : ∀ x p e, e ≠ 0 → Rd f0 (fun k => h k (x, p, e)) none) : Rd f0 (fun k => (g k).bind (h k)) (s.bind t) := by
 obtain ⟨v, p, e, hv, hs⟩ := hg
 cases s with
 | none =>
  obtain ⟨v2, p2, e2, h2, hs2⟩ := bad v p e hs
  exact ⟨v2, p2, e2, Ev.bind hv h2, hs2⟩
 | some a =>
  obtain ⟨x, r⟩ := a
  obtain ⟨rfl, rfl, h0, h1, rfl⟩ := hs
  obtain ⟨v2, p2, e2, h2, hs2⟩ := good v p ⟨h0, h1⟩ rfl
  exact ⟨v2, p2, e2, Ev.bind hv h2, hs2⟩
theorem Rd.congr {α : Type} {f0 : List Int} {g h : Nat → Option (α × Int × Int)} {s t : Option (α × List Int)} (hg : Rd f0 g s) (e : ∀ k, h k = g k) (es : t = s) : Rd f0 h t := by
 subst es
 obtain ⟨v, p, e', hv, hs⟩ := hg
 exact ⟨v, p, e', Ev.congr e hv, hs⟩
theorem qED (f0 : List Int) (p : Int) (hp : Pl f0 p) : (f0.drop p.toNat).length = f0.length - p.toNat := List.length_drop
theorem qCD (f0 : List Int) (p : Int) (n : Nat) (hp : Pl f0 p) : (f0.drop p.toNat).drop n = f0.drop (p + n).toNat := by
 rw [List.drop_drop]; congr 1; have := hp.1; omega
theorem qDc (f0 : List Int) (hb : qB6 f0) (p : Int) (hp : Pl f0 p) : Rd f0 (fun _ => qAu.f f0 p 0) (byteP (f0.drop p.toNat)) := by
 obtain ⟨h0, h1⟩ := hp
 by_cases hlt : p < f0.length
 rotate_left
 ·rw [List.drop_eq_nil_of_le (by omega)]
  refine Rd.no (x := 0) (p := p) (e := 40) (Ev.congr (f := fun _ => some (0, p, 40)) (fun k => ?_) (Ev.now _)) (by decide)
  simp [qAu.f, hlt]
 have hc : f0.drop p.toNat = f0.getD p.toNat 0 :: f0.drop (p + 1).toNat := by
  rw [show (p + 1).toNat = p.toNat + 1 from by omega, List.drop_eq_getElem_cons (by omega), List.getD_eq_getElem?_getD, List.getElem?_eq_getElem (by omega)]; rfl
 rw [hc]
 refine Rd.ok (f0 := f0) (p := p + 1) ?_ ⟨by omega, by omega⟩
 refine Ev.congr (f := fun _ => some (f0.getD p.toNat 0, p + 1, 0)) (fun k => ?_) (Ev.now _)
 simp [qAu.f, hlt]
theorem short_good (f0 : List Int) (hb : qB6 f0) (p : Int) (hp : Pl f0 p) : Rd f0 (fun _ => qAQ.f f0 p 0) (numP 2 (f0.drop p.toNat)) := by
 have hd := qED f0 p hp
 unfold numP
 by_cases h : 2 ≤ (f0.drop p.toNat).length
 rotate_left
 ·rw [if_neg h]
  have hp2 : ¬ p + 2 ≤ f0.length := by have := hp.1; omega
  exact Rd.no (x := 0) (p := p) (e := 40) (Ev.congr (f := fun _ => some (0, p, 40)) (fun k => by simp [qAQ.f, hp2]) (Ev.now _)) (by decide)
 rw [if_pos h, qCD f0 p 2 hp]
 have hp2 : p + 2 ≤ f0.length := by have := hp.1; omega
 have hv := qEi _ (qD4 (qBO hb p.toNat) 2)
 have h2 : ((f0.drop p.toNat).take 2).length = 2 := by rw [List.length_take]; omega
 rw [h2] at hv
 have hn : wrap64 (numF ((f0.drop p.toNat).take 2)) = valB ((f0.drop p.toNat).take 2) := by
  rw [qEN _ (qD4 (qBO hb p.toNat) 2) (by omega)]
  unfold wrap64; omega
 exact Rd.ok (Ev.congr (f := fun _ => some (valB ((f0.drop p.toNat).take 2), p + (2 : Nat), 0)) (fun k => by simp [qAQ.f, hp2, hn]) (Ev.now _)) ⟨by have := hp.1; omega, hp2⟩
theorem long_good (f0 : List Int) (hb : qB6 f0) (p : Int) (hp : Pl f0 p) : Rd f0 (fun _ => qAZ.f f0 p 0) (numP 8 (f0.drop p.toNat)) := by
 have hd := qED f0 p hp
 unfold numP
 by_cases h : 8 ≤ (f0.drop p.toNat).length
 rotate_left
 ·rw [if_neg h]
  have hp2 : ¬ p + 8 ≤ f0.length := by have := hp.1; omega
  exact Rd.no (x := 0) (p := p) (e := 40) (Ev.congr (f := fun _ => some (0, p, 40)) (fun k => by simp [qAZ.f, hp2]) (Ev.now _)) (by decide)
 rw [if_pos h, qCD f0 p 8 hp]
 have hp2 : p + 8 ≤ f0.length := by have := hp.1; omega
 have h2 : ((f0.drop p.toNat).take 8).length = 8 := by rw [List.length_take]; omega
 have hn : numF ((f0.drop p.toNat).take 8) = valB ((f0.drop p.toNat).take 8) := qEN _ (qD4 (qBO hb p.toNat) 8) (by omega)
 exact Rd.ok (Ev.congr (f := fun _ => some (valB ((f0.drop p.toNat).take 8), p + (8 : Nat), 0)) (fun k => by simp [qAZ.f, hp2, hn]) (Ev.now _)) ⟨by have := hp.1; omega, hp2⟩
theorem num4_eq (f0 : List Int) (hb : qB6 f0) (p : Int) (hp : Pl f0 p) (h : 4 ≤ (f0.drop p.toNat).length) : num4 f0 p = valB ((f0.drop p.toNat).take 4) := by
 unfold num4
 exact qEN _ (qD4 (qBO hb p.toNat) 4) (by rw [List.length_take]; omega)
theorem int_good (f0 : List Int) (hb : qB6 f0) (p : Int) (hp : Pl f0 p) : Rd f0 (fun _ => qAN.f f0 p 0) (intP (f0.drop p.toNat)) := by
 have hd := qED f0 p hp
 unfold intP
 by_cases h : 4 ≤ (f0.drop p.toNat).length
 rotate_left
 ·rw [if_neg h]
  have hp2 : ¬ p + 4 ≤ f0.length := by have := hp.1; omega
  exact Rd.no (x := 0) (p := p) (e := 40) (Ev.congr (f := fun _ => some (0, p, 40)) (fun k => by simp [qAN.f, hp2]) (Ev.now _)) (by decide)
 rw [if_pos h, qCD f0 p 4 hp]
 have hp2 : p + 4 ≤ f0.length := by have := hp.1; omega
 have hn := num4_eq f0 hb p hp h
 by_cases hv : valB ((f0.drop p.toNat).take 4) ≤ 2147483647
 rotate_left
 ·rw [if_neg hv]
  exact Rd.no (x := 0) (p := p + 4) (e := 42) (Ev.congr (f := fun _ => some (0, p + 4, 42)) (fun k => by simp [qAN.f, hp2, hn, hv]) (Ev.now _)) (by decide)
 rw [if_pos hv]
 exact Rd.ok (Ev.congr (f := fun _ => some (valB ((f0.drop p.toNat).take 4), p + (4 : Nat), 0)) (fun k => by simp [qAN.f, hp2, hn, hv]) (Ev.now _)) ⟨by have := hp.1; omega, hp2⟩
theorem raw_good (f0 : List Int) (hb : qB6 f0) (most : Int) (hm : 0 ≤ most) (p : Int) (hp : Pl f0 p) : Rd f0 (fun _ => qA9.f f0 p 0 most) (rawP most (f0.drop p.toNat)) := by
 have hd := qED f0 p hp
 have hmx : mx most 0 = most := by unfold mx; omega
 unfold rawP intP
 by_cases h : 4 ≤ (f0.drop p.toNat).length
 rotate_left
 ·rw [if_neg h]
  have hp2 : ¬ p + 4 ≤ f0.length := by have := hp.1; omega
  refine Rd.no (x := []) (p := p) (e := 40) (Ev.congr (f := fun _ => some ([], p, 40)) (fun k => ?_) (Ev.now _)) (by decide)
  unfold qA9.f
  rw [if_neg (by simp), if_neg hp2]
 rw [if_pos h, qCD f0 p 4 hp]
 have hp2 : p + 4 ≤ f0.length := by have := hp.1; omega
 have hp4 : Pl f0 (p + (4 : Nat)) := ⟨by have := hp.1; omega, hp2⟩
 have hn := num4_eq f0 hb p hp h
 have hd4 := qED f0 _ hp4
 have hv0 := (qEi _ (qD4 (qBO hb p.toNat) 4)).1
 generalize valB ((f0.drop p.toNat).take 4) = n at *
 by_cases hv : n ≤ 2147483647
 rotate_left
 ·rw [if_neg hv]
  refine Rd.no (x := []) (p := p + 4) (e := 42) (Ev.congr (f := fun _ => some ([], p + 4, 42)) (fun k => ?_) (Ev.now _)) (by decide)
  unfold qA9.f
  rw [hn, hmx, if_neg (by simp), if_pos hp2, if_neg hv]
 rw [if_pos hv]
 simp only [Option.bind_some]
 by_cases hq : n ≤ most ∧ n ≤ (f0.drop (p + (4 : Nat)).toNat).length
 ·rw [if_pos hq]
  have hq2 : p + 4 + n ≤ f0.length := by have := hp.1; omega
  have hdd := qCD f0 (p + (4 : Nat)) n.toNat hp4
  rw [hdd]
  refine Rd.ok (p := p + (4 : Nat) + (n.toNat : Nat)) (Ev.congr (f := fun _ => some ((f0.drop (p + (4 : Nat)).toNat).take n.toNat, p + (4 : Nat) + (n.toNat : Nat), 0)) (fun k => ?_) (Ev.now _)) ⟨by have := hp.1; omega, by omega⟩
  unfold qA9.f
  rw [hn, hmx, if_neg (by simp), if_pos hp2, if_pos hv, if_pos hq.1, if_pos hq2]
  rw [show ((n.toNat : Nat) : Int) = n from by omega]; rfl
 rw [if_neg hq]
 by_cases hq1 : n ≤ most
 rotate_left
 ·refine Rd.no (x := []) (p := p + 4) (e := 3) (Ev.congr (f := fun _ => some ([], p + 4, 3)) (fun k => ?_) (Ev.now _)) (by decide)
  unfold qA9.f
  rw [hn, hmx, if_neg (by simp), if_pos hp2, if_pos hv, if_neg hq1]
 have hq2 : ¬ p + 4 + n ≤ f0.length := fun hh => hq ⟨hq1, by have := hp.1; omega⟩
 refine Rd.no (x := []) (p := p + 4) (e := 40) (Ev.congr (f := fun _ => some ([], p + 4, 40)) (fun k => ?_) (Ev.now _)) (by decide)
 unfold qA9.f
 rw [hn, hmx, if_neg (by simp), if_pos hp2, if_pos hv, if_pos hq1, if_neg hq2]
theorem qDp (f0 : List Int) (hb : qB6 f0) (most : Int) (hm : 0 ≤ most) (p : Int) (hp : Pl f0 p) : Rd f0 (fun _ => qA7.f f0 p 0 most) (textP most (f0.drop p.toNat)) := by
 have h := raw_good f0 hb most hm p hp
 refine Rd.congr (g := fun k => (qA9.f f0 p 0 most).bind fun b => some (strOfNums b.1, b.2.1, b.2.2)) (s := (rawP most (f0.drop p.toNat)).bind fun a => some (strOfNums a.1, a.2)) ?_ (fun k => rfl) (by unfold textP; cases rawP most (f0.drop p.toNat) <;> rfl)
 exact Rd.bind h (fun x p hp _ => Rd.ok (Ev.now _) hp) (fun x p e he => Rd.no (Ev.now _) he)
end Q
end
section
namespace Q
open Go.RowKit PA PC PB
attribute [local go_sem] qAU min2_int qBd min_two max_three min_three max_four min_four
theorem eqA83 (d : Nat) (w : World) (x0 y0 : Int) (x1 y1 : Int) :
  (Op.equalIn (d + 2) 83 (.agg #[.int .i64 x0, .int .u64 x1]) (.agg #[.int .i64 y0, .int .u64 y1])).run Tryz.prog w = .ok (x0 == y0 && (x1 == y1)) w := by
 refine eqA_of Tryz.underlying83 (by kernel_rfl) ?_
 refine eqf_cons (by rfl) (by go_simp; rfl) (by go_simp; rfl) (by go_simp) ?_
 exact eqf_last (by rfl) (by go_simp; rfl) (by go_simp; rfl) (by go_simp)
attribute [local go_sem high] eqA83
end Q
end
section
namespace Q
open Go.RowKit PA PC PB
theorem drop_cons' {α : Type} (l : List α) (d : α) (i : Int) (h0 : 0 ≤ i) (h : i < l.length) : l.drop i.toNat = l.getD i.toNat d :: l.drop (i + 1).toNat := by
 rw [show (i + 1).toNat = i.toNat + 1 from by omega, List.drop_eq_getElem_cons (by omega), List.getD_eq_getElem?_getD, List.getElem?_eq_getElem (by omega)]; rfl
end Q
end
section
namespace Q
open Go.RowKit PA PC PB
open DecLaw
theorem qEc (r : List Int) (hb : qB6 r) (a : Int × List Int) (h : intP r = some a) : 0 ≤ a.1 ∧ a.1 ≤ 2147483647 := by
 unfold intP at h
 split at h
 ·split at h
  ·rename_i h2
   obtain rfl := Option.some.inj h
   exact ⟨(qEi _ (qD4 hb 4)).1, h2⟩
  cases h
 cases h
end Q
end
section
namespace Q
open Go.RowKit PA PC PB
open Val Ins
def okT (t : Int) : Bool := decide (1 ≤ t ∧ t ≤ 3)
theorem okT_true {t : Int} (h1 : 1 ≤ t) (h2 : t ≤ 3) : okT t = true := by unfold okT; simp [h1, h2]
theorem qDh {t : Int} (h : t < 1 ∨ 3 < t) : okT t = false := by unfold okT; simp; omega
theorem qEZ (t : Int) (w : World) : Calls Tryz.prog 169 #[.int .i64 t] w fun e w' => e = .returned (.bool (okT t)) ∧ w' = w := by
 by_cases h1 : 1 ≤ t
 rotate_left
 ·rw [qDh (by omega)]
  go_enter Tryz.func169, Tryz.ntmps169
  go_wp2
  go_ret
  exact ⟨rfl, rfl⟩
 by_cases h2 : t ≤ 3
 ·rw [okT_true h1 h2]
  go_enter Tryz.func169, Tryz.ntmps169
  go_wp2
  go_ret
  exact ⟨rfl, rfl⟩
 rw [qDh (by omega)]
 go_enter Tryz.func169, Tryz.ntmps169
 go_wp2
 go_ret
 exact ⟨rfl, rfl⟩
def nmT (t : Int) : ByteArray := if t = 1 then ⟨#[105, 110, 116]⟩ else if t = 2 then ⟨#[102, 108, 111, 97, 116]⟩ else if t = 3 then ⟨#[98, 111, 111, 108]⟩ else ⟨#[]⟩
theorem name_no (t : Int) (h : okT t = false) (w : World) : Calls Tryz.prog 148 #[.int .i64 t] w fun e w' => e = .returned (.string ⟨#[]⟩) ∧ w' = w := by
 have H := Base.hid h
 clear h
 go_enter Tryz.func148, Tryz.ntmps148
 go_wp2_with (go_at_call 169; refine (qEZ t _).mono ?_; rintro e w1 ⟨rfl, rfl⟩; have H1 := H.out; rw [H1])
 go_ret
 exact ⟨rfl, rfl⟩
theorem name_yes (t : Int) (s : ByteArray) (h : okT t = true) (hi : ∀ w, (Instr.index 235 (.agg #[.string ⟨#[]⟩, .string ⟨#[105, 110, 116]⟩, .string ⟨#[102, 108, 111, 97, 116]⟩, .string ⟨#[98, 111, 111, 108]⟩]) (.int .i64 t)).run Tryz.prog w = .ok (.string s) w) (w : World) : Calls Tryz.prog 148 #[.int .i64 t] w fun e w' => e = .returned (.string s) ∧ w' = w := by
 have H := Base.hid h
 clear h
 go_enter Tryz.func148, Tryz.ntmps148
 go_wp2_with (go_at_call 169; refine (qEZ t _).mono ?_; rintro e w1 ⟨rfl, rfl⟩; have H1 := H.out; rw [H1])
 go_ret
 exact ⟨rfl, rfl⟩
theorem name_any (t : Int) (w : World) : Calls Tryz.prog 148 #[.int .i64 t] w fun e w' => e = .returned (.string (nmT t)) ∧ w' = w := by
 by_cases h1 : t = 1
 ·subst h1; exact name_yes 1 _ rfl (fun w => by kernel_rfl) w
 by_cases h2 : t = 2
 ·subst h2; exact name_yes 2 _ rfl (fun w => by kernel_rfl) w
 by_cases h3 : t = 3
 ·subst h3; exact name_yes 3 _ rfl (fun w => by kernel_rfl) w
 rw [show nmT t = ⟨#[]⟩ from by unfold nmT; rw [if_neg h1, if_neg h2, if_neg h3]]
 exact name_no t (qDh (by omega)) w
theorem qEO (t : Int) (w : World) : Calls Tryz.prog 97 #[.int .i64 t] w fun e w' => e = .returned (.bool (okT t)) ∧ w' = w := by
 have hn := name_any t
 have hq : (!(nmT t).toList.isEmpty) = okT t := by
  rw [Lib.toList_data]
  by_cases h1 : t = 1
  ·subst h1; rfl
  by_cases h2 : t = 2
  ·subst h2; rfl
  by_cases h3 : t = 3
  ·subst h3; rfl
  rw [qDh (by omega), show nmT t = ⟨#[]⟩ from by unfold nmT; rw [if_neg h1, if_neg h2, if_neg h3]]; rfl
 obtain ⟨s, hs⟩ : ∃ s, s = nmT t := ⟨_, rfl⟩
 rw [← hs] at hq hn
 have HN := Base.hid hn
 have HQ := Base.hid hq
 clear hn hq hs
 go_enter Tryz.func97, Tryz.ntmps97
 go_wp2_with (go_at_call 148; refine (HN.out _).mono ?_; rintro e w1 ⟨rfl, rfl⟩)
 go_ret
 exact ⟨by rw [← HQ.out]; rfl, rfl⟩
theorem unvalued_any (t : Int) (w : World) : Calls Tryz.prog 96 #[.int .i64 t] w fun e w' => e = .returned (.bool (!okT t)) ∧ w' = w := by
 go_enter Tryz.func96, Tryz.ntmps96
 go_wp2_with (go_at_call 97; refine (qEO t _).mono ?_; rintro e w1 ⟨rfl, rfl⟩)
 go_ret
 exact ⟨rfl, rfl⟩
theorem qDT {α : Type} (p : α → Bool) (l : List α) (k : Nat) (x : α) (hx : l[k]? = some x) (h : p x = true) : l.any p = true :=
 List.any_eq_true.2 ⟨x, List.mem_of_getElem? hx, h⟩
theorem qEy {α : Type} (p : α → Bool) (l : List α) (h : ∀ (j : Nat) (x : α), l[j]? = some x → p x = false) : l.any p = false := by
 rw [List.any_eq_false]
 intro x hx
 obtain ⟨j, hj⟩ := List.getElem?_of_mem hx
 rw [h j x hj]; decide
def IdxPost (b : Bool) (W0 : World) (e : Ending) (w' : World) : Prop := ∃ i : Int, e = .returned (.int .i64 i) ∧ (0 ≤ i ↔ b = true) ∧ Below W0.heap.size W0 w'
theorem qCV {α : Type} (l : List α) (d : α) (k : Nat) (h : k < l.length) : l[k]? = some (l.getD k d) := by rw [List.getD_eq_getElem?_getD, List.getElem?_eq_getElem h]; rfl
theorem idx_ints (A : Option Addr) (c : Nat) (l : List Int) (w : World) (hr : Kd.C (Kd.int .i64) w A l.length l) (hl : l.length ≤ 4611686018427387904) :
  Calls Tryz.prog 147 #[.slice A l.length c, .func (.func 96) #[] #[]] w (IdxPost (l.any fun t => !okT t) w) := by
 obtain ⟨n, hn⟩ : ∃ n, n = l.length := ⟨_, rfl⟩
 rw [← hn]
 have HR := am hr
 have HN := am hn
 rw [← hn] at hl
 clear hr hn
 go_enter Tryz.func147, Tryz.ntmps147
 go_wp2
 go_loopg [5, 8] n (fun gg _ s8 wr => ∃ kk : Nat, kk ≤ n ∧ n - kk ≤ gg ∧ s8 = .int .i64 kk ∧ qAj (∀ j x, j < kk → l[j]? = some x → (!okT x) = false) ∧ wr = w)
 case atStart => exact ⟨0, Nat.zero_le _, by omega, rfl, ⟨fun j x hj => absurd hj (Nat.not_lt_zero _)⟩, rfl⟩
 case round =>
  obtain ⟨kk, hkk, hg, rfl, HA, rfl⟩ := hrel
  by_cases hlt : kk < n
  rotate_left
  ·have hltz : ¬ (kk : Int) < (n : Int) := by omega
   have : kk = n := by omega
   subst this
   go_wp2
   go_ret
   refine ⟨-1, rfl, ?_, Below.refl _ _⟩
   rw [qEy _ l fun j x hj => HA.out j x (by rw [HN.out]; exact (List.getElem?_eq_some_iff.1 hj).1) hj]
   simp
  have hltz : (kk : Int) < (n : Int) := by omega
  have h0 : (0 : Int) ≤ (kk : Int) := by omega
  obtain ⟨ad, ea, hx⟩ := Kd.at_int HR.out (kk : Int) h0 (by have := HN.out; omega)
  subst ea
  rw [Int.toNat_natCast] at hx
  have hc := unvalued_any (rd l (kk : Int))
  obtain ⟨x, hx0⟩ : ∃ x, x = rd l (kk : Int) := ⟨_, rfl⟩
  rw [← hx0] at hx hc
  have HX : qAj (l[kk]? = some x) := ⟨by rw [hx0]; exact qCV l 0 kk (by have := HN.out; omega)⟩
  have HC := am hc
  clear hx0 hc
  cases hq : okT x with
  | false =>
   have HQ := am hq
   clear hq
   go_wp2_with (go_at_call 96; refine (HC.out _).mono ?_; rintro e w1 ⟨rfl, rfl⟩; rw [HQ.out])
   go_ret
   exact ⟨kk, rfl, ⟨fun _ => qDT _ l kk x HX.out (by rw [HQ.out]; rfl), fun _ => h0⟩, Below.refl _ _⟩
  | true =>
   have HQ := am hq
   clear hq
   go_wp2_with (go_at_call 96; refine (HC.out _).mono ?_; rintro e w1 ⟨rfl, rfl⟩; rw [HQ.out])
   go_roundg (n - (kk + 1))
   case measure => omega
   case rel =>
    refine ⟨kk + 1, by omega, by omega, by go_num, ⟨fun j y hj hy => ?_⟩, rfl⟩
    by_cases e : j = kk
    rotate_left
    ·exact HA.out j y (by omega) hy
    subst e
    rw [HX.out] at hy; injection hy with hy; subst hy; rw [HQ.out]; rfl
theorem has_ints (A : Option Addr) (c : Nat) (l : List Int) (w : World) (hr : Kd.C (Kd.int .i64) w A l.length l) (hl : l.length ≤ 4611686018427387904) :
  Calls Tryz.prog 95 #[.slice A l.length c, .func (.func 96) #[] #[]] w fun e w' => e = .returned (.bool (l.any fun t => !okT t)) ∧ Below w.heap.size w w' := by
 have HI := am (idx_ints A c l w hr hl)
 obtain ⟨b, hb⟩ : ∃ b, b = l.any fun t => !okT t := ⟨_, rfl⟩
 rw [← hb] at HI ⊢
 clear hb hr hl
 go_enter Tryz.func95, Tryz.ntmps95
 go_wp2_with (go_at_call 147; refine (HI.out).mono ?_; rintro e w1 ⟨i, rfl, hi, hw⟩; have HB := am hw; have HQ := am hi; clear hi hw)
 go_ret
 refine ⟨?_, HB.out⟩
 have := HQ.out
 congr 2
 cases b <;> simp_all
theorem all_ints (A : Option Addr) (c : Nat) (l : List Int) (w : World) (hr : Kd.C (Kd.int .i64) w A l.length l) (hl : l.length ≤ 4611686018427387904) :
  Calls Tryz.prog 94 #[.slice A l.length c] w fun e w' => e = .returned (.bool (l.all okT)) ∧ Below w.heap.size w w' := by
 have HI := am (has_ints A c l w hr hl)
 have hq : (!l.any fun t => !okT t) = l.all okT := by rw [List.not_any_eq_all_not]; simp
 obtain ⟨b, hb⟩ : ∃ b, b = l.any fun t => !okT t := ⟨_, rfl⟩
 rw [← hb] at HI hq
 rw [← hq]
 clear hb hr hl hq
 go_enter Tryz.func94, Tryz.ntmps94
 go_wp2_with (go_at_call 95; refine (HI.out).mono ?_; rintro e w1 ⟨rfl, hw⟩; have HB := am hw; clear hw)
 go_ret
 exact ⟨rfl, HB.out⟩
theorem unright_any (op n ty b : Int) (hb : U64 b) (w : World) : Calls Tryz.prog 99 #[.agg #[.int .i64 op, .int .i64 n, .int .i64 ty, .int .u64 b]] w fun e w' => e = .returned (.bool (!okI op n ty b)) ∧ Below w.heap.size w w' := by
 have HR := am (fun W => qDo op n ty b hb W)
 unfold insV at HR
 clear hb
 go_enter Tryz.func99, Tryz.ntmps99
 go_wp2_with (go_at_call 100; refine (HR.out _).mono ?_; rintro e w1 ⟨rfl, hw⟩; have HB := am hw; clear hw)
 go_ret
 exact ⟨rfl, ((Below.refl _ _).alloc (Nat.le_refl _) _).trans (HB.out.mono (by simp))⟩
def okS (x : S144) : Bool := okI x.f0 x.f1 x.f2.f0 x.f2.f1
def u64S (x : S144) : Bool := decide (0 ≤ x.f2.f1 ∧ x.f2.f1 < 18446744073709551616)
theorem u64S_U {x : S144} (h : u64S x = true) : U64 x.f2.f1 := by
 have h := of_decide_eq_true (p := 0 ≤ x.f2.f1 ∧ x.f2.f1 < 18446744073709551616) h
 exact ⟨h.1, by omega⟩
theorem idx_ins (A : Option Addr) (c : Nat) (l : List S144) (w : World) (hr : Kd.C k144 w A l.length l) (hl : l.length ≤ 4611686018427387904) (hu : ∀ x ∈ l, u64S x = true) :
  Calls Tryz.prog 149 #[.slice A l.length c, .func (.func 99) #[] #[]] w (IdxPost (l.any fun x => !okS x) w) := by
 obtain ⟨n, hn⟩ : ∃ n, n = l.length := ⟨_, rfl⟩
 rw [← hn]
 have HR := am hr
 have HN := am hn
 have HU := am hu
 rw [← hn] at hl
 clear hr hn hu
 go_enter Tryz.func149, Tryz.ntmps149
 go_wp2
 go_loopg [5, 8] n (fun gg _ s8 wr => ∃ kk : Nat, kk ≤ n ∧ n - kk ≤ gg ∧ s8 = .int .i64 kk ∧ qAj (∀ (j : Nat) x, j < kk → l[j]? = some x → (!okS x) = false) ∧ qAj (Below w.heap.size w wr))
 case atStart => exact ⟨0, Nat.zero_le _, by omega, rfl, ⟨fun j x hj => absurd hj (Nat.not_lt_zero _)⟩, ⟨Below.refl _ _⟩⟩
 case round =>
  obtain ⟨kk, hkk, hg, rfl, HA, HB⟩ := hrel
  by_cases hlt : kk < n
  rotate_left
  ·have hltz : ¬ (kk : Int) < (n : Int) := by omega
   have : kk = n := by omega
   subst this
   go_wp2
   go_ret
   refine ⟨-1, rfl, ?_, HB.out⟩
   rw [qEy _ l fun j x hj => HA.out j x (by rw [HN.out]; exact (List.getElem?_eq_some_iff.1 hj).1) hj]
   simp
  have hltz : (kk : Int) < (n : Int) := by omega
  have h0 : (0 : Int) ≤ (kk : Int) := by omega
  obtain ⟨ad, ea, hx0, hx1, hx2, hx3⟩ := at_T144 HR.out (kk : Int) h0 (by have := HN.out; omega)
  subst ea
  rw [Int.toNat_natCast] at hx0 hx1 hx2 hx3
  replace hx0 := cb HB hx0
  replace hx1 := cb HB hx1
  replace hx2 := cb HB hx2
  replace hx3 := cb HB hx3
  obtain ⟨x, hx⟩ : ∃ x, x = qAH l (kk : Int) := ⟨_, rfl⟩
  rw [← hx] at hx0 hx1 hx2 hx3
  have HX : qAj (l[kk]? = some x) := ⟨by rw [hx]; exact qCV l z144 kk (by have := HN.out; omega)⟩
  clear hx
  obtain ⟨op, nn, ⟨ty, bb⟩⟩ := x
  dsimp only at hx0 hx1 hx2 hx3
  have HC := am (fun W => unright_any op nn ty bb (u64S_U (HU.out _ (List.mem_of_getElem? HX.out))) W)
  cases hq : okI op nn ty bb with
  | false =>
   have HQ := am hq
   clear hq
   go_wp2_with (go_at_call 99; refine (HC.out _).mono ?_; rintro e w1 ⟨rfl, hw⟩; rw [HQ.out]; have HB1 := am (qAE HB.out HB.out.size hw); clear hw)
   go_ret
   exact ⟨kk, rfl, ⟨fun _ => qDT _ l kk _ HX.out (by unfold okS; dsimp only; rw [HQ.out]; rfl), fun _ => h0⟩, HB1.out⟩
  | true =>
   have HQ := am hq
   clear hq
   go_wp2_with (go_at_call 99; refine (HC.out _).mono ?_; rintro e w1 ⟨rfl, hw⟩; rw [HQ.out]; have HB1 := am (qAE HB.out HB.out.size hw); clear hw)
   go_roundg (n - (kk + 1))
   case measure => omega
   case rel =>
    refine ⟨kk + 1, by omega, by omega, by go_num, ⟨fun j y hj hy => ?_⟩, HB1⟩
    by_cases e : j = kk
    rotate_left
    ·exact HA.out j y (by omega) hy
    subst e
    rw [HX.out] at hy; injection hy with hy; subst hy; unfold okS; dsimp only; rw [HQ.out]; rfl
theorem has_ins (A : Option Addr) (c : Nat) (l : List S144) (w : World) (hr : Kd.C k144 w A l.length l) (hl : l.length ≤ 4611686018427387904) (hu : ∀ x ∈ l, u64S x = true) :
  Calls Tryz.prog 98 #[.slice A l.length c, .func (.func 99) #[] #[]] w fun e w' => e = .returned (.bool (l.any fun x => !okS x)) ∧ Below w.heap.size w w' := by
 have HI := am (idx_ins A c l w hr hl hu)
 obtain ⟨b, hb⟩ : ∃ b, b = l.any fun x => !okS x := ⟨_, rfl⟩
 rw [← hb] at HI ⊢
 clear hb hr hl hu
 go_enter Tryz.func98, Tryz.ntmps98
 go_wp2_with (go_at_call 149; refine (HI.out).mono ?_; rintro e w1 ⟨i, rfl, hi, hw⟩; have HB := am hw; have HQ := am hi; clear hi hw)
 go_ret
 refine ⟨?_, HB.out⟩
 have := HQ.out
 congr 2
 cases b <;> simp_all
def okFn (l0 : List Int) (a1 : Int) (l2 : List Int) (l3 : List S144) : Bool :=
 decide (l0.length ≤ 8) && l0.all okT && (a1 == 0 || okT a1) && decide (l2.length ≤ 64) && l2.all okT && decide (l3.length ≤ 4096) && l3.all okS
def qB3.f (l0_0 : List Int) (a0_1 : Int) (l0_2 : List Int) (l0_3 : List (S144)) : Option (Bool) :=
 if l0_0.length ≤ 4611686018427387904 ∧ l0_2.length ≤ 4611686018427387904 ∧ l0_3.length ≤ 4611686018427387904 ∧ l0_3.all u64S = true then some (okFn l0_0 a0_1 l0_2 l0_3) else none
theorem qB3.calls (A0_0 : Option Addr) (c0_0 : Nat) (l0_0 : List Int) (a0_1 : Int) (A0_2 : Option Addr) (c0_2 : Nat) (l0_2 : List Int) (A0_3 : Option Addr) (c0_3 : Nat) (l0_3 : List (S144)) (r : Bool) (w : World) (hr0_0 : Kd.C (Kd.int .i64) w A0_0 l0_0.length l0_0) (hc0_0 : l0_0.length ≤ c0_0) (hr0_2 : Kd.C (Kd.int .i64) w A0_2 l0_2.length l0_2) (hc0_2 : l0_2.length ≤ c0_2) (hr0_3 : Kd.C k144 w A0_3 l0_3.length l0_3) (hc0_3 : l0_3.length ≤ c0_3) (h : qB3.f l0_0 a0_1 l0_2 l0_3 = some r) :
  Calls Tryz.prog 33 #[.agg #[.slice A0_0 l0_0.length c0_0, .int .i64 a0_1, .slice A0_2 l0_2.length c0_2, .slice A0_3 l0_3.length c0_3]] w fun e w' => e = .returned (.bool r) ∧ Below w.heap.size w w' := by
 unfold qB3.f at h
 split at h
 case isFalse => cases h
 rename_i hs
 obtain ⟨hl0, hl2, hl3, hu⟩ := hs
 injection h with h
 have hu' : ∀ x ∈ l0_3, u64S x = true := fun x hx => List.all_eq_true.1 hu x hx
 have H0 : qAj (∀ W, Below w.heap.size w W → Calls Tryz.prog 94 #[.slice A0_0 l0_0.length c0_0] W fun e w' => e = .returned (.bool (l0_0.all okT)) ∧ Below W.heap.size W w') := ⟨fun W hW => all_ints A0_0 c0_0 l0_0 W (Kd.C_below hr0_0 hW) hl0⟩
 have H2 : qAj (∀ W, Below w.heap.size w W → Calls Tryz.prog 94 #[.slice A0_2 l0_2.length c0_2] W fun e w' => e = .returned (.bool (l0_2.all okT)) ∧ Below W.heap.size W w') := ⟨fun W hW => all_ints A0_2 c0_2 l0_2 W (Kd.C_below hr0_2 hW) hl2⟩
 have H3 : qAj (∀ W, Below w.heap.size w W → Calls Tryz.prog 98 #[.slice A0_3 l0_3.length c0_3, .func (.func 99) #[] #[]] W fun e w' => e = .returned (.bool (l0_3.any fun x => !okS x)) ∧ Below W.heap.size W w') := ⟨fun W hW => has_ins A0_3 c0_3 l0_3 W (Kd.C_below hr0_3 hW) hl3 hu'⟩
 have hq3 : (!l0_3.any fun x => !okS x) = l0_3.all okS := by rw [List.not_any_eq_all_not]; simp
 unfold okFn at h
 obtain ⟨n0, hn0⟩ : ∃ n, n = l0_0.length := ⟨_, rfl⟩
 obtain ⟨n2, hn2⟩ : ∃ n, n = l0_2.length := ⟨_, rfl⟩
 obtain ⟨n3, hn3⟩ : ∃ n, n = l0_3.length := ⟨_, rfl⟩
 obtain ⟨b0, hb0⟩ : ∃ b, b = l0_0.all okT := ⟨_, rfl⟩
 obtain ⟨b2, hb2⟩ : ∃ b, b = l0_2.all okT := ⟨_, rfl⟩
 obtain ⟨b3, hb3⟩ : ∃ b, b = l0_3.any fun x => !okS x := ⟨_, rfl⟩
 rw [← hn0, ← hn2, ← hn3]
 rw [← hn0, ← hb0] at H0
 rw [← hn2, ← hb2] at H2
 rw [← hn3, ← hb3] at H3
 rw [← hb3] at hq3
 rw [← hn0, ← hn2, ← hn3, ← hb0, ← hb2, ← hq3] at h
 have hv0 : 0 ≤ n0 := Nat.zero_le _
 clear hn0 hn2 hn3 hb0 hb2 hb3 hr0_0 hr0_2 hr0_3 hc0_0 hc0_2 hc0_3 hl0 hl2 hl3 hu hu' hq3 hv0
 have HB0 := am ((Below.refl w.heap.size w).alloc (Nat.le_refl _) (.cells #[.slice A0_0 n0 c0_0, .int .i64 a0_1, .slice A0_2 n2 c0_2, .slice A0_3 n3 c0_3] 90))
 have HV := am (fun W => qEO a0_1 W)
 by_cases c1 : n0 ≤ 8
 case neg =>
  obtain rfl : r = false := by rw [← h]; simp [c1]
  clear h H0 H2 H3 HV HB0
  go_enter Tryz.func33, Tryz.ntmps33
  go_wp2
  go_ret
  exact ⟨rfl, (Below.refl _ _).alloc (Nat.le_refl _) _⟩
 obtain ⟨WA, hWA⟩ : ∃ WA, WA = w.alloc (.cells #[.slice A0_0 n0 c0_0, .int .i64 a0_1, .slice A0_2 n2 c0_2, .slice A0_3 n3 c0_3] 90) := ⟨_, rfl⟩
 have hBA : Below w.heap.size w WA := hWA ▸ HB0.out
 have k0 : WA.cell? ⟨w.heap.size, 0, none⟩ = some (.slice A0_0 n0 c0_0) := by rw [hWA, World.cell?_alloc_at _ _ _ _ rfl]; rfl
 have k1 : WA.cell? ⟨w.heap.size, 1, none⟩ = some (.int .i64 a0_1) := by rw [hWA, World.cell?_alloc_at _ _ _ _ rfl]; rfl
 have k2 : WA.cell? ⟨w.heap.size, 2, none⟩ = some (.slice A0_2 n2 c0_2) := by rw [hWA, World.cell?_alloc_at _ _ _ _ rfl]; rfl
 have k3 : WA.cell? ⟨w.heap.size, 3, none⟩ = some (.slice A0_3 n3 c0_3) := by rw [hWA, World.cell?_alloc_at _ _ _ _ rfl]; rfl
 have hsA : w.heap.size < WA.heap.size := by rw [hWA]; simp
 have HWA := am hWA
 clear hWA HB0
 go_enter Tryz.func33, Tryz.ntmps33
 go_wp2_with fail
 rw [← HWA.out]
 go_wp2_with fail
 refine (H0.out _ hBA).mono ?_
 rintro e w1 ⟨rfl, hb⟩
 have m0 : w1.cell? ⟨w.heap.size, 0, none⟩ = some (.slice A0_0 n0 c0_0) := (hb.cell (p := ⟨w.heap.size, 0, none⟩) hsA).trans k0
 have m1 : w1.cell? ⟨w.heap.size, 1, none⟩ = some (.int .i64 a0_1) := (hb.cell (p := ⟨w.heap.size, 1, none⟩) hsA).trans k1
 have m2 : w1.cell? ⟨w.heap.size, 2, none⟩ = some (.slice A0_2 n2 c0_2) := (hb.cell (p := ⟨w.heap.size, 2, none⟩) hsA).trans k2
 have m3 : w1.cell? ⟨w.heap.size, 3, none⟩ = some (.slice A0_3 n3 c0_3) := (hb.cell (p := ⟨w.heap.size, 3, none⟩) hsA).trans k3
 have hs1 : w.heap.size < w1.heap.size := Nat.lt_of_lt_of_le hsA hb.size
 have HB1 := am (qAE hBA hBA.size hb)
 clear hb k0 k1 k2 k3
 cases b0 with
 | false =>
  obtain rfl : r = false := by rw [← h]; simp
  clear h
  go_wp2
  go_ret
  exact ⟨rfl, HB1.out⟩
 | true =>
  by_cases c3 : a0_1 = 0
  ·have c3' : (a0_1 == 0) = true := beq_iff_eq.mpr c3
   simp only [c3', Bool.true_or, Bool.and_true] at h
   clear c3
   by_cases c5 : n2 ≤ 64
   case neg =>
    obtain rfl : r = false := by rw [← h]; simp [c5]
    clear h
    go_wp2
    go_ret
    exact ⟨rfl, HB1.out⟩
   go_wp2_with fail
   refine (H2.out _ HB1.out).mono ?_
   rintro e w2 ⟨rfl, hb⟩
   have p3 : w2.cell? ⟨w.heap.size, 3, none⟩ = some (.slice A0_3 n3 c0_3) := (hb.cell (p := ⟨w.heap.size, 3, none⟩) hs1).trans m3
   have HB2 := am (qAE HB1.out HB1.out.size hb)
   clear hb m0 m1 m2 m3
   cases b2 with
   | false =>
    obtain rfl : r = false := by rw [← h]; simp
    clear h
    go_wp2
    go_ret
    exact ⟨rfl, HB2.out⟩
   | true =>
    by_cases c6 : n3 ≤ 4096
    case neg =>
     obtain rfl : r = false := by rw [← h]; simp [c6]
     clear h
     go_wp2
     go_ret
     exact ⟨rfl, HB2.out⟩
    obtain rfl : r = !b3 := by rw [← h]; simp [c1, c5, c6]
    clear h
    go_wp2_with fail
    refine (H3.out _ HB2.out).mono ?_
    rintro e w3 ⟨rfl, hb⟩
    have HB3 := am (qAE HB2.out HB2.out.size hb)
    clear hb
    go_wp2
    go_ret
    exact ⟨rfl, HB3.out⟩
  have c3' : (a0_1 == 0) = false := beq_eq_false_iff_ne.mpr c3
  obtain ⟨b1, hb1⟩ : ∃ b, b = okT a0_1 := ⟨_, rfl⟩
  rw [← hb1] at HV h
  clear hb1
  go_wp2_with fail
  refine (HV.out _).mono ?_
  rintro e w1x ⟨rfl, rfl⟩
  cases b1 with
  | false =>
   obtain rfl : r = false := by rw [← h]; simp [c3']
   clear h
   go_wp2
   go_ret
   exact ⟨rfl, HB1.out⟩
  | true =>
   simp only [c3', Bool.false_or, Bool.and_true] at h
   by_cases c5 : n2 ≤ 64
   case neg =>
    obtain rfl : r = false := by rw [← h]; simp [c5]
    clear h
    go_wp2
    go_ret
    exact ⟨rfl, HB1.out⟩
   go_wp2_with fail
   refine (H2.out _ HB1.out).mono ?_
   rintro e w2 ⟨rfl, hb⟩
   have p3 : w2.cell? ⟨w.heap.size, 3, none⟩ = some (.slice A0_3 n3 c0_3) := (hb.cell (p := ⟨w.heap.size, 3, none⟩) hs1).trans m3
   have HB2 := am (qAE HB1.out HB1.out.size hb)
   clear hb m0 m1 m2 m3
   cases b2 with
   | false =>
    obtain rfl : r = false := by rw [← h]; simp
    clear h
    go_wp2
    go_ret
    exact ⟨rfl, HB2.out⟩
   | true =>
    by_cases c6 : n3 ≤ 4096
    case neg =>
     obtain rfl : r = false := by rw [← h]; simp [c6]
     clear h
     go_wp2
     go_ret
     exact ⟨rfl, HB2.out⟩
    obtain rfl : r = !b3 := by rw [← h]; simp [c1, c5, c6]
    clear h
    go_wp2_with fail
    refine (H3.out _ HB2.out).mono ?_
    rintro e w3 ⟨rfl, hb⟩
    have HB3 := am (qAE HB2.out HB2.out.size hb)
    clear hb
    go_wp2
    go_ret
    exact ⟨rfl, HB3.out⟩
def qE9 (r p : S104) : Bool := r.f0 == p.f0 && (r.f1 == p.f1 && r.f2 == p.f2)
theorem bare_any (a0 a1 a2 b0 b1 b2 : Int) (a3 a4 b3 b4 : ByteArray) (w : World) : Calls Tryz.prog 102 #[.agg #[.int .i64 a0, .int .i64 a1, .int .i64 a2, .string a3, .string a4], .agg #[.int .i64 b0, .int .i64 b1, .int .i64 b2, .string b3, .string b4]] w fun e w' => e = .returned (.bool (a0 == b0 && (a1 == b1 && a2 == b2))) ∧ Below w.heap.size w w' := by
 cases h0 : a0 == b0 with
 | false =>
  go_enter Tryz.func102, Tryz.ntmps102
  go_wp2
  go_ret
  exact ⟨rfl, ((Below.refl _ _).alloc (Nat.le_refl _) _).alloc (by simp) _⟩
 | true =>
  cases h1 : a1 == b1 with
  | false =>
   go_enter Tryz.func102, Tryz.ntmps102
   go_wp2
   go_ret
   exact ⟨rfl, ((Below.refl _ _).alloc (Nat.le_refl _) _).alloc (by simp) _⟩
  | true =>
   obtain ⟨b, hb⟩ : ∃ b, b = (a2 == b2) := ⟨_, rfl⟩
   rw [← hb]
   have hb' := hb.symm
   clear hb
   go_enter Tryz.func102, Tryz.ntmps102
   go_wp2
   go_ret
   exact ⟨rfl, ((Below.refl _ _).alloc (Nat.le_refl _) _).alloc (by simp) _⟩
def qB8 : List S104 → List S104 → Bool
 | [], [] => true
 | x :: xs, y :: ys => qE9 x y && qB8 xs ys
 | _, _ => false
theorem qDY : ∀ (a b : List S104), qB8 a b = true → a.length = b.length
 | [], [], _ => rfl
 | [], _ :: _, h => by cases h
 | _ :: _, [], h => by cases h
 | x :: xs, y :: ys, h => by simp only [qB8, Bool.and_eq_true] at h; simp [qDY xs ys h.2]
theorem qEE : ∀ (a b : List S104), a.length = b.length → (∀ (j : Nat) x y, a[j]? = some x → b[j]? = some y → qE9 x y = true) → qB8 a b = true
 | [], [], _, _ => rfl
 | [], _ :: _, h, _ => by simp at h
 | _ :: _, [], h, _ => by simp at h
 | x :: xs, y :: ys, hl, h => by
  simp only [qB8, Bool.and_eq_true]
  exact ⟨h 0 x y rfl rfl, qEE xs ys (by simpa using hl) fun j u v hu hv => h (j + 1) u v (by simpa using hu) (by simpa using hv)⟩
theorem qEl : ∀ (a b : List S104) (j : Nat) x y, a[j]? = some x → b[j]? = some y → qE9 x y = false → qB8 a b = false
 | [], _, j, x, y, h, _, _ => by simp at h
 | _ :: _, [], j, x, y, _, h, _ => by simp at h
 | x :: xs, y :: ys, 0, u, v, hu, hv, h => by
  simp only [List.getElem?_cons_zero, Option.some.injEq] at hu hv
  subst hu; subst hv
  simp [qB8, h]
 | x :: xs, y :: ys, j + 1, u, v, hu, hv, h => by
  simp only [List.getElem?_cons_succ] at hu hv
  simp [qB8, qEl xs ys j u v hu hv h]
theorem eqf_any (A1 A2 : Option Addr) (c1 c2 : Nat) (l1 l2 : List S104) (w : World) (hr1 : Kd.C k104 w A1 l1.length l1) (hr2 : Kd.C k104 w A2 l2.length l2) (hl : l1.length ≤ 4611686018427387904) :
  Calls Tryz.prog 103 #[.slice A1 l1.length c1, .slice A2 l2.length c2, .func (.func 102) #[] #[]] w fun e w' => e = .returned (.bool (qB8 l1 l2)) ∧ Below w.heap.size w w' := by
 obtain ⟨n1, hn1⟩ : ∃ n, n = l1.length := ⟨_, rfl⟩
 obtain ⟨n2, hn2⟩ : ∃ n, n = l2.length := ⟨_, rfl⟩
 rw [← hn1] at hr1 hl ⊢
 rw [← hn2] at hr2 ⊢
 have HR1 := am hr1
 have HR2 := am hr2
 have HN1 := am hn1
 have HN2 := am hn2
 clear hr1 hr2 hn1 hn2
 by_cases hne : n1 = n2
 case neg =>
  have hq : ((n1 : Int) != (n2 : Int)) = true := bne_iff_ne.mpr (by omega)
  have HF : qAj (qB8 l1 l2 = false) := ⟨by
    cases h : qB8 l1 l2 with
    | false => rfl
    | true => exact absurd (by rw [HN1.out, HN2.out]; exact qDY _ _ h) hne⟩
  go_enter Tryz.func103, Tryz.ntmps103
  go_wp2
  go_ret
  exact ⟨by rw [HF.out]; rfl, Below.refl _ _⟩
 subst hne
 have hq : ((n1 : Int) != (n1 : Int)) = false := bne_eq_false_iff_eq.mpr rfl
 go_enter Tryz.func103, Tryz.ntmps103
 go_wp2
 go_loopg [7, 8, 9, 17] n1 (fun gg _ _ _ s17 wr => ∃ kk : Nat, kk ≤ n1 ∧ n1 - kk ≤ gg ∧ s17 = .int .i64 kk ∧ qAj (∀ (j : Nat) x y, j < kk → l1[j]? = some x → l2[j]? = some y → qE9 x y = true) ∧ qAj (Below w.heap.size w wr))
 case atStart => exact ⟨0, Nat.zero_le _, by omega, rfl, ⟨fun j x y hj => absurd hj (Nat.not_lt_zero _)⟩, ⟨Below.refl _ _⟩⟩
 case round =>
  obtain ⟨kk, hkk, hg, rfl, HA, HB⟩ := hrel
  by_cases hlt : kk < n1
  rotate_left
  ·have hltz : ¬ (kk : Int) < (n1 : Int) := by omega
   have : kk = n1 := by omega
   subst this
   go_wp2
   go_ret
   refine ⟨?_, HB.out⟩
   rw [qEE l1 l2 (by rw [← HN1.out, ← HN2.out]) fun j x y hx hy => HA.out j x y (by rw [HN1.out]; exact (List.getElem?_eq_some_iff.1 hx).1) hx hy]
   rfl
  have hltz : (kk : Int) < (n1 : Int) := by omega
  have h0 : (0 : Int) ≤ (kk : Int) := by omega
  obtain ⟨ad, ea, hx0, hx1, hx2, hx3, hx4⟩ := qDU HR1.out (kk : Int) h0 hltz
  subst ea
  obtain ⟨bd, eb, hy0, hy1, hy2, hy3, hy4⟩ := qDU HR2.out (kk : Int) h0 hltz
  subst eb
  rw [Int.toNat_natCast] at hx0 hx1 hx2 hx3 hx4 hy0 hy1 hy2 hy3 hy4
  replace hx0 := cb HB hx0
  replace hx1 := cb HB hx1
  replace hx2 := cb HB hx2
  replace hx3 := cb HB hx3
  replace hx4 := cb HB hx4
  replace hy0 := cb HB hy0
  replace hy1 := cb HB hy1
  replace hy2 := cb HB hy2
  replace hy3 := cb HB hy3
  replace hy4 := cb HB hy4
  obtain ⟨x, hx⟩ : ∃ x, x = qCv l1 (kk : Int) := ⟨_, rfl⟩
  obtain ⟨y, hy⟩ : ∃ x, x = qCv l2 (kk : Int) := ⟨_, rfl⟩
  rw [← hx] at hx0 hx1 hx2 hx3 hx4
  rw [← hy] at hy0 hy1 hy2 hy3 hy4
  have HX : qAj (l1[kk]? = some x) := ⟨by rw [hx]; exact qCV l1 z104 kk (by have := HN1.out; omega)⟩
  have HY : qAj (l2[kk]? = some y) := ⟨by rw [hy]; exact qCV l2 z104 kk (by have := HN2.out; omega)⟩
  clear hx hy
  obtain ⟨x0, x1, x2, x3, x4⟩ := x
  obtain ⟨y0, y1, y2, y3, y4⟩ := y
  dsimp only at hx0 hx1 hx2 hx3 hx4 hy0 hy1 hy2 hy3 hy4
  have HC := am (fun W => bare_any x0 x1 x2 y0 y1 y2 x3 x4 y3 y4 W)
  have hbl : (bd.add (kk * 5)).block < wr.heap.size := World.block_lt_of_cell? wr _ hy0
  obtain ⟨b, hb⟩ : ∃ b, b = (x0 == y0 && (x1 == y1 && x2 == y2)) := ⟨_, rfl⟩
  rw [← hb] at HC
  have HQ := am hb
  clear hb
  cases b with
  | false =>
   go_wp2_with (go_at_call 102; refine (HC.out _).mono ?_; rintro e w1 ⟨rfl, hw⟩; have HB2 := am (qAE HB.out HB.out.size ((((Below.refl wr.heap.size wr).alloc (Nat.le_refl _) _).alloc (by simp) _).trans (hw.mono (by simp; omega)))); clear hw)
   go_ret
   refine ⟨?_, HB2.out⟩
   rw [qEl l1 l2 kk _ _ HX.out HY.out HQ.out.symm]; rfl
  | true =>
   go_wp2_with (go_at_call 102; refine (HC.out _).mono ?_; rintro e w1 ⟨rfl, hw⟩; have HB2 := am (qAE HB.out HB.out.size ((((Below.refl wr.heap.size wr).alloc (Nat.le_refl _) _).alloc (by simp) _).trans (hw.mono (by simp; omega)))); clear hw)
   go_roundg (n1 - (kk + 1))
   case measure => omega
   case rel =>
    refine ⟨kk + 1, by omega, by omega, by go_num, ⟨fun j u v hj hu hv => ?_⟩, HB2⟩
    by_cases e : j = kk
    rotate_left
    ·exact HA.out j u v (by omega) hu hv
    subst e
    rw [HX.out] at hu; rw [HY.out] at hv
    injection hu with hu; injection hv with hv; subst hu; subst hv
    exact HQ.out.symm
theorem qC2 {B : Nat} {a w : World} (h : Below B a w) (q : Nat) : Below B a (w.drewN q) := ⟨h.os, h.tape, h.output, h.size, h.block⟩
def qCi (fns : List S92) (p : S104) : Int := (qAH (qAx fns p.f0).f1.f2 p.f1).f1
def placeIn (fns : List S92) (p : S104) : Prop := 0 ≤ p.f0 ∧ p.f0 < fns.length ∧ 0 ≤ p.f1 ∧ p.f1 < (qAx fns p.f0).f1.f2.length
theorem placeN_any (g : Nat) (a0 a1 a2 : Int) (a3 a4 : ByteArray) (fns : List S92) (AF : Option Addr) (cF : Nat) (w : World) (hg : w.cell? ⟨g, 2, none⟩ = some (.slice AF fns.length cF)) (hr : Kd.C k92 w AF fns.length fns)
  (hin : placeIn fns ⟨a0, a1, a2, a3, a4⟩) :
  Calls Tryz.prog 105 #[.agg #[.int .i64 a0, .int .i64 a1, .int .i64 a2, .string a3, .string a4], .pointer (some ⟨g, 0, none⟩)] w fun e w' => e = .returned (.bool (qCi fns ⟨a0, a1, a2, a3, a4⟩ != 0)) ∧ Below w.heap.size w w' := by
 obtain ⟨h0, h0', h1, h1'⟩ := hin
 dsimp only at h0 h0' h1 h1'
 obtain ⟨ad, A1, c1, A3, c3, A4, c4, ea, hx0, hx1, hx2, hx3, hx4, hl1, hC1, hl3, hC3, hl4, hC4⟩ := at_T92 hr a0 h0 h0'
 subst ea
 obtain ⟨bd, eb, hy0, hy1, hy2, hy3⟩ := at_T144 hC4 a1 h1 h1'
 subst eb
 have hbA : (ad.add (a0.toNat * 5)).block < w.heap.size := World.block_lt_of_cell? w _ hx0
 have hbB : (bd.add (a1.toNat * 4)).block < w.heap.size := World.block_lt_of_cell? w _ hy0
 have hbg : g < w.heap.size := World.block_lt_of_cell? w _ hg
 show Calls _ _ _ _ fun e w' => e = .returned (.bool ((qAH (qAx fns a0).f1.f2 a1).f1 != 0)) ∧ Below w.heap.size w w'
 obtain ⟨q, hq⟩ : ∃ q, q = (qAH (qAx fns a0).f1.f2 a1).f1 := ⟨_, rfl⟩
 rw [← hq] at hy1 ⊢
 obtain ⟨nf, hnf⟩ : ∃ q, q = fns.length := ⟨_, rfl⟩
 rw [← hnf] at h0' hg
 obtain ⟨nc, hnc⟩ : ∃ q, q = (qAx fns a0).f1.f2.length := ⟨_, rfl⟩
 rw [← hnc] at h1' hx4
 clear hq hnf hnc hC1 hC3 hC4 hl1 hl3 hl4 hr hx0 hx1 hx2 hx3 hy0 hy2 hy3
 go_enter Tryz.func105, Tryz.ntmps105
 go_wp2
 go_quiet (fail)
 go_wp2
 go_ret
 exact ⟨rfl, qC2 ((Below.refl _ _).alloc (Nat.le_refl _) _) _⟩
theorem idx_places (g : Nat) (fns : List S92) (AF : Option Addr) (cF : Nat) (A : Option Addr) (c : Nat) (l : List S104) (w : World) (hg : w.cell? ⟨g, 2, none⟩ = some (.slice AF fns.length cF)) (hrF : Kd.C k92 w AF fns.length fns) (hr : Kd.C k104 w A l.length l) (hl : l.length ≤ 4611686018427387904) (hu : ∀ x ∈ l, placeIn fns x) :
  Calls Tryz.prog 150 #[.slice A l.length c, .func (.func 105) #[] #[.pointer (some ⟨g, 0, none⟩)]] w (IdxPost (l.any fun x => qCi fns x != 0) w) := by
 obtain ⟨n, hn⟩ : ∃ n, n = l.length := ⟨_, rfl⟩
 rw [← hn]
 have HR := am hr
 have HN := am hn
 have HU := am hu
 have hgl : g < w.heap.size := World.block_lt_of_cell? w _ hg
 have HF : qAj (∀ W x, Below w.heap.size w W → x ∈ l → Calls Tryz.prog 105 #[.agg #[.int .i64 x.f0, .int .i64 x.f1, .int .i64 x.f2, .string x.f3, .string x.f4], .pointer (some ⟨g, 0, none⟩)] W fun e w' => e = .returned (.bool (qCi fns x != 0)) ∧ Below W.heap.size W w') := ⟨fun W x hW hx => placeN_any g x.f0 x.f1 x.f2 x.f3 x.f4 fns AF cF W ((hW.cell (p := ⟨g, 2, none⟩) hgl).trans hg) (Kd.C_below hrF hW) (hu x hx)⟩
 rw [← hn] at hl
 clear hr hn hu hg hrF
 go_enter Tryz.func150, Tryz.ntmps150
 go_wp2
 go_loopg [5, 8] n (fun gg _ s8 wr => ∃ kk : Nat, kk ≤ n ∧ n - kk ≤ gg ∧ s8 = .int .i64 kk ∧ qAj (∀ (j : Nat) x, j < kk → l[j]? = some x → (qCi fns x != 0) = false) ∧ qAj (Below w.heap.size w wr))
 case atStart => exact ⟨0, Nat.zero_le _, by omega, rfl, ⟨fun j x hj => absurd hj (Nat.not_lt_zero _)⟩, ⟨Below.refl _ _⟩⟩
 case round =>
  obtain ⟨kk, hkk, hg, rfl, HA, HB⟩ := hrel
  by_cases hlt : kk < n
  rotate_left
  ·have hltz : ¬ (kk : Int) < (n : Int) := by omega
   have : kk = n := by omega
   subst this
   go_wp2
   go_ret
   refine ⟨-1, rfl, ?_, HB.out⟩
   rw [qEy _ l fun j x hj => HA.out j x (by rw [HN.out]; exact (List.getElem?_eq_some_iff.1 hj).1) hj]
   simp
  have hltz : (kk : Int) < (n : Int) := by omega
  have h0 : (0 : Int) ≤ (kk : Int) := by omega
  obtain ⟨ad, ea, hx0, hx1, hx2, hx3, hx4⟩ := qDU HR.out (kk : Int) h0 (by have := HN.out; omega)
  subst ea
  rw [Int.toNat_natCast] at hx0 hx1 hx2 hx3 hx4
  replace hx0 := cb HB hx0
  replace hx1 := cb HB hx1
  replace hx2 := cb HB hx2
  replace hx3 := cb HB hx3
  replace hx4 := cb HB hx4
  obtain ⟨x, hx⟩ : ∃ x, x = qCv l (kk : Int) := ⟨_, rfl⟩
  rw [← hx] at hx0 hx1 hx2 hx3 hx4
  have HX : qAj (l[kk]? = some x) := ⟨by rw [hx]; exact qCV l z104 kk (by have := HN.out; omega)⟩
  clear hx
  have HC := am (HF.out wr x HB.out (List.mem_of_getElem? HX.out))
  obtain ⟨b, hb⟩ : ∃ b, b = (qCi fns x != 0) := ⟨_, rfl⟩
  rw [← hb] at HC
  have HQ := am hb
  clear hb
  cases b with
  | true =>
   go_wp2_with (go_at_call 105; refine (HC.out).mono ?_; rintro e w1 ⟨rfl, hw⟩; have HB1 := am (qAE HB.out HB.out.size hw); clear hw)
   go_ret
   exact ⟨kk, rfl, ⟨fun _ => qDT _ l kk _ HX.out HQ.out.symm, fun _ => h0⟩, HB1.out⟩
  | false =>
   go_wp2_with (go_at_call 105; refine (HC.out).mono ?_; rintro e w1 ⟨rfl, hw⟩; have HB1 := am (qAE HB.out HB.out.size hw); clear hw)
   go_roundg (n - (kk + 1))
   case measure => omega
   case rel =>
    refine ⟨kk + 1, by omega, by omega, by go_num, ⟨fun j y hj hy => ?_⟩, HB1⟩
    by_cases e : j = kk
    rotate_left
    ·exact HA.out j y (by omega) hy
    subst e
    rw [HX.out] at hy; injection hy with hy; subst hy; exact HQ.out.symm
theorem has_places (g : Nat) (fns : List S92) (AF : Option Addr) (cF : Nat) (A : Option Addr) (c : Nat) (l : List S104) (w : World) (hg : w.cell? ⟨g, 2, none⟩ = some (.slice AF fns.length cF)) (hrF : Kd.C k92 w AF fns.length fns) (hr : Kd.C k104 w A l.length l) (hl : l.length ≤ 4611686018427387904) (hu : ∀ x ∈ l, placeIn fns x) :
  Calls Tryz.prog 104 #[.slice A l.length c, .func (.func 105) #[] #[.pointer (some ⟨g, 0, none⟩)]] w fun e w' => e = .returned (.bool (l.any fun x => qCi fns x != 0)) ∧ Below w.heap.size w w' := by
 have HI := am (idx_places g fns AF cF A c l w hg hrF hr hl hu)
 obtain ⟨b, hb⟩ : ∃ b, b = l.any fun x => qCi fns x != 0 := ⟨_, rfl⟩
 rw [← hb] at HI ⊢
 clear hb hr hl hu hg hrF
 go_enter Tryz.func104, Tryz.ntmps104
 go_wp2_with (go_at_call 150; refine (HI.out).mono ?_; rintro e w1 ⟨i, rfl, hi, hw⟩; have HB := am hw; have HQ := am hi; clear hi hw)
 go_ret
 refine ⟨?_, HB.out⟩
 have := HQ.out
 congr 2
 cases b <;> simp_all
end Q
end
section
namespace Names
open Go.RowKit Base
def qAJ (c : Int) : Bool := decide ((97 ≤ c ∧ c ≤ 122) ∨ (65 ≤ c ∧ c ≤ 90) ∨ c = 95)
def qBP (c : Int) : Bool := decide (48 ≤ c ∧ c ≤ 57)
def words : List (List UInt8) := [[98, 111, 111, 108], [99, 97, 116, 99, 104], [99, 111, 110, 115, 116], [101, 108, 115, 101], [101, 120, 112, 111, 114, 116], [102, 97, 105, 108], [102, 97, 108, 115, 101], [102, 108, 111, 97, 116], [102, 110], [105, 102], [105, 109, 112, 111, 114, 116], [105, 110, 102], [105, 110, 112, 117, 116], [105, 110, 116], [108, 101, 116], [109, 111, 100, 117, 108, 101], [110, 97, 110], [114, 101, 116, 117, 114, 110], [115, 104, 111, 119], [116, 114, 117, 101], [116, 114, 121], [118, 97, 114], [119, 104, 105, 108, 101]]
def qBW (s : ByteArray) : Bool := words.any fun x => s.toList == x
def qBZ (s : ByteArray) (k : Nat) : Int := if h : k < s.size then (s[k].toNat : Int) else 0
theorem qDA (s : ByteArray) (k : Nat) (h : k < s.size) : qBZ s k = (s[k].toNat : Int) := by unfold qBZ; rw [dif_pos h]
def good (s : ByteArray) (k : Nat) : Bool := qAJ (qBZ s k) || qBP (qBZ s k)
def nameE (s : ByteArray) : Int :=
 if s.size = 0 then 12
 else if qAJ (qBZ s 0) = false then 12
 else if ¬ ∀ k, k < s.size → good s k = true then 12
 else if 32 < s.size then 3
 else if qBW s = true then 12
 else 0
theorem qEL {s : ByteArray} (h : s.size = 0) : nameE s = 12 := by unfold nameE; rw [if_pos h]
theorem qEM {s : ByteArray} (h : s.size ≠ 0) (h1 : qAJ (qBZ s 0) = false) : nameE s = 12 := by unfold nameE; rw [if_neg h, if_pos h1]
theorem nameE_bad {s : ByteArray} (h : s.size ≠ 0) (h1 : qAJ (qBZ s 0) = true) (k : Nat) (hk : k < s.size) (hb : good s k = false) : nameE s = 12 := by
 unfold nameE; rw [if_neg h, if_neg (by simp [h1]), if_pos (fun hh => by have := hh k hk; rw [hb] at this; cases this)]
theorem nameE_big {s : ByteArray} (h : s.size ≠ 0) (h1 : qAJ (qBZ s 0) = true) (hg : ∀ k, k < s.size → good s k = true) (hb : 32 < s.size) : nameE s = 3 := by
 unfold nameE; rw [if_neg h, if_neg (by simp [h1]), if_neg (by simpa using hg), if_pos hb]
theorem nameE_res {s : ByteArray} (h : s.size ≠ 0) (h1 : qAJ (qBZ s 0) = true) (hg : ∀ k, k < s.size → good s k = true) (hb : ¬ 32 < s.size) (hr : qBW s = true) : nameE s = 12 := by
 unfold nameE; rw [if_neg h, if_neg (by simp [h1]), if_neg (by simpa using hg), if_neg hb, if_pos hr]
theorem nameE_ok {s : ByteArray} (h : s.size ≠ 0) (h1 : qAJ (qBZ s 0) = true) (hg : ∀ k, k < s.size → good s k = true) (hb : ¬ 32 < s.size) (hr : qBW s = false) : nameE s = 0 := by
 unfold nameE; rw [if_neg h, if_neg (by simp [h1]), if_neg (by simpa using hg), if_neg hb, if_neg (by simp [hr])]
theorem size_le_of_ok {s : ByteArray} (h : nameE s = 0) : s.size ≤ 32 := by
 unfold nameE at h
 (repeat' split at h) <;> omega
theorem letter_any (c : Int) (w : World) : Calls Tryz.prog 90 #[.int .u8 c] w fun e w' => e = .returned (.bool (qAJ c)) ∧ w = w' := by
 have hr : (c < 65) ∨ (65 ≤ c ∧ c ≤ 90) ∨ (91 ≤ c ∧ c ≤ 94) ∨ (c = 95) ∨ (c = 96) ∨ (97 ≤ c ∧ c ≤ 122) ∨ (123 ≤ c) := by omega
 rcases hr with h | h | h | h | h | h | h
 ·have e : qAJ c = false := by unfold qAJ; simp; omega
  rw [e]
  have b1 : decide (97 ≤ c) = false := decide_eq_false (by omega)
  have b3 : decide (65 ≤ c) = false := decide_eq_false (by omega)
  have b5 : (c == 95) = false := beq_eq_false_iff_ne.mpr (by omega)
  clear e h
  go_enter Tryz.func90, Tryz.ntmps90
  go_wp2
  go_ret
  exact ⟨rfl, rfl⟩
 ·have e : qAJ c = true := by unfold qAJ; simp; omega
  rw [e]
  have b1 : decide (97 ≤ c) = false := decide_eq_false (by omega)
  have b3 : decide (65 ≤ c) = true := decide_eq_true (by omega)
  have b4 : decide (c ≤ 90) = true := decide_eq_true (by omega)
  clear e h
  go_enter Tryz.func90, Tryz.ntmps90
  go_wp2
  go_ret
  exact ⟨rfl, rfl⟩
 ·have e : qAJ c = false := by unfold qAJ; simp; omega
  rw [e]
  have b1 : decide (97 ≤ c) = false := decide_eq_false (by omega)
  have b3 : decide (65 ≤ c) = true := decide_eq_true (by omega)
  have b4 : decide (c ≤ 90) = false := decide_eq_false (by omega)
  have b5 : (c == 95) = false := beq_eq_false_iff_ne.mpr (by omega)
  clear e h
  go_enter Tryz.func90, Tryz.ntmps90
  go_wp2
  go_ret
  exact ⟨rfl, rfl⟩
 ·have e : qAJ c = true := by unfold qAJ; simp; omega
  rw [e]
  have b1 : decide (97 ≤ c) = false := decide_eq_false (by omega)
  have b3 : decide (65 ≤ c) = true := decide_eq_true (by omega)
  have b4 : decide (c ≤ 90) = false := decide_eq_false (by omega)
  have b5 : (c == 95) = true := beq_iff_eq.mpr h
  clear e h
  go_enter Tryz.func90, Tryz.ntmps90
  go_wp2
  go_ret
  exact ⟨rfl, rfl⟩
 ·have e : qAJ c = false := by unfold qAJ; simp; omega
  rw [e]
  have b1 : decide (97 ≤ c) = false := decide_eq_false (by omega)
  have b3 : decide (65 ≤ c) = true := decide_eq_true (by omega)
  have b4 : decide (c ≤ 90) = false := decide_eq_false (by omega)
  have b5 : (c == 95) = false := beq_eq_false_iff_ne.mpr (by omega)
  clear e h
  go_enter Tryz.func90, Tryz.ntmps90
  go_wp2
  go_ret
  exact ⟨rfl, rfl⟩
 ·have e : qAJ c = true := by unfold qAJ; simp; omega
  rw [e]
  have b1 : decide (97 ≤ c) = true := decide_eq_true (by omega)
  have b2 : decide (c ≤ 122) = true := decide_eq_true (by omega)
  clear e h
  go_enter Tryz.func90, Tryz.ntmps90
  go_wp2
  go_ret
  exact ⟨rfl, rfl⟩
 have e : qAJ c = false := by unfold qAJ; simp; omega
 rw [e]
 have b1 : decide (97 ≤ c) = true := decide_eq_true (by omega)
 have b2 : decide (c ≤ 122) = false := decide_eq_false (by omega)
 have b3 : decide (65 ≤ c) = true := decide_eq_true (by omega)
 have b4 : decide (c ≤ 90) = false := decide_eq_false (by omega)
 have b5 : (c == 95) = false := beq_eq_false_iff_ne.mpr (by omega)
 clear e h
 go_enter Tryz.func90, Tryz.ntmps90
 go_wp2
 go_ret
 exact ⟨rfl, rfl⟩
theorem rletter_any (c : Int) (w : World) : Calls Tryz.prog 106 #[.int .u8 c] w fun e w' => e = .returned (.bool (qAJ c)) ∧ w = w' := by
 have hr : (c < 65) ∨ (65 ≤ c ∧ c ≤ 90) ∨ (91 ≤ c ∧ c ≤ 94) ∨ (c = 95) ∨ (c = 96) ∨ (97 ≤ c ∧ c ≤ 122) ∨ (123 ≤ c) := by omega
 rcases hr with h | h | h | h | h | h | h
 ·have e : qAJ c = false := by unfold qAJ; simp; omega
  rw [e]
  have b1 : decide (97 ≤ c) = false := decide_eq_false (by omega)
  have b3 : decide (65 ≤ c) = false := decide_eq_false (by omega)
  have b5 : (c == 95) = false := beq_eq_false_iff_ne.mpr (by omega)
  clear e h
  go_enter Tryz.func106, Tryz.ntmps106
  go_wp2
  go_ret
  exact ⟨rfl, rfl⟩
 ·have e : qAJ c = true := by unfold qAJ; simp; omega
  rw [e]
  have b1 : decide (97 ≤ c) = false := decide_eq_false (by omega)
  have b3 : decide (65 ≤ c) = true := decide_eq_true (by omega)
  have b4 : decide (c ≤ 90) = true := decide_eq_true (by omega)
  clear e h
  go_enter Tryz.func106, Tryz.ntmps106
  go_wp2
  go_ret
  exact ⟨rfl, rfl⟩
 ·have e : qAJ c = false := by unfold qAJ; simp; omega
  rw [e]
  have b1 : decide (97 ≤ c) = false := decide_eq_false (by omega)
  have b3 : decide (65 ≤ c) = true := decide_eq_true (by omega)
  have b4 : decide (c ≤ 90) = false := decide_eq_false (by omega)
  have b5 : (c == 95) = false := beq_eq_false_iff_ne.mpr (by omega)
  clear e h
  go_enter Tryz.func106, Tryz.ntmps106
  go_wp2
  go_ret
  exact ⟨rfl, rfl⟩
 ·have e : qAJ c = true := by unfold qAJ; simp; omega
  rw [e]
  have b1 : decide (97 ≤ c) = false := decide_eq_false (by omega)
  have b3 : decide (65 ≤ c) = true := decide_eq_true (by omega)
  have b4 : decide (c ≤ 90) = false := decide_eq_false (by omega)
  have b5 : (c == 95) = true := beq_iff_eq.mpr h
  clear e h
  go_enter Tryz.func106, Tryz.ntmps106
  go_wp2
  go_ret
  exact ⟨rfl, rfl⟩
 ·have e : qAJ c = false := by unfold qAJ; simp; omega
  rw [e]
  have b1 : decide (97 ≤ c) = false := decide_eq_false (by omega)
  have b3 : decide (65 ≤ c) = true := decide_eq_true (by omega)
  have b4 : decide (c ≤ 90) = false := decide_eq_false (by omega)
  have b5 : (c == 95) = false := beq_eq_false_iff_ne.mpr (by omega)
  clear e h
  go_enter Tryz.func106, Tryz.ntmps106
  go_wp2
  go_ret
  exact ⟨rfl, rfl⟩
 ·have e : qAJ c = true := by unfold qAJ; simp; omega
  rw [e]
  have b1 : decide (97 ≤ c) = true := decide_eq_true (by omega)
  have b2 : decide (c ≤ 122) = true := decide_eq_true (by omega)
  clear e h
  go_enter Tryz.func106, Tryz.ntmps106
  go_wp2
  go_ret
  exact ⟨rfl, rfl⟩
 have e : qAJ c = false := by unfold qAJ; simp; omega
 rw [e]
 have b1 : decide (97 ≤ c) = true := decide_eq_true (by omega)
 have b2 : decide (c ≤ 122) = false := decide_eq_false (by omega)
 have b3 : decide (65 ≤ c) = true := decide_eq_true (by omega)
 have b4 : decide (c ≤ 90) = false := decide_eq_false (by omega)
 have b5 : (c == 95) = false := beq_eq_false_iff_ne.mpr (by omega)
 clear e h
 go_enter Tryz.func106, Tryz.ntmps106
 go_wp2
 go_ret
 exact ⟨rfl, rfl⟩
theorem rdigit_any (c : Int) (w : World) : Calls Tryz.prog 107 #[.int .u8 c] w fun e w' => e = .returned (.bool (qBP c)) ∧ w = w' := by
 have hr : c < 48 ∨ (48 ≤ c ∧ c ≤ 57) ∨ 57 < c := by omega
 rcases hr with h | h | h
 ·have e : qBP c = false := by unfold qBP; simp; omega
  rw [e]
  have b1 : decide (48 ≤ c) = false := decide_eq_false (by omega)
  clear e h
  go_enter Tryz.func107, Tryz.ntmps107
  go_wp2
  go_ret
  exact ⟨rfl, rfl⟩
 ·have e : qBP c = true := by unfold qBP; simp; omega
  rw [e]
  have b1 : decide (48 ≤ c) = true := decide_eq_true (by omega)
  have b2 : decide (c ≤ 57) = true := decide_eq_true (by omega)
  clear e h
  go_enter Tryz.func107, Tryz.ntmps107
  go_wp2
  go_ret
  exact ⟨rfl, rfl⟩
 have e : qBP c = false := by unfold qBP; simp; omega
 rw [e]
 have b1 : decide (48 ≤ c) = true := decide_eq_true (by omega)
 have b2 : decide (c ≤ 57) = false := decide_eq_false (by omega)
 clear e h
 go_enter Tryz.func107, Tryz.ntmps107
 go_wp2
 go_ret
 exact ⟨rfl, rfl⟩
theorem reserved_any (s : ByteArray) (w : World) : Calls Tryz.prog 91 #[.string s] w fun e w' => e = .returned (.bool (qBW s)) ∧ w = w' := by
 have hr : Hid (qBW s = (words.any fun x => s.toList == x)) := hid rfl
 go_enter Tryz.func91, Tryz.ntmps91
 go_wp2
 all_goals go_ret
 all_goals exact ⟨by rw [hr.out]; first | (simp [words, *]; done) | (simp_all [words]; done), rfl⟩
def StrsAt (W : World) (b o : Nat) (xs : List ByteArray) : Prop := ∀ j x, xs[j]? = some x → W.cell? ⟨b, o + j, none⟩ = some (.string x)
def hasS (xs : List ByteArray) (s : ByteArray) : Bool := xs.any fun x => x.toList == s.toList
def FindPost (xs : List ByteArray) (s : ByteArray) (w : World) (e : Ending) (w' : World) : Prop := ∃ i : Int, e = .returned (.tuple #[.int .i64 i, .bool (hasS xs s)]) ∧ w = w'
theorem hasS_true {xs : List ByteArray} {s : ByteArray} {k : Nat} {x : ByteArray} (hx : xs[k]? = some x) (h : (x.toList == s.toList) = true) : hasS xs s = true :=
 List.any_eq_true.2 ⟨x, List.mem_of_getElem? hx, h⟩
theorem hasS_false {xs : List ByteArray} {s : ByteArray} (h : ∀ (k : Nat) (x : ByteArray), xs[k]? = some x → (x.toList == s.toList) = false) : hasS xs s = false := by
 unfold hasS
 rw [List.any_eq_false]
 intro x hx
 obtain ⟨k, hk⟩ := List.getElem?_of_mem hx
 simpa using h k x hk
theorem rfind_any (b o c : Nat) (xs : List ByteArray) (s : ByteArray) (w : World) (hx : StrsAt w b o xs) (hl : xs.length ≤ 9223372036854775807) :
  Calls Tryz.prog 112 #[.slice (some ⟨b, o, none⟩) xs.length c, .string s] w (FindPost xs s w) := by
 have HX := hid hx
 clear hx
 go_enter Tryz.func112, Tryz.ntmps112
 go_wp2
 go_loop [6] (fun i => ∃ k : Nat, k ≤ xs.length ∧ i = .int .i64 k ∧ Hid (∀ j x, j < k → xs[j]? = some x → (x.toList == s.toList) = false)) (fun i => xs.length - (intOf i).toNat)
 case atStart => exact ⟨0, Nat.zero_le _, rfl, hid fun j _ hj => absurd hj (by omega)⟩
 case round =>
  obtain ⟨k, hk, rfl, hall⟩ := hrel
  by_cases hlt : k < xs.length
  rotate_left
  ·go_wp2
   go_ret2
   exact ⟨0, by rw [hasS_false fun j y hy => hall.out j y (by have := (List.getElem?_eq_some_iff.1 hy).1; omega) hy]; rfl, rfl⟩
  obtain ⟨x, hx⟩ : ∃ x, xs[k]? = some x := ⟨_, List.getElem?_eq_getElem hlt⟩
  have hcell := HX.out k x hx
  have HK := hid hx
  clear hx
  by_cases hq : (x.toList == s.toList) = true
  ·go_wp2
   go_ret2
   exact ⟨(k : Int), by rw [hasS_true HK.out hq]; rfl, rfl⟩
  have hq' : (x.toList == s.toList) = false := by simpa using hq
  clear hq
  go_wp2
  go_round
  case rel => exact ⟨k + 1, by omega, by go_num, hid fun j y hj hy => by
    by_cases e : j = k
    · subst e; have := HK.out.symm.trans hy; cases this; exact hq'
    · exact hall.out j y (by omega) hy⟩
  case measure => simp [intOf]; omega
def wordsB : List ByteArray := words.map fun l => ⟨l.toArray⟩
theorem qCp (c : Int) (v : Bool) (h : qAJ c = v) (w : World) : Calls Tryz.prog 90 #[.int .u8 c] w fun e w' => e = .returned (.bool v) ∧ w = w' := h ▸ letter_any c w
theorem qCx (c : Int) (v : Bool) (h : qAJ c = v) (w : World) : Calls Tryz.prog 106 #[.int .u8 c] w fun e w' => e = .returned (.bool v) ∧ w = w' := h ▸ rletter_any c w
theorem rdigit_val (c : Int) (v : Bool) (h : qBP c = v) (w : World) : Calls Tryz.prog 107 #[.int .u8 c] w fun e w' => e = .returned (.bool v) ∧ w = w' := h ▸ rdigit_any c w
theorem qEp (s : ByteArray) (v : Bool) (h : qBW s = v) (w : World) : Calls Tryz.prog 91 #[.string s] w fun e w' => e = .returned (.bool v) ∧ w = w' := h ▸ reserved_any s w
theorem right_any (s : ByteArray) (w : World) (hs : s.size ≤ 140737488351232) : Calls Tryz.prog 30 #[.string s] w fun e w' => e = .returned (.int .i64 (nameE s)) ∧ w = w' := by
 by_cases h0 : s.size = 0
 ·rw [qEL h0]
  obtain rfl : s = ⟨#[]⟩ := ByteArray.ext (Array.eq_empty_of_size_eq_zero h0)
  go_enter Tryz.func30, Tryz.ntmps30
  go_wp2
  go_ret
  exact ⟨rfl, rfl⟩
 have hp : 0 < s.size := by omega
 have he : s.toList.isEmpty = false := toList_ne h0
 have hb0 := qDA s 0 hp
 cases hl : qAJ (qBZ s 0) with
 | false =>
  rw [qEM h0 hl]
  rw [hb0] at hl
  have HL : Hid (qAJ ((s[0]'hp).toNat : Int) = false) := hid hl
  clear hl hb0
  go_enter Tryz.func30, Tryz.ntmps30
  go_wp2_with (go_at_call 90; refine (qCp _ _ HL.out _).mono ?_; rintro e w' ⟨rfl, rfl⟩)
  go_ret
  exact ⟨rfl, rfl⟩
 | true =>
  have HN : Hid (qAJ (qBZ s 0) = true) := hid hl
  rw [hb0] at hl
  have HL : Hid (qAJ ((s[0]'hp).toNat : Int) = true) := hid hl
  clear hl hb0
  go_enter Tryz.func30, Tryz.ntmps30
  go_wp2_with (go_at_call 90; refine (qCp _ _ HL.out _).mono ?_; rintro e w' ⟨rfl, rfl⟩)
  go_loop [14] (fun i => ∃ k : Nat, k ≤ s.size ∧ i = .int .i64 k ∧ Hid (∀ j, j < k → good s j = true)) (fun i => s.size - (intOf i).toNat)
  case atStart => exact ⟨0, Nat.zero_le _, rfl, hid fun j hj => absurd hj (by omega)⟩
  case round =>
   obtain ⟨k, hk, rfl, hall⟩ := hrel
   by_cases hlt : k < s.size
   rotate_left
   ·have hkk : k = s.size := by omega
    subst hkk
    have HA : Hid (∀ j, j < s.size → good s j = true) := hall
    clear hall
    by_cases h32 : 32 < s.size
    ·have HE : Hid (nameE s = 3) := hid (nameE_big h0 HN.out HA.out h32)
     have b1 : decide ((32 : Int) < (s.size : Int)) = true := decide_eq_true (by omega)
     go_wp2_with fail
     go_ret
     exact ⟨by rw [HE.out]; rfl, rfl⟩
    have b1 : decide ((32 : Int) < (s.size : Int)) = false := decide_eq_false (by omega)
    cases hres : qBW s with
    | true =>
     have HE : Hid (nameE s = 12) := hid (nameE_res h0 HN.out HA.out h32 hres)
     have HR := hid hres
     clear hres
     go_wp2_with (go_at_call 91; refine (qEp _ _ HR.out _).mono ?_; rintro e w' ⟨rfl, rfl⟩)
     go_ret
     exact ⟨by rw [HE.out]; rfl, rfl⟩
    | false =>
     have HE : Hid (nameE s = 0) := hid (nameE_ok h0 HN.out HA.out h32 hres)
     have HR := hid hres
     clear hres
     go_wp2_with (go_at_call 91; refine (qEp _ _ HR.out _).mono ?_; rintro e w' ⟨rfl, rfl⟩)
     go_ret
     exact ⟨by rw [HE.out]; rfl, rfl⟩
   have hbk := qDA s k hlt
   cases hlet : qAJ (qBZ s k) with
   | true =>
    have HG : Hid (good s k = true) := hid (by unfold good; rw [hlet]; rfl)
    have HK : Hid (qAJ ((s[k]'hlt).toNat : Int) = true) := hid (by rw [← hbk]; exact hlet)
    clear hlet hbk
    go_wp2_with (go_at_call 90; refine (qCp _ _ HK.out _).mono ?_; rintro e w' ⟨rfl, rfl⟩)
    go_round
    case rel => exact ⟨k + 1, by omega, by go_num, hid fun j hj => by
      by_cases e : j = k
      · rw [e]; exact HG.out
      · exact hall.out j (by omega)⟩
    case measure => simp [intOf]; omega
   | false =>
    have HK : Hid (qAJ ((s[k]'hlt).toNat : Int) = false) := hid (by rw [← hbk]; exact hlet)
    cases hdig : qBP (qBZ s k) with
    | true =>
     have HG : Hid (good s k = true) := hid (by unfold good; rw [hdig]; simp)
     have hq := hdig
     rw [hbk] at hq
     have hq2 : 48 ≤ ((s[k]'hlt).toNat : Int) ∧ ((s[k]'hlt).toNat : Int) ≤ 57 := by simpa [qBP] using hq
     have b1 : decide (((s[k]'hlt).toNat : Int) < 48) = false := decide_eq_false (by omega)
     have b2 : decide (57 < ((s[k]'hlt).toNat : Int)) = false := decide_eq_false (by omega)
     clear hq hq2
     clear hlet hbk hdig
     go_wp2_with (go_at_call 90; refine (qCp _ _ HK.out _).mono ?_; rintro e w' ⟨rfl, rfl⟩)
     go_round
     case rel => exact ⟨k + 1, by omega, by go_num, hid fun j hj => by
       by_cases e : j = k
       · rw [e]; exact HG.out
       · exact hall.out j (by omega)⟩
     case measure => simp [intOf]; omega
    | false =>
     have HE : Hid (nameE s = 12) := hid (nameE_bad h0 HN.out k hlt (by unfold good; rw [hlet, hdig]; rfl))
     have hq := hdig
     rw [hbk] at hq
     have hq2 : ¬ (48 ≤ ((s[k]'hlt).toNat : Int) ∧ ((s[k]'hlt).toNat : Int) ≤ 57) := by simpa [qBP] using hq
     clear hlet hbk hdig hq
     by_cases hq3 : ((s[k]'hlt).toNat : Int) < 48
     ·have b1 : decide (((s[k]'hlt).toNat : Int) < 48) = true := decide_eq_true hq3
      clear hq2 hq3
      go_wp2_with (go_at_call 90; refine (qCp _ _ HK.out _).mono ?_; rintro e w' ⟨rfl, rfl⟩)
      go_ret
      exact ⟨by rw [HE.out]; rfl, rfl⟩
     have b1 : decide (((s[k]'hlt).toNat : Int) < 48) = false := decide_eq_false hq3
     have b2 : decide (57 < ((s[k]'hlt).toNat : Int)) = true := decide_eq_true (by omega)
     clear hq2 hq3
     go_wp2_with (go_at_call 90; refine (qCp _ _ HK.out _).mono ?_; rintro e w' ⟨rfl, rfl⟩)
     go_ret
     exact ⟨by rw [HE.out]; rfl, rfl⟩
theorem has_words (s : ByteArray) : hasS wordsB s = qBW s := by
 have h : ∀ (l : List (List UInt8)), (l.map fun x => (⟨x.toArray⟩ : ByteArray)).any (fun x => x.toList == s.toList) = l.any fun x => s.toList == x := by
  intro l
  induction l with
  | nil => rfl
  | cons x r ih =>
   rw [List.map_cons, List.any_cons, List.any_cons, ih]
   congr 1
   rw [Lib.toList_data]
   show (x == s.toList) = (s.toList == x)
   rw [Bool.eq_iff_iff]
   simp only [beq_iff_eq]
   exact eq_comm
 exact h words
def wordsV : Array Value := (wordsB.map Value.string).toArray
theorem rwords_any (w : World) : Calls Tryz.prog 151 #[] w fun e w' => e = .returned (.slice (some ⟨w.heap.size, 0, none⟩) 23 23) ∧ w.alloc (.cells wordsV 9) = w' := by
 have hv : Hid (wordsV = #[.string ⟨#[98, 111, 111, 108]⟩, .string ⟨#[99, 97, 116, 99, 104]⟩, .string ⟨#[99, 111, 110, 115, 116]⟩, .string ⟨#[101, 108, 115, 101]⟩, .string ⟨#[101, 120, 112, 111, 114, 116]⟩, .string ⟨#[102, 97, 105, 108]⟩, .string ⟨#[102, 97, 108, 115, 101]⟩, .string ⟨#[102, 108, 111, 97, 116]⟩, .string ⟨#[102, 110]⟩, .string ⟨#[105, 102]⟩, .string ⟨#[105, 109, 112, 111, 114, 116]⟩, .string ⟨#[105, 110, 102]⟩, .string ⟨#[105, 110, 112, 117, 116]⟩, .string ⟨#[105, 110, 116]⟩, .string ⟨#[108, 101, 116]⟩, .string ⟨#[109, 111, 100, 117, 108, 101]⟩, .string ⟨#[110, 97, 110]⟩, .string ⟨#[114, 101, 116, 117, 114, 110]⟩, .string ⟨#[115, 104, 111, 119]⟩, .string ⟨#[116, 114, 117, 101]⟩, .string ⟨#[116, 114, 121]⟩, .string ⟨#[118, 97, 114]⟩, .string ⟨#[119, 104, 105, 108, 101]⟩]) := hid rfl
 go_enter Tryz.func151, Tryz.ntmps151
 go_wp2
 go_ret
 exact ⟨rfl, by rw [hv.out]⟩
theorem rreserved_any (s : ByteArray) (w : World) : Calls Tryz.prog 108 #[.string s] w fun e w' => e = .returned (.bool (qBW s)) ∧ Below w.heap.size w w' := by
 have hx : StrsAt (w.alloc (.cells wordsV 9)) w.heap.size 0 wordsB := fun j x hj => by
  rw [World.cell?_alloc_at _ _ _ _ rfl]
  show wordsV[0 + j]? = _
  unfold wordsV
  simp [hj]
 have hc := rfind_any w.heap.size 0 23 wordsB s (w.alloc (.cells wordsV 9)) hx (by decide)
 rw [show wordsB.length = 23 from rfl] at hc
 have HC := hid hc
 clear hx hc
 go_enter Tryz.func108, Tryz.ntmps108
 go_wp2_with (go_at_call 151; refine (rwords_any _).mono ?_; rintro e w' ⟨rfl, rfl⟩)
 refine HC.out.mono ?_
 rintro e w' ⟨i, rfl, rfl⟩
 go_wp2
 go_ret
 exact ⟨by rw [has_words]; rfl, (Below.refl _ _).alloc (Nat.le_refl _) _⟩
theorem qDL (s : ByteArray) (v : Bool) (h : qBW s = v) (w : World) : Calls Tryz.prog 108 #[.string s] w fun e w' => e = .returned (.bool v) ∧ Below w.heap.size w w' := h ▸ rreserved_any s w
theorem rright_any (s : ByteArray) (w : World) (hs : s.size ≤ 140737488351232) : Calls Tryz.prog 36 #[.string s] w fun e w' => e = .returned (.int .i64 (nameE s)) ∧ Below w.heap.size w w' := by
 by_cases h0 : s.size = 0
 ·rw [qEL h0]
  obtain rfl : s = ⟨#[]⟩ := ByteArray.ext (Array.eq_empty_of_size_eq_zero h0)
  go_enter Tryz.func36, Tryz.ntmps36
  go_wp2
  go_ret
  exact ⟨rfl, Below.refl _ _⟩
 have hp : 0 < s.size := by omega
 have he : ((s.size : Int) == 0) = false := beq_eq_false_iff_ne.mpr (by omega)
 have hb0 := qDA s 0 hp
 cases hl : qAJ (qBZ s 0) with
 | false =>
  rw [qEM h0 hl]
  rw [hb0] at hl
  have HL : Hid (qAJ ((s[0]'hp).toNat : Int) = false) := hid hl
  clear hl hb0
  go_enter Tryz.func36, Tryz.ntmps36
  go_wp2_with (go_at_call 106; refine (qCx _ _ HL.out _).mono ?_; rintro e w' ⟨rfl, rfl⟩)
  go_ret
  exact ⟨rfl, Below.refl _ _⟩
 | true =>
  have HN : Hid (qAJ (qBZ s 0) = true) := hid hl
  rw [hb0] at hl
  have HL : Hid (qAJ ((s[0]'hp).toNat : Int) = true) := hid hl
  clear hl hb0
  go_enter Tryz.func36, Tryz.ntmps36
  go_wp2_with (go_at_call 106; refine (qCx _ _ HL.out _).mono ?_; rintro e w' ⟨rfl, rfl⟩)
  go_loop [3] (fun i => ∃ k : Nat, k ≤ s.size ∧ i = .int .i64 k ∧ Hid (∀ j, j < k → good s j = true)) (fun i => s.size - (intOf i).toNat)
  case atStart => exact ⟨0, Nat.zero_le _, rfl, hid fun j hj => absurd hj (by omega)⟩
  case round =>
   obtain ⟨k, hk, rfl, hall⟩ := hrel
   by_cases hlt : k < s.size
   rotate_left
   ·have hkk : k = s.size := by omega
    subst hkk
    have HA : Hid (∀ j, j < s.size → good s j = true) := hall
    clear hall
    by_cases h32 : 32 < s.size
    ·have HE : Hid (nameE s = 3) := hid (nameE_big h0 HN.out HA.out h32)
     have b1 : decide ((32 : Int) < (s.size : Int)) = true := decide_eq_true (by omega)
     go_wp2_with fail
     go_ret
     exact ⟨by rw [HE.out]; rfl, Below.refl _ _⟩
    have b1 : decide ((32 : Int) < (s.size : Int)) = false := decide_eq_false (by omega)
    cases hres : qBW s with
    | true =>
     have HE : Hid (nameE s = 12) := hid (nameE_res h0 HN.out HA.out h32 hres)
     have HR := hid hres
     clear hres
     go_wp2_with (go_at_call 108; refine (qDL _ _ HR.out _).mono ?_; rintro e w' ⟨rfl, hbr⟩)
     go_ret
     exact ⟨by rw [HE.out]; rfl, hbr⟩
    | false =>
     have HE : Hid (nameE s = 0) := hid (nameE_ok h0 HN.out HA.out h32 hres)
     have HR := hid hres
     clear hres
     go_wp2_with (go_at_call 108; refine (qDL _ _ HR.out _).mono ?_; rintro e w' ⟨rfl, hbr⟩)
     go_ret
     exact ⟨by rw [HE.out]; rfl, hbr⟩
   have hbk := qDA s k hlt
   cases hlet : qAJ (qBZ s k) with
   | true =>
    have HG : Hid (good s k = true) := hid (by unfold good; rw [hlet]; rfl)
    have HK : Hid (qAJ ((s[k]'hlt).toNat : Int) = true) := hid (by rw [← hbk]; exact hlet)
    clear hlet hbk
    go_wp2_with (go_at_call 106; refine (qCx _ _ HK.out _).mono ?_; rintro e w' ⟨rfl, rfl⟩)
    go_round
    case rel => exact ⟨k + 1, by omega, by go_num, hid fun j hj => by
      by_cases e : j = k
      · rw [e]; exact HG.out
      · exact hall.out j (by omega)⟩
    case measure => simp [intOf]; omega
   | false =>
    have HK : Hid (qAJ ((s[k]'hlt).toNat : Int) = false) := hid (by rw [← hbk]; exact hlet)
    cases hdig : qBP (qBZ s k) with
    | true =>
     have HG : Hid (good s k = true) := hid (by unfold good; rw [hdig]; simp)
     have HD : Hid (qBP ((s[k]'hlt).toNat : Int) = true) := hid (by rw [← hbk]; exact hdig)
     clear hlet hbk hdig
     go_wp2_with (first | (go_at_call 106; refine (qCx _ _ HK.out _).mono ?_; rintro e w' ⟨rfl, rfl⟩) | (go_at_call 107; refine (rdigit_val _ _ HD.out _).mono ?_; rintro e w' ⟨rfl, rfl⟩))
     go_round
     case rel => exact ⟨k + 1, by omega, by go_num, hid fun j hj => by
       by_cases e : j = k
       · rw [e]; exact HG.out
       · exact hall.out j (by omega)⟩
     case measure => simp [intOf]; omega
    | false =>
     have HE : Hid (nameE s = 12) := hid (nameE_bad h0 HN.out k hlt (by unfold good; rw [hlet, hdig]; rfl))
     have HD : Hid (qBP ((s[k]'hlt).toNat : Int) = false) := hid (by rw [← hbk]; exact hdig)
     clear hlet hbk hdig
     go_wp2_with (first | (go_at_call 106; refine (qCx _ _ HK.out _).mono ?_; rintro e w' ⟨rfl, rfl⟩) | (go_at_call 107; refine (rdigit_val _ _ HD.out _).mono ?_; rintro e w' ⟨rfl, rfl⟩))
     go_ret
     exact ⟨by rw [HE.out]; rfl, Below.refl _ _⟩
end Names
end
section
namespace Q
open Go.RowKit PA PC PB
def qBm.f (a0 : ByteArray) : Option (Int) := if a0.size ≤ 140737488351232 then some (Names.nameE a0) else none
theorem qBm.calls (a0 : ByteArray) (r : Int) (w : World) (h : qBm.f a0 = some r) :
  Calls Tryz.prog 30 #[.string a0] w fun e w' => e = .returned (.int .i64 r) ∧ qAW w w' := by
 unfold qBm.f at h
 split at h
 case isFalse => cases h
 rename_i hs
 obtain rfl := Option.some.inj h
 exact (Names.right_any a0 w hs).mono fun e w' ⟨he, hw⟩ => ⟨he, hw ▸ qAW.refl _⟩
def qAA.f (a0 : ByteArray) : Option (Int) := if a0.size ≤ 140737488351232 then some (Names.nameE a0) else none
theorem qAA.calls (a0 : ByteArray) (r : Int) (w : World) (h : qAA.f a0 = some r) :
  Calls Tryz.prog 36 #[.string a0] w fun e w' => e = .returned (.int .i64 r) ∧ Below w.heap.size w w' := by
 unfold qAA.f at h
 split at h
 case isFalse => cases h
 rename_i hs
 obtain rfl := Option.some.inj h
 exact Names.rright_any a0 w hs
end Q
end
section
namespace Q
open Go.RowKit PA PC PB
attribute [local go_sem] qAU min2_int qBd min_two max_three min_three max_four min_four
mutual
def qA0.l0 : Nat → List (S104) → List (S92) → Int → Int → Option (List (S104))
 | 0, _, _, _, _ => none
 | k + 1, x3, x9, az, aj => if aj < az then (if 0 ≤ aj then (if aj < (x9.length : Int) then (qA0.l1 k x3 aj x9 az aj ((qAx x9 aj).f1.f2) (((qAx x9 aj).f1.f2).length : Int) 0) else (none)) else (none)) else (some x3)
def qA0.l1 : Nat → List (S104) → Int → List (S92) → Int → Int → List (S144) → Int → Int → Option (List (S104))
 | 0, _, _, _, _, _, _, _, _ => none
 | k + 1, x3, x4, x9, az, aj, ao, bg, ai => if ai < bg then (if 0 ≤ ai then (if ai < (ao.length : Int) then (if ((qAH ao ai).f0) = 4 then (qA0.j2 k x3 x4 ai x9 az aj ao bg ai ((qAH ao ai).f0) (((qAH ao ai).f0) == 4)) else (qA0.j2 k x3 x4 ai x9 az aj ao bg ai ((qAH ao ai).f0) (((qAH ao ai).f0) == 5))) else (none)) else (none)) else (qA0.l0 k x3 x9 az (wrap64 (aj + 1)))
def qA0.j2 : Nat → List (S104) → Int → Int → List (S92) → Int → Int → List (S144) → Int → Int → Int → Bool → Option (List (S104))
 | 0, _, _, _, _, _, _, _, _, _, _, _ => none
 | k + 1, x3, x4, x6, x9, az, aj, ao, bg, ai, cV, cW => if cW = true then (if x3.length < 2513169434916 then (qA0.l1 k (x3 ++ [(⟨x4, x6, 1, (⟨#[]⟩ : ByteArray), (⟨#[]⟩ : ByteArray)⟩ : S104)]) x4 x9 az aj ao bg (wrap64 (ai + 1))) else (none)) else (if cV = 10 then (if x3.length < 2513169434916 then (qA0.l1 k (x3 ++ [(⟨x4, x6, 2, (⟨#[]⟩ : ByteArray), (⟨#[]⟩ : ByteArray)⟩ : S104)]) x4 x9 az aj ao bg (wrap64 (ai + 1))) else (none)) else (qA0.l1 k x3 x4 x9 az aj ao bg (wrap64 (ai + 1))))
end
def qA0.f (k : Nat) (a0_0 : ByteArray) (l0_1 : List (S85)) (l0_2 : List (S92)) (l0_3 : List (S104)) : Option (List (S104)) := qA0.l0 k ([] : List (S104)) l0_2 (l0_2.length : Int) 0
theorem qA0.calls (k : Nat) (a0_0 : ByteArray) (ab : Option Addr) (ad : Nat) (l0_1 : List (S85)) (ap : Option Addr) (ae : Nat) (l0_2 : List (S92)) (ac : Option Addr) (af : Nat) (l0_3 : List (S104)) (r : List (S104)) (w : World) (hr0_1 : Kd.C k85 w ab l0_1.length l0_1) (hc0_1 : l0_1.length ≤ ad) (hr0_2 : Kd.C k92 w ap l0_2.length l0_2) (hc0_2 : l0_2.length ≤ ae) (hr0_3 : Kd.C k104 w ac l0_3.length l0_3) (hc0_3 : l0_3.length ≤ af) (h : qA0.f k a0_0 l0_1 l0_2 l0_3 = some r) :
  Calls Tryz.prog 101 #[.agg #[.string a0_0, .slice ab l0_1.length ad, .slice ap l0_2.length ae, .slice ac l0_3.length af]] w fun e w' => ∃ v0_ : Value, e = .returned (v0_) ∧ Kd.R k104 104 w' w.heap.size (fun _ => True) v0_ r ∧ Below w.heap.size w w' := by
 clear hr0_1 hc0_1
 have bl := am hr0_2
 clear hr0_2 hc0_2 hr0_3 hc0_3
 have HB := am (Below.refl w.heap.size w)
 have H : (qA0.l0 k ([] : List (S104)) l0_2 (l0_2.length : Int) 0) = some r := h
 clear h
 have H' := am H
 clear H
 go_enter Tryz.func101, Tryz.ntmps101
 go_wp2_with ((with_reducible refine qAI (N := 1) rfl ?_); refine bx 1 #[.string a0_0, .slice ab l0_1.length ad, .slice ap l0_2.length ae, .slice ac l0_3.length af] 33 ?_; intro aU hg w2 hbox hb; have n_ := a2 (qAp HB.o hb) (am (hbox)); clear HB; obtain ⟨HB, aD⟩ := n_; clear hb hbox hg; have bW : w2.cell? ⟨aU, 0, none⟩ = some (.string a0_0) := (qAa aD.o 0).trans rfl; have bX : w2.cell? ⟨aU, 1, none⟩ = some (.slice ab l0_1.length ad) := (qAa aD.o 1).trans rfl; have bY : w2.cell? ⟨aU, 2, none⟩ = some (.slice ap l0_2.length ae) := (qAa aD.o 2).trans rfl; have bZ : w2.cell? ⟨aU, 3, none⟩ = some (.slice ac l0_3.length af) := (qAa aD.o 3).trans rfl; have b5 := qAc aD.o 0; have b6 := qAc aD.o 1; have b7 := qAc aD.o 2; have b8 := qAc aD.o 3)
 go_loopg [3, 11] k (fun kq v3 cQ w' => ∃ (bS : List (S104)) (aA : Int), cQ = .int .i64 aA ∧ qAj (qA0.l0 kq bS l0_2 (l0_2.length : Int) aA = some r) ∧ qAj (kq ≤ k) ∧ qAj (Kd.R k104 104 w' w.heap.size (fun _ => True) v3 bS) ∧ qAj (w'.heap[aU]? = some (.cells #[.string a0_0, (.slice ab l0_1.length ad), (.slice ap l0_2.length ae), (.slice ac l0_3.length af)] 33 (0, 0))) ∧ qAj (Below w.heap.size w w'))
 case atStart => exact ⟨([] : List (S104)), (0), (by rfl), H', ⟨Nat.le_refl _⟩, ⟨by (exact Kd.R_nil _ _ _ _ _)⟩, ⟨by exact aD.o⟩, ⟨by exact HB.o⟩⟩
 case round =>
  clear H'
  obtain ⟨bS, aA, rfl, HA, ax, aM, aD, HB⟩ := hrel
  cases gk with
  | zero => exact absurd HA.o (by simp [qA0.l0])
  | succ k1 =>
   have H := HA.o
   clear HA
   simp only [qA0.l0] at H
   by_cases c4 : aA < (l0_2.length : Int)
   rotate_left
   ·rw [if_neg c4] at H
    replace c4 := d0 c4
    obtain rfl := Option.some.inj H
    go_wp2
    go_ret
    exact ⟨_, by rfl, by exact aM.o, by exact HB.o⟩
   rw [if_pos c4] at H
   replace c4 := d1 c4
   obtain ⟨c5, H⟩ := gd H
   replace c5 := d1 c5
   obtain ⟨c6, H⟩ := gd H
   replace c6 := d1 c6
   have H' := am H
   clear H
   have bO : 0 ≤ aA := od (by assumption)
   have bQ : aA < (l0_2.length : Int) := od (by assumption)
   obtain ⟨ak, aR, aT, aV, aW, aq, aa, cL, aX, aY, aZ, a4, a5, bL, bJ, bM, bK, bN, al⟩ := at_T92 bl.o aA bO bQ
   cases cL
   replace aX := (HB.o.cell (World.block_lt_of_cell? w _ aX)).trans aX
   replace aY := (HB.o.cell (World.block_lt_of_cell? w _ aY)).trans aY
   replace aZ := (HB.o.cell (World.block_lt_of_cell? w _ aZ)).trans aZ
   replace a4 := (HB.o.cell (World.block_lt_of_cell? w _ a4)).trans a4
   replace a5 := (HB.o.cell (World.block_lt_of_cell? w _ a5)).trans a5
   clear bJ bL bK bM
   have bA := am al
   clear al bN
   replace bO := eq_true bO
   replace bQ := eq_true bQ
   go_wp2_with ((with_reducible refine qAI (N := 5) rfl ?_); refine bx 5 #[.string ⟨#[]⟩, .slice none 0 0, .int .i64 0, .slice none 0 0, .slice none 0 0] 92 ?_; intro aI hg w7 hbox hb; have n_ := a2 (Kd.R_below aM.o hb) (a2 (qAt aD.o hb) (a2 (qAp HB.o hb) (a2 (hbox) (a2 (by rw [hg]; exact (qAs HB.o) : w.heap.size ≤ aI) (am (by rw [hg]; exact Nat.ne_of_lt (qAM aD.o) : aU ≠ aI)))))); clear aM aD HB; obtain ⟨aM, aD, HB, aE, bi, aN⟩ := n_; clear hb hbox hg; have b0 : w7.cell? ⟨aI, 0, none⟩ = some (.string ⟨#[]⟩) := (qAa aE.o 0).trans rfl; have b1 : w7.cell? ⟨aI, 1, none⟩ = some (.slice none 0 0) := (qAa aE.o 1).trans rfl; have b2 : w7.cell? ⟨aI, 2, none⟩ = some (.int .i64 0) := (qAa aE.o 2).trans rfl; have b3 : w7.cell? ⟨aI, 3, none⟩ = some (.slice none 0 0) := (qAa aE.o 3).trans rfl; have b4 : w7.cell? ⟨aI, 4, none⟩ = some (.slice none 0 0) := (qAa aE.o 4).trans rfl; have b9 := qAc aE.o 0; have ba := qAc aE.o 1; have bb := qAc aE.o 2; have bc := qAc aE.o 3; have bd := qAc aE.o 4)
   go_loopg [3, 20] k1 (fun kq v3 cT w' => ∃ (aQ : List (S104)) (aC : Int), cT = .int .i64 aC ∧ qAj (qA0.l1 kq aQ aA l0_2 (l0_2.length : Int) aA ((qAx l0_2 aA).f1.f2) (((qAx l0_2 aA).f1.f2).length : Int) aC = some r) ∧ qAj (kq ≤ k1) ∧ qAj (Kd.R k104 104 w' w.heap.size (fun _ => True) v3 aQ) ∧ qAj (w'.heap[aU]? = some (.cells #[.string a0_0, (.slice ab l0_1.length ad), (.slice (some ak) l0_2.length ae), (.slice ac l0_3.length af)] 33 (0, 0))) ∧ qAj (w'.heap[aI]? = some (.cells #[.string ((qAx l0_2 aA).f0), (.slice aR ((qAx l0_2 aA).f1.f0.f0).length aT), .int .i64 ((qAx l0_2 aA).f1.f0.f1), (.slice aV ((qAx l0_2 aA).f1.f1).length aW), (.slice aq ((qAx l0_2 aA).f1.f2).length aa)] 92 (0, 0))) ∧ qAj (Below w.heap.size w w'))
   case atStart => exact ⟨(bS), (0), (by rfl), H', ⟨Nat.le_refl _⟩, ⟨by exact Kd.R_mono (Kd.R_far (p := ⟨aI, 4, none⟩) (Kd.R_far (p := ⟨aI, 3, none⟩) (Kd.R_far (p := ⟨aI, 2, none⟩) (Kd.R_far (p := ⟨aI, 1, none⟩) (Kd.R_far (p := ⟨aI, 0, none⟩) (Kd.R_types aM.o aE.o (by decide)) (fun _ hk => hk.2) (.string ((qAx l0_2 aA).f0))) (fun _ hk => hk.2) (.slice aR ((qAx l0_2 aA).f1.f0.f0).length aT)) (fun _ hk => hk.2) (.int .i64 ((qAx l0_2 aA).f1.f0.f1))) (fun _ hk => hk.2) (.slice aV ((qAx l0_2 aA).f1.f1).length aW)) (fun _ hk => hk.2) (.slice aq ((qAx l0_2 aA).f1.f2).length aa)) (fun _ hk => trivial)⟩, ⟨by refine qA1 ?_ aN.o _; refine qA1 ?_ aN.o _; refine qA1 ?_ aN.o _; refine qA1 ?_ aN.o _; refine qA1 ?_ aN.o _; exact aD.o⟩, ⟨by refine qA6 (cs := #[.string ((qAx l0_2 aA).f0), .slice aR ((qAx l0_2 aA).f1.f0.f0).length aT, .int .i64 ((qAx l0_2 aA).f1.f0.f1), .slice aV ((qAx l0_2 aA).f1.f1).length aW, .slice none 0 0]) ?_ 4 _ rfl; refine qA6 (cs := #[.string ((qAx l0_2 aA).f0), .slice aR ((qAx l0_2 aA).f1.f0.f0).length aT, .int .i64 ((qAx l0_2 aA).f1.f0.f1), .slice none 0 0, .slice none 0 0]) ?_ 3 _ rfl; refine qA6 (cs := #[.string ((qAx l0_2 aA).f0), .slice aR ((qAx l0_2 aA).f1.f0.f0).length aT, .int .i64 0, .slice none 0 0, .slice none 0 0]) ?_ 2 _ rfl; refine qA6 (cs := #[.string ((qAx l0_2 aA).f0), .slice none 0 0, .int .i64 0, .slice none 0 0, .slice none 0 0]) ?_ 1 _ rfl; refine qA6 (cs := #[.string ⟨#[]⟩, .slice none 0 0, .int .i64 0, .slice none 0 0, .slice none 0 0]) ?_ 0 _ rfl; exact aE.o⟩, ⟨by repeat (with_reducible first | exact HB.o | refine qAb ?_ bi.o)⟩⟩
   case round =>
    clear H'
    obtain ⟨aQ, aC, rfl, HA, ay, aM, aD, aE, HB⟩ := hrel
    cases gk with
    | zero => exact absurd HA.o (by simp [qA0.l1])
    | succ k2 =>
     have H := HA.o
     clear HA
     simp only [qA0.l1] at H
     by_cases c10 : aC < (((qAx l0_2 aA).f1.f2).length : Int)
     rotate_left
     ·rw [if_neg c10] at H
      replace c10 := d0 c10
      have H' := am H
      clear H
      go_wp2
      go_roundg k2
      case measure => have := ax.o; have := ay.o; omega
      case rel => exact ⟨(aQ), (wrap64 (aA + 1)), (by rfl), H', ⟨by have := ax.o; have := ay.o; omega⟩, ⟨by exact aM.o⟩, ⟨by exact aD.o⟩, ⟨by exact HB.o⟩⟩
     rw [if_pos c10] at H
     replace c10 := d1 c10
     obtain ⟨cD, H⟩ := gd H
     replace cD := d1 cD
     obtain ⟨cE, H⟩ := gd H
     replace cE := d1 cE
     have bV := am H
     clear H
     have bP : 0 ≤ aC := od (by assumption)
     have bR : aC < (((qAx l0_2 aA).f1.f2).length : Int) := od (by assumption)
     obtain ⟨ar, cM, a6, a7, a8, a9⟩ := at_T144 bA.o aC bP bR
     cases cM
     replace a6 := (HB.o.cell (World.block_lt_of_cell? w _ a6)).trans a6
     replace a7 := (HB.o.cell (World.block_lt_of_cell? w _ a7)).trans a7
     replace a8 := (HB.o.cell (World.block_lt_of_cell? w _ a8)).trans a8
     replace a9 := (HB.o.cell (World.block_lt_of_cell? w _ a9)).trans a9
     replace bP := eq_true bP
     replace bR := eq_true bR
     go_upto_if 27 with ((with_reducible refine qAI (N := 7) rfl ?_); refine bx 7 #[.int .i64 0, .int .i64 0, .int .i64 0, .int .u64 0] 144 ?_; intro aJ hg cI hbox hb; have n_ := a2 (Kd.R_below aM.o hb) (a2 (qAt aD.o hb) (a2 (qAt aE.o hb) (a2 (qAp HB.o hb) (a2 (hbox) (a2 (by rw [hg]; exact (qAs HB.o) : w.heap.size ≤ aJ) (a2 (by rw [hg]; exact Nat.ne_of_lt (qAM aD.o) : aU ≠ aJ) (am (by rw [hg]; exact Nat.ne_of_lt (qAM aE.o) : aI ≠ aJ)))))))); clear aM aD aE HB; obtain ⟨aM, aD, aE, HB, aK, bT, aG, aH⟩ := n_; clear hb hbox hg; have bB : cI.cell? ⟨aJ, 0, none⟩ = some (.int .i64 0) := (qAa aK.o 0).trans rfl; have bC : cI.cell? ⟨aJ, 1, none⟩ = some (.int .i64 0) := (qAa aK.o 1).trans rfl; have bD : cI.cell? ⟨aJ, 2, none⟩ = some (.int .i64 0) := (qAa aK.o 2).trans rfl; have bE : cI.cell? ⟨aJ, 3, none⟩ = some (.int .u64 0) := (qAa aK.o 3).trans rfl; have bF := qAc aK.o 0; have bG := qAc aK.o 1; have bH := qAc aK.o 2; have bI := qAc aK.o 3)
     (skip)
     go_cut [27] (fun cU wc => ∃ (kq : Nat) (ag : Bool), cU = .bool ag ∧ qAj (qA0.j2 kq aQ aA aC l0_2 (l0_2.length : Int) aA ((qAx l0_2 aA).f1.f2) (((qAx l0_2 aA).f1.f2).length : Int) aC ((qAH ((qAx l0_2 aA).f1.f2) aC).f0) ag = some r) ∧ qAj (kq ≤ k2) ∧ qAj (Kd.R k104 104 wc w.heap.size (fun _ => True) u3 aQ) ∧ qAj (wc.heap[aU]? = some (.cells #[.string a0_0, (.slice ab l0_1.length ad), (.slice (some ak) l0_2.length ae), (.slice ac l0_3.length af)] 33 (0, 0))) ∧ qAj (wc.heap[aI]? = some (.cells #[.string ((qAx l0_2 aA).f0), (.slice aR ((qAx l0_2 aA).f1.f0.f0).length aT), .int .i64 ((qAx l0_2 aA).f1.f0.f1), (.slice aV ((qAx l0_2 aA).f1.f1).length aW), (.slice (some ar) ((qAx l0_2 aA).f1.f2).length aa)] 92 (0, 0))) ∧ qAj (wc.heap[aJ]? = some (.cells #[.int .i64 ((qAH ((qAx l0_2 aA).f1.f2) aC).f0), .int .i64 ((qAH ((qAx l0_2 aA).f1.f2) aC).f1), .int .i64 ((qAH ((qAx l0_2 aA).f1.f2) aC).f2.f0), .int .u64 ((qAH ((qAx l0_2 aA).f1.f2) aC).f2.f1)] 144 (0, 0))) ∧ qAj (Below w.heap.size w wc))
     case first =>
      have H := bV.o
      clear bV
      by_cases bw : ((qAH ((qAx l0_2 aA).f1.f2) aC).f0) = 4
      rotate_left
      ·rw [if_neg bw] at H
       have au : (((qAH ((qAx l0_2 aA).f1.f2) aC).f0) == 4) = false := bf bw
       (rw [au])
       have H' := am H
       clear H
       go_wp2
       go_meet
       case rel => exact ⟨_, (((qAH ((qAx l0_2 aA).f1.f2) aC).f0) == 5), (by rfl), H', ⟨by have := ax.o; have := ay.o; (omega)⟩, ⟨by exact Kd.R_mono (Kd.R_far (p := ⟨aJ, 3, none⟩) (Kd.R_far (p := ⟨aJ, 2, none⟩) (Kd.R_far (p := ⟨aJ, 1, none⟩) (Kd.R_far (p := ⟨aJ, 0, none⟩) (Kd.R_types aM.o aK.o (by decide)) (fun _ hk => hk.2) (.int .i64 ((qAH ((qAx l0_2 aA).f1.f2) aC).f0))) (fun _ hk => hk.2) (.int .i64 ((qAH ((qAx l0_2 aA).f1.f2) aC).f1))) (fun _ hk => hk.2) (.int .i64 ((qAH ((qAx l0_2 aA).f1.f2) aC).f2.f0))) (fun _ hk => hk.2) (.int .u64 ((qAH ((qAx l0_2 aA).f1.f2) aC).f2.f1))) (fun _ hk => trivial)⟩, ⟨by refine qA1 ?_ aG.o _; refine qA1 ?_ aG.o _; refine qA1 ?_ aG.o _; refine qA1 ?_ aG.o _; exact aD.o⟩, ⟨by refine qA1 ?_ aH.o _; refine qA1 ?_ aH.o _; refine qA1 ?_ aH.o _; refine qA1 ?_ aH.o _; exact aE.o⟩, ⟨by refine qA6 (cs := #[.int .i64 ((qAH ((qAx l0_2 aA).f1.f2) aC).f0), .int .i64 ((qAH ((qAx l0_2 aA).f1.f2) aC).f1), .int .i64 ((qAH ((qAx l0_2 aA).f1.f2) aC).f2.f0), .int .u64 0]) ?_ 3 _ rfl; refine qA6 (cs := #[.int .i64 ((qAH ((qAx l0_2 aA).f1.f2) aC).f0), .int .i64 ((qAH ((qAx l0_2 aA).f1.f2) aC).f1), .int .i64 0, .int .u64 0]) ?_ 2 _ rfl; refine qA6 (cs := #[.int .i64 ((qAH ((qAx l0_2 aA).f1.f2) aC).f0), .int .i64 0, .int .i64 0, .int .u64 0]) ?_ 1 _ rfl; refine qA6 (cs := #[.int .i64 0, .int .i64 0, .int .i64 0, .int .u64 0]) ?_ 0 _ rfl; exact aK.o⟩, ⟨by repeat (with_reducible first | exact HB.o | refine qAb ?_ bT.o)⟩⟩
      rw [if_pos bw] at H
      have au : (((qAH ((qAx l0_2 aA).f1.f2) aC).f0) == 4) = true := beq_iff_eq.mpr bw
      clear bw
      (rw [au])
      have H' := am H
      clear H
      go_wp2
      go_meet
      case rel => exact ⟨_, (((qAH ((qAx l0_2 aA).f1.f2) aC).f0) == 4), (by (simp [*]; done)), H', ⟨by have := ax.o; have := ay.o; (omega)⟩, ⟨by exact Kd.R_mono (Kd.R_far (p := ⟨aJ, 3, none⟩) (Kd.R_far (p := ⟨aJ, 2, none⟩) (Kd.R_far (p := ⟨aJ, 1, none⟩) (Kd.R_far (p := ⟨aJ, 0, none⟩) (Kd.R_types aM.o aK.o (by decide)) (fun _ hk => hk.2) (.int .i64 ((qAH ((qAx l0_2 aA).f1.f2) aC).f0))) (fun _ hk => hk.2) (.int .i64 ((qAH ((qAx l0_2 aA).f1.f2) aC).f1))) (fun _ hk => hk.2) (.int .i64 ((qAH ((qAx l0_2 aA).f1.f2) aC).f2.f0))) (fun _ hk => hk.2) (.int .u64 ((qAH ((qAx l0_2 aA).f1.f2) aC).f2.f1))) (fun _ hk => trivial)⟩, ⟨by refine qA1 ?_ aG.o _; refine qA1 ?_ aG.o _; refine qA1 ?_ aG.o _; refine qA1 ?_ aG.o _; exact aD.o⟩, ⟨by refine qA1 ?_ aH.o _; refine qA1 ?_ aH.o _; refine qA1 ?_ aH.o _; refine qA1 ?_ aH.o _; exact aE.o⟩, ⟨by refine qA6 (cs := #[.int .i64 ((qAH ((qAx l0_2 aA).f1.f2) aC).f0), .int .i64 ((qAH ((qAx l0_2 aA).f1.f2) aC).f1), .int .i64 ((qAH ((qAx l0_2 aA).f1.f2) aC).f2.f0), .int .u64 0]) ?_ 3 _ rfl; refine qA6 (cs := #[.int .i64 ((qAH ((qAx l0_2 aA).f1.f2) aC).f0), .int .i64 ((qAH ((qAx l0_2 aA).f1.f2) aC).f1), .int .i64 0, .int .u64 0]) ?_ 2 _ rfl; refine qA6 (cs := #[.int .i64 ((qAH ((qAx l0_2 aA).f1.f2) aC).f0), .int .i64 0, .int .i64 0, .int .u64 0]) ?_ 1 _ rfl; refine qA6 (cs := #[.int .i64 0, .int .i64 0, .int .i64 0, .int .u64 0]) ?_ 0 _ rfl; exact aK.o⟩, ⟨by repeat (with_reducible first | exact HB.o | refine qAb ?_ bT.o)⟩⟩
     case rest =>
      clear bV
      obtain ⟨kq, ag, rfl, HA, an, aM, aD, aE, aK, HB⟩ := hcut
      cases kq with
      | zero => exact absurd HA.o (by simp [qA0.j2])
      | succ ah =>
       have H := HA.o
       clear HA
       simp only [qA0.j2] at H
       by_cases cF : ag = true
       ·subst cF
        replace H : (if aQ.length < 2513169434916 then (qA0.l1 ah (aQ ++ [(⟨aA, aC, 1, (⟨#[]⟩ : ByteArray), (⟨#[]⟩ : ByteArray)⟩ : S104)]) aA l0_2 (l0_2.length : Int) aA ((qAx l0_2 aA).f1.f2) (((qAx l0_2 aA).f1.f2).length : Int) (wrap64 (aC + 1))) else (none)) = some r := by rw [if_pos rfl] at H; exact H
        obtain ⟨cG, H⟩ := gd H
        have bo := am cG
        clear cG
        obtain ⟨cB, av⟩ : ∃ y_ : List (S104), y_ = (aQ ++ [(⟨aA, aC, 1, (⟨#[]⟩ : ByteArray), (⟨#[]⟩ : ByteArray)⟩ : S104)]) := ⟨_, rfl⟩
        replace H : (qA0.l1 ah cB aA l0_2 (l0_2.length : Int) aA ((qAx l0_2 aA).f1.f2) (((qAx l0_2 aA).f1.f2).length : Int) (wrap64 (aC + 1))) = some r := by (rw [av]; with_reducible exact H)
        have bq := am av
        clear av
        have H' := am H
        clear H
        go_wp2_with ((with_reducible refine qBE (b := .append) (xs := #[.tmp 30, .tmp 34]) rfl ?_); at_builtin; refine Kd.R_append k104 (w0 := w) w.heap.size rfl (.tmp 30) (.tmp 34) 31 104 (.agg #[(.int .i64 0), (.int .i64 0), (.int .i64 0), (.string ⟨#[]⟩), (.string ⟨#[]⟩)]) 56 rfl Tryz.underlying31 info104 rfl (by decide) (by omega) u3 aQ (⟨aA, aC, 1, (⟨#[]⟩ : ByteArray), (⟨#[]⟩ : ByteArray)⟩ : S104) [.int .i64 aA, .int .i64 aC, .int .i64 1, .string ⟨#[]⟩, .string ⟨#[]⟩] (fun _ => True) (fun _ => False) rfl rfl ?aP (fun _ hk => hk.elim) ?aF ?aO ?aB ?aS ?aL ?_; (case aP => exact qE1 _ _ _ (⟨aA, aC, 1, (⟨#[]⟩ : ByteArray), (⟨#[]⟩ : ByteArray)⟩ : S104)); (case aB => exact HB.o); (case aF => exact (fun _ _ => trivial)); (case aO => exact aM.o); (case aS => exact (qAs HB.o)); (case aL => have := bo.o; omega); intro cR cX ho hb hg cN; rw [← bq.o] at ho; have n_ := a2 (qAP (g := aU) (o := .cells #[.string a0_0, .slice ab l0_1.length ad, .slice (some ak) l0_2.length ae, .slice ac l0_3.length af] 33 (0, 0)) aD.o hg (Kd.R_ne aM.o aD.o (by decide))) (a2 (qAP (g := aI) (o := .cells #[.string ((qAx l0_2 aA).f0), .slice aR ((qAx l0_2 aA).f1.f0.f0).length aT, .int .i64 ((qAx l0_2 aA).f1.f0.f1), .slice aV ((qAx l0_2 aA).f1.f1).length aW, .slice (some ar) ((qAx l0_2 aA).f1.f2).length aa] 92 (0, 0)) aE.o hg (Kd.R_ne aM.o aE.o (by decide))) (a2 (hb) (am (ho)))); clear aD aE aK HB aM; obtain ⟨aD, aE, HB, bj⟩ := n_; clear ho hb hg cN)
        go_roundg ah
        case measure => have := ax.o; have := ay.o; have := an.o; omega
        case rel => exact ⟨(cB), (wrap64 (aC + 1)), (by rfl), H', ⟨by have := ax.o; have := ay.o; have := an.o; omega⟩, ⟨by exact bj.o⟩, ⟨by exact aD.o⟩, ⟨by exact aE.o⟩, ⟨by exact HB.o⟩⟩
       replace cF := Bool.eq_false_iff.mpr cF
       subst cF
       replace H : (if ((qAH ((qAx l0_2 aA).f1.f2) aC).f0) = 10 then (if aQ.length < 2513169434916 then (qA0.l1 ah (aQ ++ [(⟨aA, aC, 2, (⟨#[]⟩ : ByteArray), (⟨#[]⟩ : ByteArray)⟩ : S104)]) aA l0_2 (l0_2.length : Int) aA ((qAx l0_2 aA).f1.f2) (((qAx l0_2 aA).f1.f2).length : Int) (wrap64 (aC + 1))) else (none)) else (qA0.l1 ah aQ aA l0_2 (l0_2.length : Int) aA ((qAx l0_2 aA).f1.f2) (((qAx l0_2 aA).f1.f2).length : Int) (wrap64 (aC + 1)))) = some r := by rw [if_neg (show ¬ (false = true) by decide)] at H; exact H
       by_cases bh : ((qAH ((qAx l0_2 aA).f1.f2) aC).f0) = 10
       rotate_left
       ·rw [if_neg bh] at H
        have bz : (((qAH ((qAx l0_2 aA).f1.f2) aC).f0) == 10) = false := bf bh
        have H' := am H
        clear H
        go_wp2
        go_roundg ah
        case measure => have := ax.o; have := ay.o; have := an.o; omega
        case rel => exact ⟨(aQ), (wrap64 (aC + 1)), (by rfl), H', ⟨by have := ax.o; have := ay.o; have := an.o; omega⟩, ⟨by exact aM.o⟩, ⟨by exact aD.o⟩, ⟨by exact aE.o⟩, ⟨by exact HB.o⟩⟩
       rw [if_pos bh] at H
       have bz : (((qAH ((qAx l0_2 aA).f1.f2) aC).f0) == 10) = true := beq_iff_eq.mpr bh
       have cP : (((qAH ((qAx l0_2 aA).f1.f2) aC).f0) != 10) = false := bn bh
       clear bh
       obtain ⟨cH, H⟩ := gd H
       have bp := am cH
       clear cH
       obtain ⟨cC, aw⟩ : ∃ y_ : List (S104), y_ = (aQ ++ [(⟨aA, aC, 2, (⟨#[]⟩ : ByteArray), (⟨#[]⟩ : ByteArray)⟩ : S104)]) := ⟨_, rfl⟩
       replace H : (qA0.l1 ah cC aA l0_2 (l0_2.length : Int) aA ((qAx l0_2 aA).f1.f2) (((qAx l0_2 aA).f1.f2).length : Int) (wrap64 (aC + 1))) = some r := by (rw [aw]; with_reducible exact H)
       have br := am aw
       clear aw
       have H' := am H
       clear H
       go_wp2_with ((with_reducible refine qBE (b := .append) (xs := #[.tmp 38, .tmp 42]) rfl ?_); at_builtin; refine Kd.R_append k104 (w0 := w) w.heap.size rfl (.tmp 38) (.tmp 42) 31 104 (.agg #[(.int .i64 0), (.int .i64 0), (.int .i64 0), (.string ⟨#[]⟩), (.string ⟨#[]⟩)]) 56 rfl Tryz.underlying31 info104 rfl (by decide) (by omega) u3 aQ (⟨aA, aC, 2, (⟨#[]⟩ : ByteArray), (⟨#[]⟩ : ByteArray)⟩ : S104) [.int .i64 aA, .int .i64 aC, .int .i64 2, .string ⟨#[]⟩, .string ⟨#[]⟩] (fun _ => True) (fun _ => False) rfl rfl ?aP (fun _ hk => hk.elim) ?aF ?aO ?aB ?aS ?aL ?_; (case aP => exact qE1 _ _ _ (⟨aA, aC, 2, (⟨#[]⟩ : ByteArray), (⟨#[]⟩ : ByteArray)⟩ : S104)); (case aB => exact HB.o); (case aF => exact (fun _ _ => trivial)); (case aO => exact aM.o); (case aS => exact (qAs HB.o)); (case aL => have := bp.o; omega); intro cS cY ho hb hg cN; rw [← br.o] at ho; have n_ := a2 (qAP (g := aU) (o := .cells #[.string a0_0, .slice ab l0_1.length ad, .slice (some ak) l0_2.length ae, .slice ac l0_3.length af] 33 (0, 0)) aD.o hg (Kd.R_ne aM.o aD.o (by decide))) (a2 (qAP (g := aI) (o := .cells #[.string ((qAx l0_2 aA).f0), .slice aR ((qAx l0_2 aA).f1.f0.f0).length aT, .int .i64 ((qAx l0_2 aA).f1.f0.f1), .slice aV ((qAx l0_2 aA).f1.f1).length aW, .slice (some ar) ((qAx l0_2 aA).f1.f2).length aa] 92 (0, 0)) aE.o hg (Kd.R_ne aM.o aE.o (by decide))) (a2 (hb) (am (ho)))); clear aD aE aK HB aM; obtain ⟨aD, aE, HB, bk⟩ := n_; clear ho hb hg cN)
       go_roundg ah
       case measure => have := ax.o; have := ay.o; have := an.o; omega
       case rel => exact ⟨(cC), (wrap64 (aC + 1)), (by rfl), H', ⟨by have := ax.o; have := ay.o; have := an.o; omega⟩, ⟨by exact bk.o⟩, ⟨by exact aD.o⟩, ⟨by exact aE.o⟩, ⟨by exact HB.o⟩⟩
def qA5.l0 : Nat → List ByteArray → ByteArray → Int → Int → Option (Int)
 | 0, _, _, _, _ => none
 | k + 1, x0, x1, x7, x8 => if x8 < x7 then (if 0 ≤ x8 then (if x8 < (x0.length : Int) then (if x1.toList = (rdOf ByteArray.empty x0 x8).toList then (some x8) else (qA5.l0 k x0 x1 x7 (wrap64 (x8 + 1)))) else (none)) else (none)) else (some (-1))
def qA5.f (k : Nat) (l0 : List ByteArray) (a1 : ByteArray) : Option (Int) := qA5.l0 k l0 a1 (l0.length : Int) 0
theorem qA5.calls (k : Nat) (A0 : Option Addr) (c0 : Nat) (l0 : List ByteArray) (a1 : ByteArray) (r : Int) (w : World) (hr0 : Kd.C Kd.string w A0 l0.length l0) (hc0 : l0.length ≤ c0) (h : qA5.f k l0 a1 = some r) :
  Calls Tryz.prog 146 #[.slice A0 l0.length c0, .string a1] w fun e w' => e = .returned (.int .i64 r) ∧ qAW w w' := by
 have aJ := am hr0
 clear hr0 hc0
 have H : (qA5.l0 k l0 a1 (l0.length : Int) 0) = some r := h
 clear h
 have H' := am H
 clear H
 go_enter Tryz.func146, Tryz.ntmps146
 go_wp2
 go_loopg [8] k (fun kq v8 w' => ∃ (aA : Int), v8 = .int .i64 aA ∧ qAj (qA5.l0 kq l0 a1 (l0.length : Int) aA = some r) ∧ qAj (kq ≤ k) ∧ qAW w w')
 case atStart => exact ⟨(0), (by rfl), H', ⟨Nat.le_refl _⟩, by exact qAW.refl _⟩
 case round =>
  clear H'
  obtain ⟨aA, rfl, HA, aI, ⟨m1, rfl⟩⟩ := hrel
  cases gk with
  | zero => exact absurd HA.o (by simp [qA5.l0])
  | succ k1 =>
   have H := HA.o
   clear HA
   simp only [qA5.l0] at H
   by_cases c3 : aA < (l0.length : Int)
   rotate_left
   ·rw [if_neg c3] at H
    replace c3 := d0 c3
    obtain rfl := Option.some.inj H
    go_wp2
    go_ret
    exact ⟨by rfl, by repeat (first | exact qAW.refl _ | apply qAW.step)⟩
   rw [if_pos c3] at H
   replace c3 := d1 c3
   obtain ⟨c4, H⟩ := gd H
   replace c4 := d1 c4
   obtain ⟨c5, H⟩ := gd H
   replace c5 := d1 c5
   by_cases c6 : a1.toList = (rdOf ByteArray.empty l0 aA).toList
   ·rw [if_pos c6] at H
    have aH : (a1.toList == (rdOf ByteArray.empty l0 aA).toList) = true := beq_iff_eq.mpr c6
    clear c6
    obtain rfl := Option.some.inj H
    have aB : 0 ≤ aA := od (by assumption)
    have aC : aA < (l0.length : Int) := od (by assumption)
    obtain ⟨aF, aE, aD⟩ := Kd.at_string aJ.o aA aB aC
    cases aE
    replace aB := eq_true aB
    replace aC := eq_true aC
    go_wp2
    go_ret
    exact ⟨by rfl, by repeat (first | exact qAW.refl _ | apply qAW.step)⟩
   rw [if_neg c6] at H
   have aH : (a1.toList == (rdOf ByteArray.empty l0 aA).toList) = false := bf c6
   have H' := am H
   clear H
   have aB : 0 ≤ aA := od (by assumption)
   have aC : aA < (l0.length : Int) := od (by assumption)
   obtain ⟨aF, aE, aD⟩ := Kd.at_string aJ.o aA aB aC
   cases aE
   replace aB := eq_true aB
   replace aC := eq_true aC
   go_wp2
   go_roundg k1
   case measure => have := aI.o; omega
   case rel => exact ⟨(wrap64 (aA + 1)), (by rfl), H', ⟨by have := aI.o; omega⟩, by repeat (first | exact qAW.refl _ | apply qAW.step)⟩
def qAF.f (k : Nat) (l0 : List ByteArray) (a1 : ByteArray) : Option (Bool) := (qA5.f k l0 a1).bind fun aA => (some (decide (aA ≥ 0)))
theorem qAF.calls (k : Nat) (A0 : Option Addr) (c0 : Nat) (l0 : List ByteArray) (a1 : ByteArray) (r : Bool) (w : World) (hr0 : Kd.C Kd.string w A0 l0.length l0) (hc0 : l0.length ≤ c0) (h : qAF.f k l0 a1 = some r) :
  Calls Tryz.prog 92 #[.slice A0 l0.length c0, .string a1] w fun e w' => e = .returned (.bool r) ∧ qAW w w' := by
 have aD := am hr0
 have aC := am hc0
 clear hr0 hc0
 have H : ((qA5.f k l0 a1).bind fun aA => (some (decide (aA ≥ 0)))) = some r := h
 clear h
 replace H := bm H
 obtain ⟨aA, aB, H⟩ := H
 replace H : (some (decide (aA ≥ 0))) = some r := H
 have A3 := am aB
 clear aB
 obtain rfl := Option.some.inj H
 go_enter Tryz.func92, Tryz.ntmps92
 go_wp2_with ((with_reducible refine qAv (f := 146) rfl ?_); refine gL 7 Tryz.func146 #[.slice A0 l0.length c0, .string a1] ?_; (with_reducible refine (qA5.calls k _ _ l0 a1 aA _ ?side1 ?side2 A3.o).mono ?_); (case side1 => exact aD.o); (case side2 => exact aC.o); rintro e w' ⟨rfl, ⟨nd, rfl⟩⟩; refine ⟨_, rfl, ?_⟩)
 go_ret
 exact ⟨by rfl, by repeat (first | exact qAW.refl _ | apply qAW.step)⟩
end Q
end
section
namespace Q
open Go.RowKit PA PC PB
theorem qBr {i : Int} {n : Nat} (h0 : 0 ≤ i) (h : i < n) (hn : n ≤ 4611686018427387904) : wrap64 (i + 1) = i + 1 := by unfold wrap64; omega
theorem qAS {α : Type} (l : List α) (d : α) (i : Int) (h0 : 0 ≤ i) (h : i < l.length) : l.drop i.toNat = l.getD i.toNat d :: l.drop (i + 1).toNat := by
 rw [show (i + 1).toNat = i.toNat + 1 from by omega, List.drop_eq_getElem_cons (by omega), List.getD_eq_getElem?_getD, List.getElem?_eq_getElem (by omega)]; rfl
def hasB (l : List ByteArray) (s : ByteArray) : Bool := l.any fun x => s.toList == x.toList
theorem index_ev (l : List ByteArray) (s : ByteArray) (hl : l.length ≤ 4611686018427387904) : ∀ (d : Nat) (i : Int), 0 ≤ i → (l.length : Int) - i = d →
  ∃ r, Ev (fun k => qA5.l0 k l s (l.length : Int) i) r ∧ (0 ≤ r ↔ hasB (l.drop i.toNat) s = true) := by
 intro d
 induction d with
 | zero =>
  intro i h0 hd
  refine ⟨-1, Ev.step (f := fun _ => some (-1)) (fun k => ?_) (Ev.now _), ?_⟩
  ·simp only [qA5.l0]; rw [if_neg (by omega)]
  rw [List.drop_eq_nil_of_le (by omega)]; simp [hasB]
 | succ d ih =>
  intro i h0 hd
  have hc := qAS l ByteArray.empty i h0 (by omega)
  by_cases he : s.toList = (rdOf ByteArray.empty l i).toList
  ·refine ⟨i, Ev.step (f := fun _ => some i) (fun k => ?_) (Ev.now _), ?_⟩
   ·simp only [qA5.l0]; rw [if_pos (by omega), if_pos h0, if_pos (by omega), if_pos he]
   rw [hc]
   simp [hasB, h0]
   exact .inl he
  obtain ⟨r, hr, hq⟩ := ih (i + 1) (by omega) (by omega)
  refine ⟨r, Ev.step (f := fun k => qA5.l0 k l s (l.length : Int) (i + 1)) (fun k => ?_) hr, ?_⟩
  ·simp only [qA5.l0]; rw [if_pos (by omega), if_pos h0, if_pos (by omega), if_neg he, qBr (n := l.length) h0 (by omega) hl]
  rw [hq, hc]
  have he' : (s.toList == (l.getD i.toNat ByteArray.empty).toList) = false := beq_eq_false_iff_ne.mpr he
  simp only [hasB, List.any_cons, he', Bool.false_or]
theorem qD5 (l : List ByteArray) (s : ByteArray) (hl : l.length ≤ 4611686018427387904) : Ev (fun k => qAF.f k l s) (hasB l s) := by
 obtain ⟨r, hr, hq⟩ := index_ev l s hl l.length 0 (by omega) (by omega)
 have : hasB l s = decide (r ≥ 0) := by
  rw [show l.drop (0 : Int).toNat = l from rfl] at hq
  cases h : hasB l s with
  | true => exact (decide_eq_true (hq.2 h)).symm
  | false => exact (decide_eq_false (fun hh => by have := hq.1 hh; rw [h] at this; cases this)).symm
 rw [this]
 exact Ev.congr (f := fun k => (qA5.l0 k l s (l.length : Int) 0).bind fun t => some (decide (t ≥ 0))) (fun k => rfl) (Ev.bind hr (Ev.now _))
def qCc (f i : Int) (x : S144) : List S104 := if x.f0 = 4 ∨ x.f0 = 5 then [⟨f, i, 1, ⟨#[]⟩, ⟨#[]⟩⟩] else if x.f0 = 10 then [⟨f, i, 2, ⟨#[]⟩, ⟨#[]⟩⟩] else []
def qCW (f : Int) : Int → List S144 → List S104
 | _, [] => []
 | i, x :: xs => qCc f i x ++ qCW f (i + 1) xs
def fnsP : Int → List S92 → List S104
 | _, [] => []
 | i, x :: xs => qCW i 0 x.f1.f2 ++ fnsP (i + 1) xs
def qBw (fns : List S92) : List S104 := fnsP 0 fns
theorem qEQ (f i : Int) (x : S144) : (qCc f i x).length ≤ 1 := by unfold qCc; (repeat' split) <;> simp
theorem qEC (f : Int) : ∀ (l : List S144) (i : Int), (qCW f i l).length ≤ l.length
 | [], _ => Nat.le_refl _
 | x :: xs, i => by
  have := qEC f xs (i + 1)
  have := qEQ f i x
  simp only [qCW, List.length_append, List.length_cons]; omega
theorem fnsP_len : ∀ (l : List S92) (i : Int), (∀ x ∈ l, x.f1.f2.length ≤ 4096) → (fnsP i l).length ≤ l.length * 4096
 | [], _, _ => Nat.zero_le _
 | x :: xs, i, h => by
  have h1 := fnsP_len xs (i + 1) fun y hy => h y (List.mem_cons_of_mem _ hy)
  have h2 := qEC i x.f1.f2 0
  have h3 := h x List.mem_cons_self
  simp only [fnsP, List.length_append, List.length_cons]; omega
theorem code_ev (f : Int) (x9 : List S92) (x10 : Int) (l : List S144) (hl : l.length ≤ 4096) (r : List S104) : ∀ (d : Nat) (i : Int) (acc : List S104), 0 ≤ i → (l.length : Int) - i = d → acc.length + d < 2513169434916 →
  Ev (fun k => qA0.l0 k (acc ++ qCW f i (l.drop i.toNat)) x9 x10 (wrap64 (f + 1))) r → Ev (fun k => qA0.l1 k acc f x9 x10 f l (l.length : Int) i) r := by
 intro d
 induction d with
 | zero =>
  intro i acc h0 hd ha h
  rw [List.drop_eq_nil_of_le (by omega)] at h
  simp only [qCW, List.append_nil] at h
  refine Ev.step (fun k => ?_) h
  simp only [qA0.l1]; rw [if_neg (by omega)]
 | succ d ih =>
  intro i acc h0 hd ha h
  have hc := qAS l z144 i h0 (by omega)
  have hx : qAH l i = l.getD i.toNat z144 := rfl
  rw [hc, ← hx] at h
  simp only [qCW] at h
  rw [← List.append_assoc] at h
  have hw := qBr (n := l.length) h0 (by omega) (by omega)
  have hrec := ih (i + 1) (acc ++ qCc f i (qAH l i)) (by omega) (by omega) (by have := qEQ f i (qAH l i); rw [List.length_append]; omega) h
  by_cases h4 : (qAH l i).f0 = 4
  ·refine Ev.step (f := fun k => qA0.j2 k acc f i x9 x10 f l (l.length : Int) i (qAH l i).f0 ((qAH l i).f0 == 4)) (fun k => ?_) (Ev.step (fun k => ?_) hrec)
   ·simp only [qA0.l1]; rw [if_pos (by omega), if_pos h0, if_pos (by omega), if_pos h4]
   simp only [qA0.j2]; rw [if_pos (beq_iff_eq.mpr h4), if_pos (by omega), hw, show qCc f i (qAH l i) = [⟨f, i, 1, ⟨#[]⟩, ⟨#[]⟩⟩] from if_pos (.inl h4)]
  by_cases h5 : (qAH l i).f0 = 5
  ·refine Ev.step (f := fun k => qA0.j2 k acc f i x9 x10 f l (l.length : Int) i (qAH l i).f0 ((qAH l i).f0 == 5)) (fun k => ?_) (Ev.step (fun k => ?_) hrec)
   ·simp only [qA0.l1]; rw [if_pos (by omega), if_pos h0, if_pos (by omega), if_neg h4]
   simp only [qA0.j2]; rw [if_pos (beq_iff_eq.mpr h5), if_pos (by omega), hw, show qCc f i (qAH l i) = [⟨f, i, 1, ⟨#[]⟩, ⟨#[]⟩⟩] from if_pos (.inr h5)]
  have hno : ¬ ((qAH l i).f0 = 4 ∨ (qAH l i).f0 = 5) := by omega
  have hb : ¬ ((qAH l i).f0 == 5) = true := by simp [h5]
  by_cases h10 : (qAH l i).f0 = 10
  rotate_left
  ·refine Ev.step (f := fun k => qA0.j2 k acc f i x9 x10 f l (l.length : Int) i (qAH l i).f0 ((qAH l i).f0 == 5)) (fun k => ?_) (Ev.step (fun k => ?_) hrec)
   ·simp only [qA0.l1]; rw [if_pos (by omega), if_pos h0, if_pos (by omega), if_neg h4]
   simp only [qA0.j2]; rw [if_neg hb, if_neg h10, hw, show qCc f i (qAH l i) = [] from (if_neg hno).trans (if_neg h10), List.append_nil]
  refine Ev.step (f := fun k => qA0.j2 k acc f i x9 x10 f l (l.length : Int) i (qAH l i).f0 ((qAH l i).f0 == 5)) (fun k => ?_) (Ev.step (fun k => ?_) hrec)
  ·simp only [qA0.l1]; rw [if_pos (by omega), if_pos h0, if_pos (by omega), if_neg h4]
  simp only [qA0.j2]; rw [if_neg hb, if_pos h10, if_pos (by omega), hw, show qCc f i (qAH l i) = [⟨f, i, 2, ⟨#[]⟩, ⟨#[]⟩⟩] from (if_neg hno).trans (if_pos h10)]
theorem fns_ev (fns : List S92) (hl : fns.length ≤ 64) (h4 : ∀ x ∈ fns, x.f1.f2.length ≤ 4096) : ∀ (d : Nat) (i : Int) (acc : List S104), 0 ≤ i → (fns.length : Int) - i = d → acc.length + d * 4096 < 2513169434916 →
  Ev (fun k => qA0.l0 k acc fns (fns.length : Int) i) (acc ++ fnsP i (fns.drop i.toNat)) := by
 intro d
 induction d with
 | zero =>
  intro i acc h0 hd ha
  rw [List.drop_eq_nil_of_le (by omega)]
  simp only [fnsP, List.append_nil]
  refine Ev.step (f := fun _ => some acc) (fun k => ?_) (Ev.now _)
  simp only [qA0.l0]; rw [if_neg (by omega)]
 | succ d ih =>
  intro i acc h0 hd ha
  have hc := qAS fns z92 i h0 (by omega)
  have hx : qAx fns i = fns.getD i.toNat z92 := rfl
  rw [hc, ← hx]
  simp only [fnsP]
  rw [← List.append_assoc]
  have hw := qBr (n := fns.length) h0 (by omega) (by omega)
  have hm : qAx fns i ∈ fns := by
   have : i.toNat < fns.length := by omega
   rw [hx, List.getD_eq_getElem?_getD, List.getElem?_eq_getElem this]; exact List.getElem_mem _
  have h4' := h4 _ hm
  have hlen := qEC i (qAx fns i).f1.f2 0
  refine Ev.step (f := fun k => qA0.l1 k acc i fns (fns.length : Int) i (qAx fns i).f1.f2 ((qAx fns i).f1.f2.length : Int) 0) (fun k => ?_) (code_ev i fns _ _ h4' _ (qAx fns i).f1.f2.length 0 acc (by omega) (by omega) (by omega) ?_)
  ·simp only [qA0.l0]; rw [if_pos (by omega), if_pos h0, if_pos (by omega)]
  rw [hw]
  exact ih (i + 1) _ (by omega) (by omega) (by rw [List.length_append]; simp only [show ((0 : Int).toNat) = 0 from rfl, List.drop_zero]; omega)
theorem places_ev (a : ByteArray) (l1 : List S85) (fns : List S92) (l3 : List S104) (hl : fns.length ≤ 64) (h4 : ∀ x ∈ fns, x.f1.f2.length ≤ 4096) : Ev (fun k => qA0.f k a l1 fns l3) (qBw fns) :=
 fns_ev fns hl h4 fns.length 0 [] (by omega) (by omega) (by simp; omega)
theorem placeOf_in {f i : Int} {x : S144} {p : S104} (h : p ∈ qCc f i x) : p.f0 = f ∧ p.f1 = i := by
 unfold qCc at h
 (repeat' split at h) <;> simp at h <;> subst h <;> exact ⟨rfl, rfl⟩
theorem codeP_in (f : Int) : ∀ (l : List S144) (i : Int) (p : S104), p ∈ qCW f i l → p.f0 = f ∧ i ≤ p.f1 ∧ p.f1 < i + l.length
 | [], _, _, h => by simp [qCW] at h
 | x :: xs, i, p, h => by
  simp only [qCW, List.mem_append] at h
  rcases h with h | h
  ·obtain ⟨h1, h2⟩ := placeOf_in h
   exact ⟨h1, by omega, by simp only [List.length_cons]; omega⟩
  obtain ⟨h1, h2, h3⟩ := codeP_in f xs (i + 1) p h
  exact ⟨h1, by omega, by simp only [List.length_cons]; omega⟩
theorem fnsP_in : ∀ (l : List S92) (i : Int) (p : S104), p ∈ fnsP i l → ∃ (j : Nat) (x : S92), l[j]? = some x ∧ p.f0 = i + j ∧ 0 ≤ p.f1 ∧ p.f1 < x.f1.f2.length
 | [], _, _, h => by simp [fnsP] at h
 | x :: xs, i, p, h => by
  simp only [fnsP, List.mem_append] at h
  rcases h with h | h
  ·obtain ⟨h1, h2, h3⟩ := codeP_in i _ 0 p h
   exact ⟨0, x, rfl, by simpa using h1, h2, by omega⟩
  obtain ⟨j, y, hj, h1, h2, h3⟩ := fnsP_in xs (i + 1) p h
  exact ⟨j + 1, y, by simpa using hj, by omega, h2, h3⟩
end Q
end
section
namespace Q
open Go.RowKit PA PC PB
open Val Ins
def qBp : List S104 → Int
 | [] => 0
 | r :: rs => if Names.nameE r.f3 ≠ 0 then Names.nameE r.f3 else if Names.nameE r.f4 ≠ 0 then Names.nameE r.f4 else qBp rs
def qCj (m : ByteArray) (vs fs : List ByteArray) (r : S104) : Bool :=
 if r.f3.toList = m.toList then (if r.f2 = 1 then !hasB vs r.f4 else if r.f2 = 2 then !hasB fs r.f4 else false) else decide (r.f2 = 1)
def qCG (m : ByteArray) (fns : List S92) (rs : List S104) (vs fs : List ByteArray) : Int :=
 if qB8 rs (qBw fns) = false then 52 else if ((qBw fns).any fun p => qCi fns p != 0) = true then 52
 else if qBp rs ≠ 0 then qBp rs else if rs.any (qCj m vs fs) = true then 52 else 0
theorem relNames_step (l : List S104) (k : Nat) (x : S104) (hx : l[k]? = some x) (h : Names.nameE x.f3 = 0) (h2 : Names.nameE x.f4 = 0) : qBp (l.drop k) = qBp (l.drop (k + 1)) := by
 obtain ⟨hk, he⟩ := List.getElem?_eq_some_iff.1 hx
 rw [List.drop_eq_getElem_cons hk, he]
 simp only [qBp, h, h2, ne_eq, not_true_eq_false, if_false]
theorem relNames_hit1 (l : List S104) (k : Nat) (x : S104) (hx : l[k]? = some x) (h : Names.nameE x.f3 ≠ 0) : qBp (l.drop k) = Names.nameE x.f3 := by
 obtain ⟨hk, he⟩ := List.getElem?_eq_some_iff.1 hx
 rw [List.drop_eq_getElem_cons hk, he]
 simp only [qBp]; rw [if_pos h]
theorem relNames_hit2 (l : List S104) (k : Nat) (x : S104) (hx : l[k]? = some x) (h : Names.nameE x.f3 = 0) (h2 : Names.nameE x.f4 ≠ 0) : qBp (l.drop k) = Names.nameE x.f4 := by
 obtain ⟨hk, he⟩ := List.getElem?_eq_some_iff.1 hx
 rw [List.drop_eq_getElem_cons hk, he]
 simp only [qBp]; rw [if_neg (by simp [h]), if_pos h2]
theorem relNames_end (l : List S104) (k : Nat) (hk : l.length ≤ k) : qBp (l.drop k) = 0 := by rw [List.drop_eq_nil_of_le hk]; rfl
theorem rd_in {α : Type} (l : List α) (d : α) (j : Nat) (x : α) (h : l[j]? = some x) : l.getD j d = x := by rw [List.getD_eq_getElem?_getD, h]; rfl
theorem placesL_in (fns : List S92) : ∀ p ∈ qBw fns, placeIn fns p := by
 intro p hp
 obtain ⟨j, x, hj, h1, h2, h3⟩ := fnsP_in fns 0 p hp
 have hr : qAx fns p.f0 = x := by
  unfold qAx
  rw [show p.f0.toNat = j from by omega]; exact rd_in _ _ _ _ hj
 exact ⟨by omega, by have := (List.getElem?_eq_some_iff.1 hj).1; omega, h2, by rw [hr]; exact h3⟩
def qB4.f (a0_0 : ByteArray) (_l0_1 : List (S85)) (l0_2 : List (S92)) (l0_3 : List (S104)) (l1 : List ByteArray) (l2 : List ByteArray) : Option (Int) :=
 if l0_2.length ≤ 64 ∧ (∀ x ∈ l0_2, x.f1.f2.length ≤ 4096) ∧ l0_3.length ≤ 4611686018427387904 ∧ (∀ r ∈ l0_3, r.f3.size ≤ 140737488351232 ∧ r.f4.size ≤ 140737488351232) ∧ l1.length ≤ 4611686018427387904 ∧ l2.length ≤ 4611686018427387904
 then some (qCG a0_0 l0_2 l0_3 l1 l2) else none
theorem qB4.calls (a0_0 : ByteArray) (A0_1 : Option Addr) (c0_1 : Nat) (l0_1 : List (S85)) (A0_2 : Option Addr) (c0_2 : Nat) (l0_2 : List (S92)) (A0_3 : Option Addr) (c0_3 : Nat) (l0_3 : List (S104)) (A1 : Option Addr) (c1 : Nat) (l1 : List ByteArray) (A2 : Option Addr) (c2 : Nat) (l2 : List ByteArray) (r : Int) (w : World) (hr0_1 : Kd.C k85 w A0_1 l0_1.length l0_1) (hc0_1 : l0_1.length ≤ c0_1) (hr0_2 : Kd.C k92 w A0_2 l0_2.length l0_2) (hc0_2 : l0_2.length ≤ c0_2) (hr0_3 : Kd.C k104 w A0_3 l0_3.length l0_3) (hc0_3 : l0_3.length ≤ c0_3) (hr1 : Kd.C Kd.string w A1 l1.length l1) (hc1 : l1.length ≤ c1) (hr2 : Kd.C Kd.string w A2 l2.length l2) (hc2 : l2.length ≤ c2) (h : qB4.f a0_0 l0_1 l0_2 l0_3 l1 l2 = some r) :
  Calls Tryz.prog 34 #[.agg #[.string a0_0, .slice A0_1 l0_1.length c0_1, .slice A0_2 l0_2.length c0_2, .slice A0_3 l0_3.length c0_3], .slice A1 l1.length c1, .slice A2 l2.length c2] w fun e w' => e = .returned (.int .i64 r) ∧ Below w.heap.size w w' := by
 unfold qB4.f at h
 split at h
 case isFalse => cases h
 rename_i hs
 obtain ⟨hf64, hf4, hr62, hrs, hv62, hfl62⟩ := hs
 replace h := Option.some.inj h
 obtain ⟨kp, hkp⟩ := (places_ev a0_0 l0_1 l0_2 l0_3 hf64 hf4).rounds
 have hpl : (qBw l0_2).length ≤ 4611686018427387904 := by have := fnsP_len l0_2 0 hf4; unfold qBw; omega
 obtain ⟨cs, hcs⟩ : ∃ cs : Array Value, cs = #[.string a0_0, .slice A0_1 l0_1.length c0_1, .slice A0_2 l0_2.length c0_2, .slice A0_3 l0_3.length c0_3] := ⟨_, rfl⟩
 obtain ⟨WA, hWA⟩ : ∃ WA, WA = w.alloc (.cells cs 33) := ⟨_, rfl⟩
 have hBA : Below w.heap.size w WA := hWA ▸ (Below.refl _ _).alloc (Nat.le_refl _) _
 have hgA : w.heap.size < WA.heap.size := by rw [hWA]; simp
 have k0 : WA.cell? ⟨w.heap.size, 0, none⟩ = some (.string a0_0) := by rw [hWA, World.cell?_alloc_at _ _ _ _ rfl, hcs]; rfl
 have k2 : WA.cell? ⟨w.heap.size, 2, none⟩ = some (.slice A0_2 l0_2.length c0_2) := by rw [hWA, World.cell?_alloc_at _ _ _ _ rfl, hcs]; rfl
 have k1 : WA.cell? ⟨w.heap.size, 1, none⟩ = some (.slice A0_1 l0_1.length c0_1) := by rw [hWA, World.cell?_alloc_at _ _ _ _ rfl, hcs]; rfl
 have k3 : WA.cell? ⟨w.heap.size, 3, none⟩ = some (.slice A0_3 l0_3.length c0_3) := by rw [hWA, World.cell?_alloc_at _ _ _ _ rfl, hcs]; rfl
 have HK0 := am k0
 have HK2 := am k2
 have HK3 := am k3
 have HP : qAj (Calls Tryz.prog 101 #[.agg #[.string a0_0, .slice A0_1 l0_1.length c0_1, .slice A0_2 l0_2.length c0_2, .slice A0_3 l0_3.length c0_3]] WA fun e w' => ∃ v0_ : Value, e = .returned (v0_) ∧ Kd.R k104 104 w' WA.heap.size (fun _ => True) v0_ (qBw l0_2) ∧ Below WA.heap.size WA w') :=
  ⟨qA0.calls kp a0_0 A0_1 c0_1 l0_1 A0_2 c0_2 l0_2 A0_3 c0_3 l0_3 _ WA (Kd.C_below hr0_1 hBA) hc0_1 (Kd.C_below hr0_2 hBA) hc0_2 (Kd.C_below hr0_3 hBA) hc0_3 hkp⟩
 have HF : qAj (∀ (A : Option Addr) (c : Nat) W, Below WA.heap.size WA W → Kd.C k104 W A (qBw l0_2).length (qBw l0_2) → Calls Tryz.prog 103 #[.slice A0_3 l0_3.length c0_3, .slice A (qBw l0_2).length c, .func (.func 102) #[] #[]] W fun e w' => e = .returned (.bool (qB8 l0_3 (qBw l0_2))) ∧ Below W.heap.size W w') :=
  ⟨fun A c W hW hC => eqf_any A0_3 A c0_3 c l0_3 (qBw l0_2) W (Kd.C_below hr0_3 (qAE hBA hBA.size hW)) hC hr62⟩
 have HG : qAj (∀ (A : Option Addr) (c : Nat) W, Below WA.heap.size WA W → Kd.C k104 W A (qBw l0_2).length (qBw l0_2) → Calls Tryz.prog 104 #[.slice A (qBw l0_2).length c, .func (.func 105) #[] #[.pointer (some ⟨w.heap.size, 0, none⟩)]] W fun e w' => e = .returned (.bool ((qBw l0_2).any fun x => qCi l0_2 x != 0)) ∧ Below W.heap.size W w') :=
  ⟨fun A c W hW hC => has_places w.heap.size l0_2 A0_2 c0_2 A c (qBw l0_2) W ((hW.cell (p := ⟨w.heap.size, 2, none⟩) hgA).trans k2) (Kd.C_below hr0_2 (qAE hBA hBA.size hW)) hC hpl (placesL_in l0_2)⟩
 have HRL : qAj (Kd.C k104 WA A0_3 l0_3.length l0_3) := ⟨Kd.C_below hr0_3 hBA⟩
 have HV : qAj (∀ (s : ByteArray) W, Below WA.heap.size WA W → Calls Tryz.prog 92 #[.slice A1 l1.length c1, .string s] W fun e w' => e = .returned (.bool (hasB l1 s)) ∧ qAW W w') := ⟨fun s W hW => by
   obtain ⟨k, hk⟩ := (qD5 l1 s hv62).rounds
   exact qAF.calls k A1 c1 l1 s _ W (Kd.C_below hr1 (qAE hBA hBA.size hW)) hc1 hk⟩
 have HW : qAj (∀ (s : ByteArray) W, Below WA.heap.size WA W → Calls Tryz.prog 92 #[.slice A2 l2.length c2, .string s] W fun e w' => e = .returned (.bool (hasB l2 s)) ∧ qAW W w') := ⟨fun s W hW => by
   obtain ⟨k, hk⟩ := (qD5 l2 s hfl62).rounds
   exact qAF.calls k A2 c2 l2 s _ W (Kd.C_below hr2 (qAE hBA hBA.size hW)) hc2 hk⟩
 have HN : qAj (∀ (s : ByteArray) W, s.size ≤ 140737488351232 → Calls Tryz.prog 30 #[.string s] W fun e w' => e = .returned (.int .i64 (Names.nameE s)) ∧ qAW W w') := ⟨fun s W hs => qBm.calls s _ W (by unfold qBm.f; rw [if_pos hs])⟩
 have HRS := am hrs
 have HWA := am hWA
 obtain ⟨ne, hne⟩ : ∃ n, n = l0_3.length := ⟨_, rfl⟩
 obtain ⟨n1, hn1⟩ : ∃ n, n = l0_1.length := ⟨_, rfl⟩
 obtain ⟨n2, hn2⟩ : ∃ n, n = l0_2.length := ⟨_, rfl⟩
 obtain ⟨m1, hm1⟩ : ∃ n, n = l1.length := ⟨_, rfl⟩
 obtain ⟨m2, hm2⟩ : ∃ n, n = l2.length := ⟨_, rfl⟩
 obtain ⟨np, hnp⟩ : ∃ n, n = (qBw l0_2).length := ⟨_, rfl⟩
 rw [← hne, ← hn1, ← hn2] at hcs HP
 rw [← hne] at HF HRL k3 HK3
 rw [← hnp] at HF HG
 rw [← hn2] at k2 HK2
 rw [← hn1] at k1
 rw [← hm1] at HV
 rw [← hm2] at HW
 rw [← hne, ← hn1, ← hn2, ← hm1, ← hm2]
 have HNE := am hne
 have HNP := am hnp
 have HBA := am hBA
 have HH := am h
 have hr62' : ne ≤ 4611686018427387904 := by omega
 clear hr0_1 hc0_1 hr0_2 hc0_2 hr0_3 hc0_3 hr1 hc1 hr2 hc2 hf64 hf4 hr62 hrs hv62 hfl62 hkp hpl hne hn1 hn2 hm1 hm2 hnp hBA h
 subst hcs
 clear hWA
 go_enter Tryz.func34, Tryz.ntmps34
 go_wp2_with fail
 rw [← HWA.out]
 go_wp2_with fail
 refine HP.out.mono ?_
 rintro e w1 ⟨v0, rfl, hR, hb1⟩
 obtain ⟨AP, cP, rfl⟩ := Kd.R_slice hR
 have HRP := am (Kd.R_reads hR)
 have HB1 := am hb1
 obtain ⟨AP', cP', hv, _, hC⟩ := Kd.R_reads hR
 injection hv with hv1 _ hv2
 subst hv1; subst hv2
 rw [← HNP.out] at hC ⊢
 have HC := am hC
 have q0 := (hb1.cell (p := ⟨w.heap.size, 0, none⟩) hgA).trans HK0.out
 have q3 := (hb1.cell (p := ⟨w.heap.size, 3, none⟩) hgA).trans HK3.out
 clear hR hb1 HP k0 k1 k2 k3 hC HRP
 go_wp2_with fail
 refine (HF.out AP cP _ HB1.out HC.out).mono ?_
 rintro e w2 ⟨rfl, hb⟩
 obtain ⟨b1, hb1⟩ : ∃ b, b = qB8 l0_3 (qBw l0_2) := ⟨_, rfl⟩
 rw [← hb1]
 have HQ1 := am hb1
 have HB2 := am (qAE HB1.out HB1.out.size hb)
 have HC2 := am (Kd.C_below HC.out hb)
 have e0 := (HB2.out.cell (p := ⟨w.heap.size, 0, none⟩) hgA).trans HK0.out
 have e3 := (HB2.out.cell (p := ⟨w.heap.size, 3, none⟩) hgA).trans HK3.out
 clear hb hb1 q0 q3 HC
 cases b1 with
 | false =>
  go_wp2
  go_ret
  refine ⟨?_, qAE HBA.out HBA.out.size HB2.out⟩
  rw [← HH.out]; unfold qCG; rw [if_pos HQ1.out.symm]; rfl
 | true =>
 go_wp2_with fail
 refine (HG.out AP cP _ HB2.out HC2.out).mono ?_
 rintro e w3 ⟨rfl, hb⟩
 obtain ⟨b2, hb2⟩ : ∃ b, b = (qBw l0_2).any fun x => qCi l0_2 x != 0 := ⟨_, rfl⟩
 rw [← hb2]
 have HQ2 := am hb2
 have HB3 := am (qAE HB2.out HB2.out.size hb)
 have g0 := (HB3.out.cell (p := ⟨w.heap.size, 0, none⟩) hgA).trans HK0.out
 have g3 := (HB3.out.cell (p := ⟨w.heap.size, 3, none⟩) hgA).trans HK3.out
 clear hb hb2 e0 e3 HC2 HF HG
 cases b2 with
 | true =>
  go_wp2
  go_ret
  refine ⟨?_, qAE HBA.out HBA.out.size HB3.out⟩
  have e1 := HQ1.out.symm; have e2 := HQ2.out.symm; rw [← HH.out]; unfold qCG; rw [e1, e2]; rfl
 | false =>
 have HH2 : qAj ((if qBp l0_3 ≠ 0 then qBp l0_3 else if l0_3.any (qCj a0_0 l1 l2) = true then 52 else 0) = r) := ⟨by
   have e1 := HQ1.out.symm; have e2 := HQ2.out.symm; rw [← HH.out]; unfold qCG; rw [e1, e2]; rfl⟩
 clear HH HQ1 HQ2
 go_wp2_with fail
 go_loopg [10, 11, 12, 32] ne (fun gg _ _ _ s32 wr => ∃ kk : Nat, kk ≤ ne ∧ ne - kk ≤ gg ∧ s32 = .int .i64 kk ∧ qAj (qBp (l0_3.drop kk) = qBp l0_3) ∧ qAj (Below WA.heap.size WA wr))
 case atStart => exact ⟨0, Nat.zero_le _, by omega, rfl, ⟨rfl⟩, HB3⟩
 case round =>
  clear g0 g3 HB1 HB2 HB3
  obtain ⟨kk, hkk, hg, rfl, HA, HB⟩ := hrel
  by_cases hlt : kk < ne
  ·have hltz : (kk : Int) < (ne : Int) := by omega
   have h0 : (0 : Int) ≤ (kk : Int) := by omega
   obtain ⟨ad, ea, hx0, hx1, hx2, hx3, hx4⟩ := qDU HRL.out (kk : Int) h0 hltz
   subst ea
   rw [Int.toNat_natCast] at hx0 hx1 hx2 hx3 hx4
   replace hx0 := (HB.out.cell (World.block_lt_of_cell? WA _ hx0)).trans hx0
   replace hx1 := (HB.out.cell (World.block_lt_of_cell? WA _ hx1)).trans hx1
   replace hx2 := (HB.out.cell (World.block_lt_of_cell? WA _ hx2)).trans hx2
   replace hx3 := (HB.out.cell (World.block_lt_of_cell? WA _ hx3)).trans hx3
   replace hx4 := (HB.out.cell (World.block_lt_of_cell? WA _ hx4)).trans hx4
   obtain ⟨x, hx⟩ : ∃ x, x = qCv l0_3 (kk : Int) := ⟨_, rfl⟩
   rw [← hx] at hx0 hx1 hx2 hx3 hx4
   have HX : qAj (l0_3[kk]? = some x) := ⟨by rw [hx]; exact qCV l0_3 z104 kk (by have := HNE.out; omega)⟩
   clear hx
   have HS := am (HRS.out x (List.mem_of_getElem? HX.out))
   have HN1 := am (fun W => HN.out x.f3 W HS.out.1)
   have HN2 := am (fun W => HN.out x.f4 W HS.out.2)
   obtain ⟨z1, hz1⟩ : ∃ z, z = Names.nameE x.f3 := ⟨_, rfl⟩
   obtain ⟨z2, hz2⟩ : ∃ z, z = Names.nameE x.f4 := ⟨_, rfl⟩
   rw [← hz1] at HN1
   rw [← hz2] at HN2
   have HZ1 := am hz1
   have HZ2 := am hz2
   clear hz1 hz2
   go_wp2_with fail
   refine (HN1.out _).mono ?_
   rintro e w4 ⟨rfl, m1, rfl⟩
   by_cases c1 : z1 = 0
   case neg =>
    have c1' : (z1 != 0) = true := bne_iff_ne.mpr c1
    have HC1 := am c1
    clear c1
    go_wp2
    go_ret
    refine ⟨?_, qAE HBA.out HBA.out.size (qAE HB.out HB.out.size (qC2 ((Below.refl _ _).alloc (Nat.le_refl _) _) _))⟩
    rw [← HH2.out, ← HA.out, relNames_hit1 _ _ _ HX.out (by rw [← HZ1.out]; exact HC1.out), ← HZ1.out, if_pos HC1.out]; rfl
   have c1' : (z1 != 0) = false := bne_eq_false_iff_eq.mpr c1
   have HC1 := am c1
   clear c1
   go_wp2_with fail
   refine (HN2.out _).mono ?_
   rintro e w4 ⟨rfl, m2, rfl⟩
   by_cases c2 : z2 = 0
   case neg =>
    have c2' : (z2 != 0) = true := bne_iff_ne.mpr c2
    have HC2 := am c2
    clear c2
    go_wp2
    go_ret
    refine ⟨?_, qAE HBA.out HBA.out.size (qAE HB.out HB.out.size (qC2 ((Below.refl _ _).alloc (Nat.le_refl _) _) _))⟩
    rw [← HH2.out, ← HA.out, relNames_hit2 _ _ _ HX.out (by rw [← HZ1.out]; exact HC1.out) (by rw [← HZ2.out]; exact HC2.out), ← HZ2.out, if_pos HC2.out]; rfl
   have c2' : (z2 != 0) = false := bne_eq_false_iff_eq.mpr c2
   have HC2 := am c2
   clear c2
   go_wp2
   go_roundg (ne - (kk + 1))
   case measure => omega
   case rel => exact ⟨kk + 1, by omega, by omega, by go_num, ⟨by rw [← HA.out, relNames_step _ _ _ HX.out (by rw [← HZ1.out]; exact HC1.out) (by rw [← HZ2.out]; exact HC2.out)]⟩, ⟨qAE HB.out HB.out.size (qC2 ((Below.refl _ _).alloc (Nat.le_refl _) _) _)⟩⟩
  have hltz : ¬ (kk : Int) < (ne : Int) := by omega
  have hkn : kk = ne := by omega
  have hz := relNames_end l0_3 kk (by rw [hkn]; exact Nat.le_of_eq HNE.out.symm)
  have HH3 : qAj ((if l0_3.any (qCj a0_0 l1 l2) = true then 52 else 0) = r) := ⟨by
    rw [← HH2.out, ← HA.out, hz]; rfl⟩
  clear hz
  subst hkn
  obtain ⟨ne, rfl⟩ : ∃ ne, ne = kk := ⟨_, rfl⟩
  have f0 := (HB.out.cell (p := ⟨w.heap.size, 0, none⟩) hgA).trans HK0.out
  have f3 := (HB.out.cell (p := ⟨w.heap.size, 3, none⟩) hgA).trans HK3.out
  clear HA HH2
  go_wp2_with fail
  go_loopg [14, 15, 52] ne (fun gg _ _ s52 wr => ∃ k2 : Nat, k2 ≤ ne ∧ ne - k2 ≤ gg ∧ s52 = .int .i64 k2 ∧ qAj (∀ (j : Nat) x, j < k2 → l0_3[j]? = some x → qCj a0_0 l1 l2 x = false) ∧ qAj (Below WA.heap.size WA wr))
  case atStart => exact ⟨0, Nat.zero_le _, by omega, rfl, ⟨fun j x hj => absurd hj (Nat.not_lt_zero _)⟩, HB⟩
  case round =>
   clear f0 f3 HB hkk hg
   obtain ⟨kk, hkk, hg, rfl, HA, HB⟩ := hrel
   have f0 := (HB.out.cell (p := ⟨w.heap.size, 0, none⟩) hgA).trans HK0.out
   have hgr : w.heap.size < wr.heap.size := Nat.lt_of_lt_of_le hgA HB.out.size
   by_cases hlt : kk < ne
   rotate_left
   ·have hltz : ¬ (kk : Int) < (ne : Int) := by omega
    have hkn : kk = ne := by omega
    go_wp2
    go_ret
    refine ⟨?_, qAE HBA.out HBA.out.size HB.out⟩
    rw [← HH3.out, qEy _ l0_3 fun j x hj => HA.out j x (by have := (List.getElem?_eq_some_iff.1 hj).1; have := HNE.out; omega) hj]; rfl
   have hltz : (kk : Int) < (ne : Int) := by omega
   have h0 : (0 : Int) ≤ (kk : Int) := by omega
   obtain ⟨ad, ea, hx0, hx1, hx2, hx3, hx4⟩ := qDU HRL.out (kk : Int) h0 hltz
   subst ea
   rw [Int.toNat_natCast] at hx0 hx1 hx2 hx3 hx4
   replace hx0 := (HB.out.cell (World.block_lt_of_cell? WA _ hx0)).trans hx0
   replace hx1 := (HB.out.cell (World.block_lt_of_cell? WA _ hx1)).trans hx1
   replace hx2 := (HB.out.cell (World.block_lt_of_cell? WA _ hx2)).trans hx2
   replace hx3 := (HB.out.cell (World.block_lt_of_cell? WA _ hx3)).trans hx3
   replace hx4 := (HB.out.cell (World.block_lt_of_cell? WA _ hx4)).trans hx4
   obtain ⟨x, hx⟩ : ∃ x, x = qCv l0_3 (kk : Int) := ⟨_, rfl⟩
   rw [← hx] at hx0 hx1 hx2 hx3 hx4
   have HX : qAj (l0_3[kk]? = some x) := ⟨by rw [hx]; exact qCV l0_3 z104 kk (by have := HNE.out; omega)⟩
   clear hx
   by_cases cO : x.f3.toList = a0_0.toList
   rotate_left
   ·have cO' : (x.f3.toList == a0_0.toList) = false := beq_eq_false_iff_ne.mpr cO
    have HO := am cO
    clear cO
    by_cases c1 : x.f2 = 1
    ·have c1' : (x.f2 == 1) = true := beq_iff_eq.mpr c1
     have HC1 := am c1
     clear c1
     go_wp2
     go_ret
     refine ⟨?_, qAE HBA.out HBA.out.size (qAE HB.out HB.out.size ((Below.refl _ _).alloc (Nat.le_refl _) _))⟩
     rw [← HH3.out, if_pos (qDT _ _ kk _ HX.out (by unfold qCj; rw [if_neg HO.out]; exact decide_eq_true HC1.out))]; rfl
    have c1' : (x.f2 == 1) = false := beq_eq_false_iff_ne.mpr c1
    have HC1 := am c1
    clear c1
    go_wp2
    go_roundg (ne - (kk + 1))
    case measure => omega
    case rel =>
     refine ⟨kk + 1, by omega, by omega, by go_num, ⟨fun j y hj hy => ?_⟩, ⟨qAE HB.out HB.out.size ((Below.refl _ _).alloc (Nat.le_refl _) _)⟩⟩
     by_cases e : j = kk
     rotate_left
     ·exact HA.out j y (by omega) hy
     subst e; rw [HX.out] at hy; injection hy with hy; subst hy; exact (by unfold qCj; rw [if_neg HO.out]; exact decide_eq_false HC1.out)
   have cO' : (x.f3.toList == a0_0.toList) = true := beq_iff_eq.mpr cO
   have HO := am cO
   clear cO
   by_cases c1 : x.f2 = 1
   ·have c1' : (x.f2 == 1) = true := beq_iff_eq.mpr c1
    have c2' : (x.f2 == 2) = false := beq_eq_false_iff_ne.mpr (by omega)
    have HC1 := am c1
    clear c1
    obtain ⟨b, hb⟩ : ∃ b, b = hasB l1 x.f4 := ⟨_, rfl⟩
    have HQ := am hb
    have HV1 := am (fun W hW => HV.out x.f4 W hW)
    rw [← hb] at HV1
    clear hb
    go_wp2_with fail
    refine (HV1.out _ (qAE HB.out HB.out.size ((Below.refl _ _).alloc (Nat.le_refl _) _))).mono ?_
    rintro e w4 ⟨rfl, m1, rfl⟩
    cases b with
    | false =>
     go_wp2
     go_ret
     refine ⟨?_, qAE HBA.out HBA.out.size (qAE HB.out HB.out.size (qC2 ((Below.refl _ _).alloc (Nat.le_refl _) _) _))⟩
     rw [← HH3.out, if_pos (qDT _ _ kk _ HX.out (by unfold qCj; rw [if_pos HO.out, if_pos HC1.out, ← HQ.out]; rfl))]; rfl
    | true =>
     go_wp2
     go_roundg (ne - (kk + 1))
     case measure => omega
     case rel =>
      refine ⟨kk + 1, by omega, by omega, by go_num, ⟨fun j y hj hy => ?_⟩, ⟨qAE HB.out HB.out.size (qC2 ((Below.refl _ _).alloc (Nat.le_refl _) _) _)⟩⟩
      by_cases e : j = kk
      rotate_left
      ·exact HA.out j y (by omega) hy
      subst e; rw [HX.out] at hy; injection hy with hy; subst hy; exact (by unfold qCj; rw [if_pos HO.out, if_pos HC1.out, ← HQ.out]; rfl)
   have c1' : (x.f2 == 1) = false := beq_eq_false_iff_ne.mpr c1
   have HC1 := am c1
   clear c1
   by_cases c2 : x.f2 = 2
   rotate_left
   ·have c2' : (x.f2 == 2) = false := beq_eq_false_iff_ne.mpr c2
    have HC2 := am c2
    clear c2
    go_wp2
    go_roundg (ne - (kk + 1))
    case measure => omega
    case rel =>
     refine ⟨kk + 1, by omega, by omega, by go_num, ⟨fun j y hj hy => ?_⟩, ⟨qAE HB.out HB.out.size ((Below.refl _ _).alloc (Nat.le_refl _) _)⟩⟩
     by_cases e : j = kk
     rotate_left
     ·exact HA.out j y (by omega) hy
     subst e; rw [HX.out] at hy; injection hy with hy; subst hy; exact (by unfold qCj; rw [if_pos HO.out, if_neg HC1.out, if_neg HC2.out])
   have c2' : (x.f2 == 2) = true := beq_iff_eq.mpr c2
   have HC2 := am c2
   clear c2
   obtain ⟨b, hb⟩ : ∃ b, b = hasB l2 x.f4 := ⟨_, rfl⟩
   have HQ := am hb
   have HW1 := am (fun W hW => HW.out x.f4 W hW)
   rw [← hb] at HW1
   clear hb
   go_wp2_with fail
   refine (HW1.out _ (qAE HB.out HB.out.size ((Below.refl _ _).alloc (Nat.le_refl _) _))).mono ?_
   rintro e w4 ⟨rfl, m1, rfl⟩
   cases b with
   | false =>
    go_wp2
    go_ret
    refine ⟨?_, qAE HBA.out HBA.out.size (qAE HB.out HB.out.size (qC2 ((Below.refl _ _).alloc (Nat.le_refl _) _) _))⟩
    rw [← HH3.out, if_pos (qDT _ _ kk _ HX.out (by unfold qCj; rw [if_pos HO.out, if_neg HC1.out, if_pos HC2.out, ← HQ.out]; rfl))]; rfl
   | true =>
    go_wp2
    go_roundg (ne - (kk + 1))
    case measure => omega
    case rel =>
     refine ⟨kk + 1, by omega, by omega, by go_num, ⟨fun j y hj hy => ?_⟩, ⟨qAE HB.out HB.out.size (qC2 ((Below.refl _ _).alloc (Nat.le_refl _) _) _)⟩⟩
     by_cases e : j = kk
     rotate_left
     ·exact HA.out j y (by omega) hy
     subst e; rw [HX.out] at hy; injection hy with hy; subst hy; exact (by unfold qCj; rw [if_pos HO.out, if_neg HC1.out, if_pos HC2.out, ← HQ.out]; rfl)
end Q
end
section
namespace Q
open Go.RowKit PA PC PB
def qBG.f (a0_0 : Int) (a0_1 : Int) : Option (Bool) := if 0 ≤ a0_1 ∧ a0_1 < 18446744073709551616 then some (Val.okV a0_0 a0_1) else none
theorem qBG.calls (a0_0 : Int) (a0_1 : Int) (r : Bool) (w : World) (h : qBG.f a0_0 a0_1 = some r) :
  Calls Tryz.prog 32 #[.agg #[.int .i64 a0_0, .int .u64 a0_1]] w fun e w' => e = .returned (.bool r) ∧ Below w.heap.size w w' := by
 unfold qBG.f at h
 split at h
 case isFalse => cases h
 rename_i hs
 obtain rfl := Option.some.inj h
 exact Val.right_any a0_0 a0_1 hs w
def qB1.f (a0_0 : Int) (a0_1 : Int) : Option (Bool) := if 0 ≤ a0_1 ∧ a0_1 < 18446744073709551616 then some (Val.okV a0_0 a0_1) else none
theorem qB1.calls (a0_0 : Int) (a0_1 : Int) (r : Bool) (w : World) (h : qB1.f a0_0 a0_1 = some r) :
  Calls Tryz.prog 37 #[.agg #[.int .i64 a0_0, .int .u64 a0_1]] w fun e w' => e = .returned (.bool r) ∧ Below w.heap.size w w' := by
 unfold qB1.f at h
 split at h
 case isFalse => cases h
 rename_i hs
 obtain rfl := Option.some.inj h
 exact Val.rright_any a0_0 a0_1 hs w
end Q
end
section
namespace Q
open Go.RowKit PA PC PB
attribute [local go_sem] qAU min2_int qBd min_two max_three min_three max_four min_four
def qBn.f (k : Nat) (a0 : ByteArray) (l1 : List ByteArray) : Option (Int) := (qBm.f a0).bind fun aA => (if aA = 0 then ((qAF.f k l1 a0).bind fun aB => (if aB = true then (some 20) else (some 0))) else (some aA))
theorem qBn.calls (k : Nat) (a0 : ByteArray) (A1 : Option Addr) (c1 : Nat) (l1 : List ByteArray) (r : Int) (w : World) (hr1 : Kd.C Kd.string w A1 l1.length l1) (hc1 : l1.length ≤ c1) (h : qBn.f k a0 l1 = some r) :
  Calls Tryz.prog 31 #[.string a0, .slice A1 l1.length c1] w fun e w' => e = .returned (.int .i64 r) ∧ qAW w w' := by
 have aG := am hr1
 have aF := am hc1
 clear hr1 hc1
 have H : ((qBm.f a0).bind fun aA => (if aA = 0 then ((qAF.f k l1 a0).bind fun aB => (if aB = true then (some 20) else (some 0))) else (some aA))) = some r := h
 clear h
 replace H := bm H
 obtain ⟨aA, aD, H⟩ := H
 replace H : (if aA = 0 then ((qAF.f k l1 a0).bind fun aB => (if aB = true then (some 20) else (some 0))) else (some aA)) = some r := H
 have A3 := am aD
 clear aD
 by_cases c4 : aA = 0
 ·rw [if_pos c4] at H
  have aC : (aA != 0) = false := bn c4
  clear c4
  replace H := bm H
  obtain ⟨aB, aE, H⟩ := H
  replace H : (if aB = true then (some 20) else (some 0)) = some r := H
  have A5 := am aE
  clear aE
  by_cases c6 : aB = true
  ·subst c6
   replace H : (some 20) = some r := by rw [if_pos rfl] at H; exact H
   obtain rfl := Option.some.inj H
   go_enter Tryz.func31, Tryz.ntmps31
   go_wp2_with (first | ((with_reducible refine qAv (f := 30) rfl ?_); refine gL 7 Tryz.func30 #[.string a0] ?_; (with_reducible refine (qBm.calls a0 aA _ A3.o).mono ?_); rintro e w' ⟨rfl, ⟨nd, rfl⟩⟩; refine ⟨_, rfl, ?_⟩) | ((with_reducible refine qAv (f := 92) rfl ?_); refine gL 13 Tryz.func92 #[.slice A1 l1.length c1, .string a0] ?_; (with_reducible refine (qAF.calls k _ _ l1 a0 true _ ?side1 ?side2 A5.o).mono ?_); (case side1 => exact aG.o); (case side2 => exact aF.o); rintro e w' ⟨rfl, ⟨nd, rfl⟩⟩; refine ⟨_, rfl, ?_⟩))
   go_ret
   exact ⟨by rfl, by repeat (first | exact qAW.refl _ | apply qAW.step)⟩
  ·replace c6 := Bool.eq_false_iff.mpr c6
   subst c6
   replace H : (some 0) = some r := by rw [if_neg (show ¬ (false = true) by decide)] at H; exact H
   obtain rfl := Option.some.inj H
   go_enter Tryz.func31, Tryz.ntmps31
   go_wp2_with (first | ((with_reducible refine qAv (f := 30) rfl ?_); refine gL 7 Tryz.func30 #[.string a0] ?_; (with_reducible refine (qBm.calls a0 aA _ A3.o).mono ?_); rintro e w' ⟨rfl, ⟨nd, rfl⟩⟩; refine ⟨_, rfl, ?_⟩) | ((with_reducible refine qAv (f := 92) rfl ?_); refine gL 13 Tryz.func92 #[.slice A1 l1.length c1, .string a0] ?_; (with_reducible refine (qAF.calls k _ _ l1 a0 false _ ?side1 ?side2 A5.o).mono ?_); (case side1 => exact aG.o); (case side2 => exact aF.o); rintro e w' ⟨rfl, ⟨nd, rfl⟩⟩; refine ⟨_, rfl, ?_⟩))
   go_ret
   exact ⟨by rfl, by repeat (first | exact qAW.refl _ | apply qAW.step)⟩
 ·rw [if_neg c4] at H
  have aC : (aA != 0) = true := bne_iff_ne.mpr c4
  obtain rfl := Option.some.inj H
  go_enter Tryz.func31, Tryz.ntmps31
  go_wp2_with ((with_reducible refine qAv (f := 30) rfl ?_); refine gL 7 Tryz.func30 #[.string a0] ?_; (with_reducible refine (qBm.calls a0 aA _ A3.o).mono ?_); rintro e w' ⟨rfl, ⟨nd, rfl⟩⟩; refine ⟨_, rfl, ?_⟩)
  go_ret
  exact ⟨by rfl, by repeat (first | exact qAW.refl _ | apply qAW.step)⟩
end Q
end
end Go.Proofs.YtfjpnjbinbhcfaaGreat
