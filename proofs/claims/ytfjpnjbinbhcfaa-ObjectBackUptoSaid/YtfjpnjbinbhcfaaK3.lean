/- There and back; unlike objects have unlike bytes. Part 3 of 8. -/
import Derived.Test.YtfjpnjbinbhcfaaK2
import Derived.Lib.SliceRun
set_option maxHeartbeats 8000000
set_option maxRecDepth 100000
set_option linter.unusedVariables false
set_option linter.unusedSimpArgs false
namespace Go.Proofs.Ytfjpnjbinbhcfaa
section
namespace Q
open Go.RowKit PA PB PC
open DecLaw
theorem qDq {l : List Int} (h : qBh l) (n : Nat) : qBh (l.take n) := fun x hx => h x (List.mem_of_mem_take hx)
theorem qBF {l : List Int} (h : qBh l) (n : Nat) : qBh (l.drop n) := fun x hx => h x (List.mem_of_mem_drop hx)
theorem qEN : ∀ (l : List Int), qBh l → ∀ v : Int, 0 ≤ v → 0 ≤ l.foldl (fun v x => v * 256 + x) v ∧ l.foldl (fun v x => v * 256 + x) v < (v + 1) * 256 ^ l.length := by
 intro l
 induction l with
 | nil => intro _ v hv; simp; omega
 | cons x l ih =>
  intro h v hv
  have hx := h x List.mem_cons_self
  obtain ⟨h1, h2⟩ := ih (fun y hy => h y (List.mem_cons_of_mem _ hy)) (v * 256 + x) (by omega)
  refine ⟨h1, Int.lt_of_lt_of_le h2 ?_⟩
  rw [List.length_cons, Int.pow_succ]
  have : (v * 256 + x + 1) * 256 ^ l.length ≤ ((v + 1) * 256) * 256 ^ l.length := Int.mul_le_mul_of_nonneg_right (by omega) (Int.le_of_lt (Int.pow_pos (by decide)))
  have e : (v + 1) * (256 ^ l.length * 256) = ((v + 1) * 256) * 256 ^ l.length := by rw [Int.mul_assoc, Int.mul_comm (256 ^ l.length) 256]
  rw [e]; exact this
theorem qDT (l : List Int) (h : qBh l) : 0 ≤ valB l ∧ valB l < 256 ^ l.length := by
 have := qEN l h 0 (Int.le_refl 0)
 unfold valB
 simpa using this
theorem numStep_eq (v x : Int) (hv : 0 ≤ v) (hv2 : v < 72057594037927936) (hx : 0 ≤ x) (hx2 : x < 256) : qCQ v x = v * 256 + x := by
 unfold qCQ
 rw [Dec.wrap_256, show IntKind.u64.wrap x = x from by simp [IntKind.wrap, IntKind.bits, IntKind.signed]; omega, Dec.or_low v x hv (by omega) hx hx2]
 omega
theorem numF_fold (l : List Int) (h : qBh l) : ∀ (v : Int), 0 ≤ v → (v + 1) * 256 ^ l.length ≤ 18446744073709551616 → l.foldl qCQ v = l.foldl (fun v x => v * 256 + x) v := by
 induction l with
 | nil => intro v _ _; rfl
 | cons x l ih =>
  intro v hv hb
  have hx := h x List.mem_cons_self
  have hp : (1 : Int) ≤ 256 ^ l.length := by have := @Int.pow_pos 256 l.length (by decide); omega
  rw [List.length_cons, Int.pow_succ] at hb
  have hv2 : v < 72057594037927936 := by
   have h1 : (v + 1) * (1 * 256) ≤ (v + 1) * (256 ^ l.length * 256) := Int.mul_le_mul_of_nonneg_left (Int.mul_le_mul_of_nonneg_right hp (by decide)) (by omega)
   omega
  simp only [List.foldl_cons]
  rw [numStep_eq v x hv hv2 hx.1 hx.2]
  refine ih (fun y hy => h y (List.mem_cons_of_mem _ hy)) _ (by omega) ?_
  have h1 : (v * 256 + x + 1) * 256 ^ l.length ≤ ((v + 1) * 256) * 256 ^ l.length := Int.mul_le_mul_of_nonneg_right (by omega) (by omega)
  have e : (v + 1) * (256 ^ l.length * 256) = ((v + 1) * 256) * 256 ^ l.length := by rw [Int.mul_assoc, Int.mul_comm (256 ^ l.length) 256]
  omega
theorem qEA (l : List Int) (h : qBh l) (h8 : l.length ≤ 8) : numF l = valB l := by
 unfold numF valB
 refine numF_fold l h 0 (Int.le_refl 0) ?_
 have : ∀ n : Nat, n < 9 → (256 : Int) ^ n ≤ 18446744073709551616 := by decide
 have := this l.length (by omega)
 omega
abbrev Ps (α : Type) := List Int → Option (α × List Int)
def qEd : Ps Int := fun r => match r with | [] => none | x :: r => some (x, r)
def numP (m : Nat) : Ps Int := fun r => if m ≤ r.length then some (valB (r.take m), r.drop m) else none
def intP : Ps Int := fun r => if 4 ≤ r.length then (if valB (r.take 4) ≤ 2147483647 then some (valB (r.take 4), r.drop 4) else none) else none
def rawP (most : Int) : Ps (List Int) := fun r => (intP r).bind fun a => if a.1 ≤ most ∧ a.1 ≤ a.2.length then some (a.2.take a.1.toNat, a.2.drop a.1.toNat) else none
def textP (most : Int) : Ps ByteArray := fun r => (rawP most r).map fun a => (strOfNums a.1, a.2)
def Rd {α : Type} (f0 : List Int) (g : Nat → Option (α × Int × Int)) (s : Option (α × List Int)) : Prop :=
 ∃ v p e, Ev g (v, p, e) ∧ match s with
  | some (x, r) => v = x ∧ e = 0 ∧ 0 ≤ p ∧ p ≤ f0.length ∧ r = f0.drop p.toNat
  | none => e ≠ 0
def Pl (f0 : List Int) (p : Int) : Prop := 0 ≤ p ∧ p ≤ f0.length
theorem Rd.ok {α : Type} {f0 : List Int} {g : Nat → Option (α × Int × Int)} {x : α} {p : Int} (h : Ev g (x, p, 0)) (hp : Pl f0 p) : Rd f0 g (some (x, f0.drop p.toNat)) := ⟨x, p, 0, h, rfl, rfl, hp.1, hp.2, rfl⟩
theorem Rd.no {α : Type} {f0 : List Int} {g : Nat → Option (α × Int × Int)} {x : α} {p e : Int} (h : Ev g (x, p, e)) (he : e ≠ 0) : Rd f0 g none := ⟨x, p, e, h, he⟩
theorem Rd.bind {α β : Type} {f0 : List Int} {g : Nat → Option (α × Int × Int)} {s : Option (α × List Int)} {h : Nat → α × Int × Int → Option (β × Int × Int)} {t : α × List Int → Option (β × List Int)} (hg : Rd f0 g s)
  (good : ∀ x p, Pl f0 p → s = some (x, f0.drop p.toNat) → Rd f0 (fun k => h k (x, p, 0)) (t (x, f0.drop p.toNat))) (bad : ∀ x p e, e ≠ 0 → Rd f0 (fun k => h k (x, p, e)) none) : Rd f0 (fun k => (g k).bind (h k)) (s.bind t) := by
 obtain ⟨v, p, e, hv, hs⟩ := hg
 cases s with
 | none =>
  obtain ⟨v2, p2, e2, h2, hs2⟩ := bad v p e hs
  exact ⟨v2, p2, e2, Ev.bind hv h2, hs2⟩
 | some a =>
  obtain ⟨x, r⟩ := a
  obtain ⟨rfl, rfl, h0, h1, rfl⟩ := hs
  obtain ⟨v2, p2, e2, h2, hs2⟩ := good v p ⟨h0, h1⟩ rfl
  exact ⟨v2, p2, e2, Ev.bind hv h2, hs2⟩
theorem Rd.congr {α : Type} {f0 : List Int} {g h : Nat → Option (α × Int × Int)} {s t : Option (α × List Int)} (hg : Rd f0 g s) (e : ∀ k, h k = g k) (es : t = s) : Rd f0 h t := by
 subst es
 obtain ⟨v, p, e', hv, hs⟩ := hg
 exact ⟨v, p, e', Ev.congr e hv, hs⟩
theorem qE2 (f0 : List Int) (p : Int) (hp : Pl f0 p) : (f0.drop p.toNat).length = f0.length - p.toNat := List.length_drop
theorem qC3 (f0 : List Int) (p : Int) (n : Nat) (hp : Pl f0 p) : (f0.drop p.toNat).drop n = f0.drop (p + n).toNat := by
 rw [List.drop_drop]; congr 1; have := hp.1; omega
theorem qCL (f0 : List Int) (hb : qBh f0) (p : Int) (hp : Pl f0 p) : Rd f0 (fun _ => qAk.f f0 p 0) (qEd (f0.drop p.toNat)) := by
 obtain ⟨h0, h1⟩ := hp
 by_cases hlt : p < f0.length
 rotate_left
 ·rw [List.drop_eq_nil_of_le (by omega)]
  refine Rd.no (x := 0) (p := p) (e := 40) (Ev.congr (f := fun _ => some (0, p, 40)) (fun k => ?_) (Ev.now _)) (by decide)
  simp [qAk.f, hlt]
 have hc : f0.drop p.toNat = f0.getD p.toNat 0 :: f0.drop (p + 1).toNat := by
  rw [show (p + 1).toNat = p.toNat + 1 from by omega, List.drop_eq_getElem_cons (by omega), List.getD_eq_getElem?_getD, List.getElem?_eq_getElem (by omega)]; rfl
 rw [hc]
 refine Rd.ok (f0 := f0) (p := p + 1) ?_ ⟨by omega, by omega⟩
 refine Ev.congr (f := fun _ => some (f0.getD p.toNat 0, p + 1, 0)) (fun k => ?_) (Ev.now _)
 simp [qAk.f, hlt]
theorem short_good (f0 : List Int) (hb : qBh f0) (p : Int) (hp : Pl f0 p) : Rd f0 (fun _ => qAG.f f0 p 0) (numP 2 (f0.drop p.toNat)) := by
 have hd := qE2 f0 p hp
 unfold numP
 by_cases h : 2 ≤ (f0.drop p.toNat).length
 rotate_left
 ·rw [if_neg h]
  have hp2 : ¬ p + 2 ≤ f0.length := by have := hp.1; omega
  exact Rd.no (x := 0) (p := p) (e := 40) (Ev.congr (f := fun _ => some (0, p, 40)) (fun k => by simp [qAG.f, hp2]) (Ev.now _)) (by decide)
 rw [if_pos h, qC3 f0 p 2 hp]
 have hp2 : p + 2 ≤ f0.length := by have := hp.1; omega
 have hv := qDT _ (qDq (qBF hb p.toNat) 2)
 have h2 : ((f0.drop p.toNat).take 2).length = 2 := by rw [List.length_take]; omega
 rw [h2] at hv
 have hn : wrap64 (numF ((f0.drop p.toNat).take 2)) = valB ((f0.drop p.toNat).take 2) := by
  rw [qEA _ (qDq (qBF hb p.toNat) 2) (by omega)]
  unfold wrap64; omega
 exact Rd.ok (Ev.congr (f := fun _ => some (valB ((f0.drop p.toNat).take 2), p + (2 : Nat), 0)) (fun k => by simp [qAG.f, hp2, hn]) (Ev.now _)) ⟨by have := hp.1; omega, hp2⟩
theorem long_good (f0 : List Int) (hb : qBh f0) (p : Int) (hp : Pl f0 p) : Rd f0 (fun _ => qAO.f f0 p 0) (numP 8 (f0.drop p.toNat)) := by
 have hd := qE2 f0 p hp
 unfold numP
 by_cases h : 8 ≤ (f0.drop p.toNat).length
 rotate_left
 ·rw [if_neg h]
  have hp2 : ¬ p + 8 ≤ f0.length := by have := hp.1; omega
  exact Rd.no (x := 0) (p := p) (e := 40) (Ev.congr (f := fun _ => some (0, p, 40)) (fun k => by simp [qAO.f, hp2]) (Ev.now _)) (by decide)
 rw [if_pos h, qC3 f0 p 8 hp]
 have hp2 : p + 8 ≤ f0.length := by have := hp.1; omega
 have h2 : ((f0.drop p.toNat).take 8).length = 8 := by rw [List.length_take]; omega
 have hn : numF ((f0.drop p.toNat).take 8) = valB ((f0.drop p.toNat).take 8) := qEA _ (qDq (qBF hb p.toNat) 8) (by omega)
 exact Rd.ok (Ev.congr (f := fun _ => some (valB ((f0.drop p.toNat).take 8), p + (8 : Nat), 0)) (fun k => by simp [qAO.f, hp2, hn]) (Ev.now _)) ⟨by have := hp.1; omega, hp2⟩
theorem num4_eq (f0 : List Int) (hb : qBh f0) (p : Int) (hp : Pl f0 p) (h : 4 ≤ (f0.drop p.toNat).length) : num4 f0 p = valB ((f0.drop p.toNat).take 4) := by
 unfold num4
 exact qEA _ (qDq (qBF hb p.toNat) 4) (by rw [List.length_take]; omega)
theorem int_good (f0 : List Int) (hb : qBh f0) (p : Int) (hp : Pl f0 p) : Rd f0 (fun _ => qAF.f f0 p 0) (intP (f0.drop p.toNat)) := by
 have hd := qE2 f0 p hp
 unfold intP
 by_cases h : 4 ≤ (f0.drop p.toNat).length
 rotate_left
 ·rw [if_neg h]
  have hp2 : ¬ p + 4 ≤ f0.length := by have := hp.1; omega
  exact Rd.no (x := 0) (p := p) (e := 40) (Ev.congr (f := fun _ => some (0, p, 40)) (fun k => by simp [qAF.f, hp2]) (Ev.now _)) (by decide)
 rw [if_pos h, qC3 f0 p 4 hp]
 have hp2 : p + 4 ≤ f0.length := by have := hp.1; omega
 have hn := num4_eq f0 hb p hp h
 by_cases hv : valB ((f0.drop p.toNat).take 4) ≤ 2147483647
 rotate_left
 ·rw [if_neg hv]
  exact Rd.no (x := 0) (p := p + 4) (e := 42) (Ev.congr (f := fun _ => some (0, p + 4, 42)) (fun k => by simp [qAF.f, hp2, hn, hv]) (Ev.now _)) (by decide)
 rw [if_pos hv]
 exact Rd.ok (Ev.congr (f := fun _ => some (valB ((f0.drop p.toNat).take 4), p + (4 : Nat), 0)) (fun k => by simp [qAF.f, hp2, hn, hv]) (Ev.now _)) ⟨by have := hp.1; omega, hp2⟩
theorem raw_good (f0 : List Int) (hb : qBh f0) (most : Int) (hm : 0 ≤ most) (p : Int) (hp : Pl f0 p) : Rd f0 (fun _ => qA2.f f0 p 0 most) (rawP most (f0.drop p.toNat)) := by
 have hd := qE2 f0 p hp
 have hmx : mx most 0 = most := by unfold mx; omega
 unfold rawP intP
 by_cases h : 4 ≤ (f0.drop p.toNat).length
 rotate_left
 ·rw [if_neg h]
  have hp2 : ¬ p + 4 ≤ f0.length := by have := hp.1; omega
  refine Rd.no (x := []) (p := p) (e := 40) (Ev.congr (f := fun _ => some ([], p, 40)) (fun k => ?_) (Ev.now _)) (by decide)
  unfold qA2.f
  rw [if_neg (by simp), if_neg hp2]
 rw [if_pos h, qC3 f0 p 4 hp]
 have hp2 : p + 4 ≤ f0.length := by have := hp.1; omega
 have hp4 : Pl f0 (p + (4 : Nat)) := ⟨by have := hp.1; omega, hp2⟩
 have hn := num4_eq f0 hb p hp h
 have hd4 := qE2 f0 _ hp4
 have hv0 := (qDT _ (qDq (qBF hb p.toNat) 4)).1
 generalize valB ((f0.drop p.toNat).take 4) = n at *
 by_cases hv : n ≤ 2147483647
 rotate_left
 ·rw [if_neg hv]
  refine Rd.no (x := []) (p := p + 4) (e := 42) (Ev.congr (f := fun _ => some ([], p + 4, 42)) (fun k => ?_) (Ev.now _)) (by decide)
  unfold qA2.f
  rw [hn, hmx, if_neg (by simp), if_pos hp2, if_neg hv]
 rw [if_pos hv]
 simp only [Option.bind_some]
 by_cases hq : n ≤ most ∧ n ≤ (f0.drop (p + (4 : Nat)).toNat).length
 ·rw [if_pos hq]
  have hq2 : p + 4 + n ≤ f0.length := by have := hp.1; omega
  have hdd := qC3 f0 (p + (4 : Nat)) n.toNat hp4
  rw [hdd]
  refine Rd.ok (p := p + (4 : Nat) + (n.toNat : Nat)) (Ev.congr (f := fun _ => some ((f0.drop (p + (4 : Nat)).toNat).take n.toNat, p + (4 : Nat) + (n.toNat : Nat), 0)) (fun k => ?_) (Ev.now _)) ⟨by have := hp.1; omega, by omega⟩
  unfold qA2.f
  rw [hn, hmx, if_neg (by simp), if_pos hp2, if_pos hv, if_pos hq.1, if_pos hq2]
  rw [show ((n.toNat : Nat) : Int) = n from by omega]; rfl
 rw [if_neg hq]
 by_cases hq1 : n ≤ most
 rotate_left
 ·refine Rd.no (x := []) (p := p + 4) (e := 3) (Ev.congr (f := fun _ => some ([], p + 4, 3)) (fun k => ?_) (Ev.now _)) (by decide)
  unfold qA2.f
  rw [hn, hmx, if_neg (by simp), if_pos hp2, if_pos hv, if_neg hq1]
 have hq2 : ¬ p + 4 + n ≤ f0.length := fun hh => hq ⟨hq1, by have := hp.1; omega⟩
 refine Rd.no (x := []) (p := p + 4) (e := 40) (Ev.congr (f := fun _ => some ([], p + 4, 40)) (fun k => ?_) (Ev.now _)) (by decide)
 unfold qA2.f
 rw [hn, hmx, if_neg (by simp), if_pos hp2, if_pos hv, if_pos hq1, if_neg hq2]
theorem qDa (f0 : List Int) (hb : qBh f0) (most : Int) (hm : 0 ≤ most) (p : Int) (hp : Pl f0 p) : Rd f0 (fun _ => qAx.f f0 p 0 most) (textP most (f0.drop p.toNat)) := by
 have h := raw_good f0 hb most hm p hp
 refine Rd.congr (g := fun k => (qA2.f f0 p 0 most).bind fun b => some (strOfNums b.1, b.2.1, b.2.2)) (s := (rawP most (f0.drop p.toNat)).bind fun a => some (strOfNums a.1, a.2)) ?_ (fun k => rfl) (by unfold textP; cases rawP most (f0.drop p.toNat) <;> rfl)
 exact Rd.bind h (fun x p hp _ => Rd.ok (Ev.now _) hp) (fun x p e he => Rd.no (Ev.now _) he)
end Q
end
section
namespace Q
open Go.RowKit PA PB PC
theorem drop_cons' {α : Type} (l : List α) (d : α) (i : Int) (h0 : 0 ≤ i) (h : i < l.length) : l.drop i.toNat = l.getD i.toNat d :: l.drop (i + 1).toNat := by
 rw [show (i + 1).toNat = i.toNat + 1 from by omega, List.drop_eq_getElem_cons (by omega), List.getD_eq_getElem?_getD, List.getElem?_eq_getElem (by omega)]; rfl
end Q
end
section
namespace Q
open Go.RowKit PA PB PC
open DecLaw
theorem qDO (r : List Int) (hb : qBh r) (a : Int × List Int) (h : intP r = some a) : 0 ≤ a.1 ∧ a.1 ≤ 2147483647 := by
 unfold intP at h
 split at h
 ·split at h
  ·rename_i h2
   obtain rfl := Option.some.inj h
   exact ⟨(qDT _ (qDq hb 4)).1, h2⟩
  cases h
 cases h
end Q
end
section
namespace Q
open Go.RowKit PA PB PC
open Val Ins
def okT (t : Int) : Bool := decide (1 ≤ t ∧ t ≤ 3)
theorem okT_true {t : Int} (h1 : 1 ≤ t) (h2 : t ≤ 3) : okT t = true := by unfold okT; simp [h1, h2]
theorem qD6 {t : Int} (h : t < 1 ∨ 3 < t) : okT t = false := by unfold okT; simp; omega
theorem qEM (t : Int) (w : World) : Calls Try.prog 121 #[.int .i64 t] w fun e w' => e = .returned (.bool (okT t)) ∧ w' = w := by
 by_cases h1 : 1 ≤ t
 rotate_left
 ·rw [qD6 (by omega)]
  go_enter Try.func121, Try.ntmps121
  go_wp2
  go_ret
  exact ⟨rfl, rfl⟩
 by_cases h2 : t ≤ 3
 ·rw [okT_true h1 h2]
  go_enter Try.func121, Try.ntmps121
  go_wp2
  go_ret
  exact ⟨rfl, rfl⟩
 rw [qD6 (by omega)]
 go_enter Try.func121, Try.ntmps121
 go_wp2
 go_ret
 exact ⟨rfl, rfl⟩
def nmT (t : Int) : ByteArray := if t = 1 then ⟨#[105, 110, 116]⟩ else if t = 2 then ⟨#[102, 108, 111, 97, 116]⟩ else if t = 3 then ⟨#[98, 111, 111, 108]⟩ else ⟨#[]⟩
theorem name_no (t : Int) (h : okT t = false) (w : World) : Calls Try.prog 112 #[.int .i64 t] w fun e w' => e = .returned (.string ⟨#[]⟩) ∧ w' = w := by
 have H := Base.hid h
 clear h
 go_enter Try.func112, Try.ntmps112
 go_wp2_with (go_at_call 121; refine (qEM t _).mono ?_; rintro e w1 ⟨rfl, rfl⟩; have H1 := H.out; rw [H1])
 go_ret
 exact ⟨rfl, rfl⟩
theorem name_yes (t : Int) (s : ByteArray) (h : okT t = true) (hi : ∀ w, (Instr.index 198 (.agg #[.string ⟨#[]⟩, .string ⟨#[105, 110, 116]⟩, .string ⟨#[102, 108, 111, 97, 116]⟩, .string ⟨#[98, 111, 111, 108]⟩]) (.int .i64 t)).run Try.prog w = .ok (.string s) w) (w : World) : Calls Try.prog 112 #[.int .i64 t] w fun e w' => e = .returned (.string s) ∧ w' = w := by
 have H := Base.hid h
 clear h
 go_enter Try.func112, Try.ntmps112
 go_wp2_with (go_at_call 121; refine (qEM t _).mono ?_; rintro e w1 ⟨rfl, rfl⟩; have H1 := H.out; rw [H1])
 go_ret
 exact ⟨rfl, rfl⟩
theorem name_any (t : Int) (w : World) : Calls Try.prog 112 #[.int .i64 t] w fun e w' => e = .returned (.string (nmT t)) ∧ w' = w := by
 by_cases h1 : t = 1
 ·subst h1; exact name_yes 1 _ rfl (fun w => by kernel_rfl) w
 by_cases h2 : t = 2
 ·subst h2; exact name_yes 2 _ rfl (fun w => by kernel_rfl) w
 by_cases h3 : t = 3
 ·subst h3; exact name_yes 3 _ rfl (fun w => by kernel_rfl) w
 rw [show nmT t = ⟨#[]⟩ from by unfold nmT; rw [if_neg h1, if_neg h2, if_neg h3]]
 exact name_no t (qD6 (by omega)) w
theorem qEB (t : Int) (w : World) : Calls Try.prog 88 #[.int .i64 t] w fun e w' => e = .returned (.bool (okT t)) ∧ w' = w := by
 have hn := name_any t
 have hq : (!(nmT t).toList.isEmpty) = okT t := by
  rw [Lib.toList_data]
  by_cases h1 : t = 1
  ·subst h1; rfl
  by_cases h2 : t = 2
  ·subst h2; rfl
  by_cases h3 : t = 3
  ·subst h3; rfl
  rw [qD6 (by omega), show nmT t = ⟨#[]⟩ from by unfold nmT; rw [if_neg h1, if_neg h2, if_neg h3]]; rfl
 obtain ⟨s, hs⟩ : ∃ s, s = nmT t := ⟨_, rfl⟩
 rw [← hs] at hq hn
 have HN := Base.hid hn
 have HQ := Base.hid hq
 clear hn hq hs
 go_enter Try.func88, Try.ntmps88
 go_wp2_with (go_at_call 112; refine (HN.out _).mono ?_; rintro e w1 ⟨rfl, rfl⟩)
 go_ret
 exact ⟨by rw [← HQ.out]; rfl, rfl⟩
theorem unvalued_any (t : Int) (w : World) : Calls Try.prog 87 #[.int .i64 t] w fun e w' => e = .returned (.bool (!okT t)) ∧ w' = w := by
 go_enter Try.func87, Try.ntmps87
 go_wp2_with (go_at_call 88; refine (qEB t _).mono ?_; rintro e w1 ⟨rfl, rfl⟩)
 go_ret
 exact ⟨rfl, rfl⟩
theorem qDG {α : Type} (p : α → Bool) (l : List α) (k : Nat) (x : α) (hx : l[k]? = some x) (h : p x = true) : l.any p = true :=
 List.any_eq_true.2 ⟨x, List.mem_of_getElem? hx, h⟩
theorem qEm {α : Type} (p : α → Bool) (l : List α) (h : ∀ (j : Nat) (x : α), l[j]? = some x → p x = false) : l.any p = false := by
 rw [List.any_eq_false]
 intro x hx
 obtain ⟨j, hj⟩ := List.getElem?_of_mem hx
 rw [h j x hj]; decide
def IdxPost (b : Bool) (W0 : World) (e : Ending) (w' : World) : Prop := ∃ i : Int, e = .returned (.int .i64 i) ∧ (0 ≤ i ↔ b = true) ∧ Below W0.heap.size W0 w'
theorem qCu {α : Type} (l : List α) (d : α) (k : Nat) (h : k < l.length) : l[k]? = some (l.getD k d) := by rw [List.getD_eq_getElem?_getD, List.getElem?_eq_getElem h]; rfl
theorem idx_ints (A : Option Addr) (c : Nat) (l : List Int) (w : World) (hr : Kd.C (Kd.int .i64) w A l.length l) (hl : l.length ≤ 4611686018427387904) :
  Calls Try.prog 111 #[.slice A l.length c, .func (.func 87) #[] #[]] w (IdxPost (l.any fun t => !okT t) w) := by
 obtain ⟨n, hn⟩ : ∃ n, n = l.length := ⟨_, rfl⟩
 rw [← hn]
 have HR := am hr
 have HN := am hn
 rw [← hn] at hl
 clear hr hn
 go_enter Try.func111, Try.ntmps111
 go_wp2
 go_loopg [5, 8] n (fun gg _ s8 wr => ∃ kk : Nat, kk ≤ n ∧ n - kk ≤ gg ∧ s8 = .int .i64 kk ∧ qAa (∀ j x, j < kk → l[j]? = some x → (!okT x) = false) ∧ wr = w)
 case atStart => exact ⟨0, Nat.zero_le _, by omega, rfl, ⟨fun j x hj => absurd hj (Nat.not_lt_zero _)⟩, rfl⟩
 case round =>
  obtain ⟨kk, hkk, hg, rfl, HA, rfl⟩ := hrel
  by_cases hlt : kk < n
  rotate_left
  ·have hltz : ¬ (kk : Int) < (n : Int) := by omega
   have : kk = n := by omega
   subst this
   go_wp2
   go_ret
   refine ⟨-1, rfl, ?_, Below.refl _ _⟩
   rw [qEm _ l fun j x hj => HA.out j x (by rw [HN.out]; exact (List.getElem?_eq_some_iff.1 hj).1) hj]
   simp
  have hltz : (kk : Int) < (n : Int) := by omega
  have h0 : (0 : Int) ≤ (kk : Int) := by omega
  obtain ⟨ad, ea, hx⟩ := Kd.at_int HR.out (kk : Int) h0 (by have := HN.out; omega)
  subst ea
  rw [Int.toNat_natCast] at hx
  have hc := unvalued_any (rd l (kk : Int))
  obtain ⟨x, hx0⟩ : ∃ x, x = rd l (kk : Int) := ⟨_, rfl⟩
  rw [← hx0] at hx hc
  have HX : qAa (l[kk]? = some x) := ⟨by rw [hx0]; exact qCu l 0 kk (by have := HN.out; omega)⟩
  have HC := am hc
  clear hx0 hc
  cases hq : okT x with
  | false =>
   have HQ := am hq
   clear hq
   go_wp2_with (go_at_call 87; refine (HC.out _).mono ?_; rintro e w1 ⟨rfl, rfl⟩; rw [HQ.out])
   go_ret
   exact ⟨kk, rfl, ⟨fun _ => qDG _ l kk x HX.out (by rw [HQ.out]; rfl), fun _ => h0⟩, Below.refl _ _⟩
  | true =>
   have HQ := am hq
   clear hq
   go_wp2_with (go_at_call 87; refine (HC.out _).mono ?_; rintro e w1 ⟨rfl, rfl⟩; rw [HQ.out])
   go_roundg (n - (kk + 1))
   case measure => omega
   case rel =>
    refine ⟨kk + 1, by omega, by omega, by go_num, ⟨fun j y hj hy => ?_⟩, rfl⟩
    by_cases e : j = kk
    rotate_left
    ·exact HA.out j y (by omega) hy
    subst e
    rw [HX.out] at hy; injection hy with hy; subst hy; rw [HQ.out]; rfl
theorem has_ints (A : Option Addr) (c : Nat) (l : List Int) (w : World) (hr : Kd.C (Kd.int .i64) w A l.length l) (hl : l.length ≤ 4611686018427387904) :
  Calls Try.prog 86 #[.slice A l.length c, .func (.func 87) #[] #[]] w fun e w' => e = .returned (.bool (l.any fun t => !okT t)) ∧ Below w.heap.size w w' := by
 have HI := am (idx_ints A c l w hr hl)
 obtain ⟨b, hb⟩ : ∃ b, b = l.any fun t => !okT t := ⟨_, rfl⟩
 rw [← hb] at HI ⊢
 clear hb hr hl
 go_enter Try.func86, Try.ntmps86
 go_wp2_with (go_at_call 111; refine (HI.out).mono ?_; rintro e w1 ⟨i, rfl, hi, hw⟩; have HB := am hw; have HQ := am hi; clear hi hw)
 go_ret
 refine ⟨?_, HB.out⟩
 have := HQ.out
 congr 2
 cases b <;> simp_all
theorem all_ints (A : Option Addr) (c : Nat) (l : List Int) (w : World) (hr : Kd.C (Kd.int .i64) w A l.length l) (hl : l.length ≤ 4611686018427387904) :
  Calls Try.prog 85 #[.slice A l.length c] w fun e w' => e = .returned (.bool (l.all okT)) ∧ Below w.heap.size w w' := by
 have HI := am (has_ints A c l w hr hl)
 have hq : (!l.any fun t => !okT t) = l.all okT := by rw [List.not_any_eq_all_not]; simp
 obtain ⟨b, hb⟩ : ∃ b, b = l.any fun t => !okT t := ⟨_, rfl⟩
 rw [← hb] at HI hq
 rw [← hq]
 clear hb hr hl hq
 go_enter Try.func85, Try.ntmps85
 go_wp2_with (go_at_call 86; refine (HI.out).mono ?_; rintro e w1 ⟨rfl, hw⟩; have HB := am hw; clear hw)
 go_ret
 exact ⟨rfl, HB.out⟩
theorem unright_any (op n ty b : Int) (hb : U64 b) (w : World) : Calls Try.prog 90 #[.agg #[.int .i64 op, .int .i64 n, .int .i64 ty, .int .u64 b]] w fun e w' => e = .returned (.bool (!okI op n ty b)) ∧ Below w.heap.size w w' := by
 have HR := am (fun W => qCW op n ty b hb W)
 unfold insV at HR
 clear hb
 go_enter Try.func90, Try.ntmps90
 go_wp2_with (go_at_call 91; refine (HR.out _).mono ?_; rintro e w1 ⟨rfl, hw⟩; have HB := am hw; clear hw)
 go_ret
 exact ⟨rfl, ((Below.refl _ _).alloc (Nat.le_refl _) _).trans (HB.out.mono (by simp))⟩
def okS (x : S115) : Bool := okI x.f0 x.f1 x.f2.f0 x.f2.f1
def u64S (x : S115) : Bool := decide (0 ≤ x.f2.f1 ∧ x.f2.f1 < 18446744073709551616)
theorem u64S_U {x : S115} (h : u64S x = true) : U64 x.f2.f1 := by
 have h := of_decide_eq_true (p := 0 ≤ x.f2.f1 ∧ x.f2.f1 < 18446744073709551616) h
 exact ⟨h.1, by omega⟩
theorem idx_ins (A : Option Addr) (c : Nat) (l : List S115) (w : World) (hr : Kd.C k115 w A l.length l) (hl : l.length ≤ 4611686018427387904) (hu : ∀ x ∈ l, u64S x = true) :
  Calls Try.prog 113 #[.slice A l.length c, .func (.func 90) #[] #[]] w (IdxPost (l.any fun x => !okS x) w) := by
 obtain ⟨n, hn⟩ : ∃ n, n = l.length := ⟨_, rfl⟩
 rw [← hn]
 have HR := am hr
 have HN := am hn
 have HU := am hu
 rw [← hn] at hl
 clear hr hn hu
 go_enter Try.func113, Try.ntmps113
 go_wp2
 go_loopg [5, 8] n (fun gg _ s8 wr => ∃ kk : Nat, kk ≤ n ∧ n - kk ≤ gg ∧ s8 = .int .i64 kk ∧ qAa (∀ (j : Nat) x, j < kk → l[j]? = some x → (!okS x) = false) ∧ qAa (Below w.heap.size w wr))
 case atStart => exact ⟨0, Nat.zero_le _, by omega, rfl, ⟨fun j x hj => absurd hj (Nat.not_lt_zero _)⟩, ⟨Below.refl _ _⟩⟩
 case round =>
  obtain ⟨kk, hkk, hg, rfl, HA, HB⟩ := hrel
  by_cases hlt : kk < n
  rotate_left
  ·have hltz : ¬ (kk : Int) < (n : Int) := by omega
   have : kk = n := by omega
   subst this
   go_wp2
   go_ret
   refine ⟨-1, rfl, ?_, HB.out⟩
   rw [qEm _ l fun j x hj => HA.out j x (by rw [HN.out]; exact (List.getElem?_eq_some_iff.1 hj).1) hj]
   simp
  have hltz : (kk : Int) < (n : Int) := by omega
  have h0 : (0 : Int) ≤ (kk : Int) := by omega
  obtain ⟨ad, ea, hx0, hx1, hx2, hx3⟩ := qDo HR.out (kk : Int) h0 (by have := HN.out; omega)
  subst ea
  rw [Int.toNat_natCast] at hx0 hx1 hx2 hx3
  replace hx0 := cb HB hx0
  replace hx1 := cb HB hx1
  replace hx2 := cb HB hx2
  replace hx3 := cb HB hx3
  obtain ⟨x, hx⟩ : ∃ x, x = qAy l (kk : Int) := ⟨_, rfl⟩
  rw [← hx] at hx0 hx1 hx2 hx3
  have HX : qAa (l[kk]? = some x) := ⟨by rw [hx]; exact qCu l z115 kk (by have := HN.out; omega)⟩
  clear hx
  obtain ⟨op, nn, ⟨ty, bb⟩⟩ := x
  dsimp only at hx0 hx1 hx2 hx3
  have HC := am (fun W => unright_any op nn ty bb (u64S_U (HU.out _ (List.mem_of_getElem? HX.out))) W)
  cases hq : okI op nn ty bb with
  | false =>
   have HQ := am hq
   clear hq
   go_wp2_with (go_at_call 90; refine (HC.out _).mono ?_; rintro e w1 ⟨rfl, hw⟩; rw [HQ.out]; have HB1 := am (qA3 HB.out HB.out.size hw); clear hw)
   go_ret
   exact ⟨kk, rfl, ⟨fun _ => qDG _ l kk _ HX.out (by unfold okS; dsimp only; rw [HQ.out]; rfl), fun _ => h0⟩, HB1.out⟩
  | true =>
   have HQ := am hq
   clear hq
   go_wp2_with (go_at_call 90; refine (HC.out _).mono ?_; rintro e w1 ⟨rfl, hw⟩; rw [HQ.out]; have HB1 := am (qA3 HB.out HB.out.size hw); clear hw)
   go_roundg (n - (kk + 1))
   case measure => omega
   case rel =>
    refine ⟨kk + 1, by omega, by omega, by go_num, ⟨fun j y hj hy => ?_⟩, HB1⟩
    by_cases e : j = kk
    rotate_left
    ·exact HA.out j y (by omega) hy
    subst e
    rw [HX.out] at hy; injection hy with hy; subst hy; unfold okS; dsimp only; rw [HQ.out]; rfl
theorem has_ins (A : Option Addr) (c : Nat) (l : List S115) (w : World) (hr : Kd.C k115 w A l.length l) (hl : l.length ≤ 4611686018427387904) (hu : ∀ x ∈ l, u64S x = true) :
  Calls Try.prog 89 #[.slice A l.length c, .func (.func 90) #[] #[]] w fun e w' => e = .returned (.bool (l.any fun x => !okS x)) ∧ Below w.heap.size w w' := by
 have HI := am (idx_ins A c l w hr hl hu)
 obtain ⟨b, hb⟩ : ∃ b, b = l.any fun x => !okS x := ⟨_, rfl⟩
 rw [← hb] at HI ⊢
 clear hb hr hl hu
 go_enter Try.func89, Try.ntmps89
 go_wp2_with (go_at_call 113; refine (HI.out).mono ?_; rintro e w1 ⟨i, rfl, hi, hw⟩; have HB := am hw; have HQ := am hi; clear hi hw)
 go_ret
 refine ⟨?_, HB.out⟩
 have := HQ.out
 congr 2
 cases b <;> simp_all
def okFn (l0 : List Int) (a1 : Int) (l2 : List Int) (l3 : List S115) : Bool :=
 decide (l0.length ≤ 8) && l0.all okT && (a1 == 0 || okT a1) && decide (l2.length ≤ 64) && l2.all okT && decide (l3.length ≤ 4096) && l3.all okS
def qBq.f (l0_0 : List Int) (a0_1 : Int) (l0_2 : List Int) (l0_3 : List (S115)) : Option (Bool) :=
 if l0_0.length ≤ 4611686018427387904 ∧ l0_2.length ≤ 4611686018427387904 ∧ l0_3.length ≤ 4611686018427387904 ∧ l0_3.all u64S = true then some (okFn l0_0 a0_1 l0_2 l0_3) else none
theorem qBq.calls (A0_0 : Option Addr) (c0_0 : Nat) (l0_0 : List Int) (a0_1 : Int) (A0_2 : Option Addr) (c0_2 : Nat) (l0_2 : List Int) (A0_3 : Option Addr) (c0_3 : Nat) (l0_3 : List (S115)) (r : Bool) (w : World) (hr0_0 : Kd.C (Kd.int .i64) w A0_0 l0_0.length l0_0) (hc0_0 : l0_0.length ≤ c0_0) (hr0_2 : Kd.C (Kd.int .i64) w A0_2 l0_2.length l0_2) (hc0_2 : l0_2.length ≤ c0_2) (hr0_3 : Kd.C k115 w A0_3 l0_3.length l0_3) (hc0_3 : l0_3.length ≤ c0_3) (h : qBq.f l0_0 a0_1 l0_2 l0_3 = some r) :
  Calls Try.prog 41 #[.agg #[.slice A0_0 l0_0.length c0_0, .int .i64 a0_1, .slice A0_2 l0_2.length c0_2, .slice A0_3 l0_3.length c0_3]] w fun e w' => e = .returned (.bool r) ∧ Below w.heap.size w w' := by
 unfold qBq.f at h
 split at h
 case isFalse => cases h
 rename_i hs
 obtain ⟨hl0, hl2, hl3, hu⟩ := hs
 injection h with h
 have hu' : ∀ x ∈ l0_3, u64S x = true := fun x hx => List.all_eq_true.1 hu x hx
 have H0 : qAa (∀ W, Below w.heap.size w W → Calls Try.prog 85 #[.slice A0_0 l0_0.length c0_0] W fun e w' => e = .returned (.bool (l0_0.all okT)) ∧ Below W.heap.size W w') := ⟨fun W hW => all_ints A0_0 c0_0 l0_0 W (Kd.C_below hr0_0 hW) hl0⟩
 have H2 : qAa (∀ W, Below w.heap.size w W → Calls Try.prog 85 #[.slice A0_2 l0_2.length c0_2] W fun e w' => e = .returned (.bool (l0_2.all okT)) ∧ Below W.heap.size W w') := ⟨fun W hW => all_ints A0_2 c0_2 l0_2 W (Kd.C_below hr0_2 hW) hl2⟩
 have H3 : qAa (∀ W, Below w.heap.size w W → Calls Try.prog 89 #[.slice A0_3 l0_3.length c0_3, .func (.func 90) #[] #[]] W fun e w' => e = .returned (.bool (l0_3.any fun x => !okS x)) ∧ Below W.heap.size W w') := ⟨fun W hW => has_ins A0_3 c0_3 l0_3 W (Kd.C_below hr0_3 hW) hl3 hu'⟩
 have hq3 : (!l0_3.any fun x => !okS x) = l0_3.all okS := by rw [List.not_any_eq_all_not]; simp
 unfold okFn at h
 obtain ⟨n0, hn0⟩ : ∃ n, n = l0_0.length := ⟨_, rfl⟩
 obtain ⟨n2, hn2⟩ : ∃ n, n = l0_2.length := ⟨_, rfl⟩
 obtain ⟨n3, hn3⟩ : ∃ n, n = l0_3.length := ⟨_, rfl⟩
 obtain ⟨b0, hb0⟩ : ∃ b, b = l0_0.all okT := ⟨_, rfl⟩
 obtain ⟨b2, hb2⟩ : ∃ b, b = l0_2.all okT := ⟨_, rfl⟩
 obtain ⟨b3, hb3⟩ : ∃ b, b = l0_3.any fun x => !okS x := ⟨_, rfl⟩
 rw [← hn0, ← hn2, ← hn3]
 rw [← hn0, ← hb0] at H0
 rw [← hn2, ← hb2] at H2
 rw [← hn3, ← hb3] at H3
 rw [← hb3] at hq3
 rw [← hn0, ← hn2, ← hn3, ← hb0, ← hb2, ← hq3] at h
 have hv0 : 0 ≤ n0 := Nat.zero_le _
 clear hn0 hn2 hn3 hb0 hb2 hb3 hr0_0 hr0_2 hr0_3 hc0_0 hc0_2 hc0_3 hl0 hl2 hl3 hu hu' hq3 hv0
 have HB0 := am ((Below.refl w.heap.size w).alloc (Nat.le_refl _) (.cells #[.slice A0_0 n0 c0_0, .int .i64 a0_1, .slice A0_2 n2 c0_2, .slice A0_3 n3 c0_3] 77))
 have HV := am (fun W => qEB a0_1 W)
 by_cases c1 : n0 ≤ 8
 case neg =>
  obtain rfl : r = false := by rw [← h]; simp [c1]
  clear h H0 H2 H3 HV HB0
  go_enter Try.func41, Try.ntmps41
  go_wp2
  go_ret
  exact ⟨rfl, (Below.refl _ _).alloc (Nat.le_refl _) _⟩
 obtain ⟨WA, hWA⟩ : ∃ WA, WA = w.alloc (.cells #[.slice A0_0 n0 c0_0, .int .i64 a0_1, .slice A0_2 n2 c0_2, .slice A0_3 n3 c0_3] 77) := ⟨_, rfl⟩
 have hBA : Below w.heap.size w WA := hWA ▸ HB0.out
 have k0 : WA.cell? ⟨w.heap.size, 0, none⟩ = some (.slice A0_0 n0 c0_0) := by rw [hWA, World.cell?_alloc_at _ _ _ _ rfl]; rfl
 have k1 : WA.cell? ⟨w.heap.size, 1, none⟩ = some (.int .i64 a0_1) := by rw [hWA, World.cell?_alloc_at _ _ _ _ rfl]; rfl
 have k2 : WA.cell? ⟨w.heap.size, 2, none⟩ = some (.slice A0_2 n2 c0_2) := by rw [hWA, World.cell?_alloc_at _ _ _ _ rfl]; rfl
 have k3 : WA.cell? ⟨w.heap.size, 3, none⟩ = some (.slice A0_3 n3 c0_3) := by rw [hWA, World.cell?_alloc_at _ _ _ _ rfl]; rfl
 have hsA : w.heap.size < WA.heap.size := by rw [hWA]; simp
 have HWA := am hWA
 clear hWA HB0
 go_enter Try.func41, Try.ntmps41
 go_wp2_with fail
 rw [← HWA.out]
 go_wp2_with fail
 refine (H0.out _ hBA).mono ?_
 rintro e w1 ⟨rfl, hb⟩
 have m0 : w1.cell? ⟨w.heap.size, 0, none⟩ = some (.slice A0_0 n0 c0_0) := (hb.cell (p := ⟨w.heap.size, 0, none⟩) hsA).trans k0
 have m1 : w1.cell? ⟨w.heap.size, 1, none⟩ = some (.int .i64 a0_1) := (hb.cell (p := ⟨w.heap.size, 1, none⟩) hsA).trans k1
 have m2 : w1.cell? ⟨w.heap.size, 2, none⟩ = some (.slice A0_2 n2 c0_2) := (hb.cell (p := ⟨w.heap.size, 2, none⟩) hsA).trans k2
 have m3 : w1.cell? ⟨w.heap.size, 3, none⟩ = some (.slice A0_3 n3 c0_3) := (hb.cell (p := ⟨w.heap.size, 3, none⟩) hsA).trans k3
 have hs1 : w.heap.size < w1.heap.size := Nat.lt_of_lt_of_le hsA hb.size
 have HB1 := am (qA3 hBA hBA.size hb)
 clear hb k0 k1 k2 k3
 cases b0 with
 | false =>
  obtain rfl : r = false := by rw [← h]; simp
  clear h
  go_wp2
  go_ret
  exact ⟨rfl, HB1.out⟩
 | true =>
  by_cases c3 : a0_1 = 0
  ·have c3' : (a0_1 == 0) = true := beq_iff_eq.mpr c3
   simp only [c3', Bool.true_or, Bool.and_true] at h
   clear c3
   by_cases c5 : n2 ≤ 64
   case neg =>
    obtain rfl : r = false := by rw [← h]; simp [c5]
    clear h
    go_wp2
    go_ret
    exact ⟨rfl, HB1.out⟩
   go_wp2_with fail
   refine (H2.out _ HB1.out).mono ?_
   rintro e w2 ⟨rfl, hb⟩
   have p3 : w2.cell? ⟨w.heap.size, 3, none⟩ = some (.slice A0_3 n3 c0_3) := (hb.cell (p := ⟨w.heap.size, 3, none⟩) hs1).trans m3
   have HB2 := am (qA3 HB1.out HB1.out.size hb)
   clear hb m0 m1 m2 m3
   cases b2 with
   | false =>
    obtain rfl : r = false := by rw [← h]; simp
    clear h
    go_wp2
    go_ret
    exact ⟨rfl, HB2.out⟩
   | true =>
    by_cases c6 : n3 ≤ 4096
    case neg =>
     obtain rfl : r = false := by rw [← h]; simp [c6]
     clear h
     go_wp2
     go_ret
     exact ⟨rfl, HB2.out⟩
    obtain rfl : r = !b3 := by rw [← h]; simp [c1, c5, c6]
    clear h
    go_wp2_with fail
    refine (H3.out _ HB2.out).mono ?_
    rintro e w3 ⟨rfl, hb⟩
    have HB3 := am (qA3 HB2.out HB2.out.size hb)
    clear hb
    go_wp2
    go_ret
    exact ⟨rfl, HB3.out⟩
  have c3' : (a0_1 == 0) = false := beq_eq_false_iff_ne.mpr c3
  obtain ⟨b1, hb1⟩ : ∃ b, b = okT a0_1 := ⟨_, rfl⟩
  rw [← hb1] at HV h
  clear hb1
  go_wp2_with fail
  refine (HV.out _).mono ?_
  rintro e w1x ⟨rfl, rfl⟩
  cases b1 with
  | false =>
   obtain rfl : r = false := by rw [← h]; simp [c3']
   clear h
   go_wp2
   go_ret
   exact ⟨rfl, HB1.out⟩
  | true =>
   simp only [c3', Bool.false_or, Bool.and_true] at h
   by_cases c5 : n2 ≤ 64
   case neg =>
    obtain rfl : r = false := by rw [← h]; simp [c5]
    clear h
    go_wp2
    go_ret
    exact ⟨rfl, HB1.out⟩
   go_wp2_with fail
   refine (H2.out _ HB1.out).mono ?_
   rintro e w2 ⟨rfl, hb⟩
   have p3 : w2.cell? ⟨w.heap.size, 3, none⟩ = some (.slice A0_3 n3 c0_3) := (hb.cell (p := ⟨w.heap.size, 3, none⟩) hs1).trans m3
   have HB2 := am (qA3 HB1.out HB1.out.size hb)
   clear hb m0 m1 m2 m3
   cases b2 with
   | false =>
    obtain rfl : r = false := by rw [← h]; simp
    clear h
    go_wp2
    go_ret
    exact ⟨rfl, HB2.out⟩
   | true =>
    by_cases c6 : n3 ≤ 4096
    case neg =>
     obtain rfl : r = false := by rw [← h]; simp [c6]
     clear h
     go_wp2
     go_ret
     exact ⟨rfl, HB2.out⟩
    obtain rfl : r = !b3 := by rw [← h]; simp [c1, c5, c6]
    clear h
    go_wp2_with fail
    refine (H3.out _ HB2.out).mono ?_
    rintro e w3 ⟨rfl, hb⟩
    have HB3 := am (qA3 HB2.out HB2.out.size hb)
    clear hb
    go_wp2
    go_ret
    exact ⟨rfl, HB3.out⟩
def bareB (r p : S82) : Bool := r.f0 == p.f0 && (r.f1 == p.f1 && r.f2 == p.f2)
theorem bare_any (a0 a1 a2 b0 b1 b2 : Int) (a3 a4 b3 b4 : ByteArray) (w : World) : Calls Try.prog 93 #[.agg #[.int .i64 a0, .int .i64 a1, .int .i64 a2, .string a3, .string a4], .agg #[.int .i64 b0, .int .i64 b1, .int .i64 b2, .string b3, .string b4]] w fun e w' => e = .returned (.bool (a0 == b0 && (a1 == b1 && a2 == b2))) ∧ Below w.heap.size w w' := by
 cases h0 : a0 == b0 with
 | false =>
  go_enter Try.func93, Try.ntmps93
  go_wp2
  go_ret
  exact ⟨rfl, ((Below.refl _ _).alloc (Nat.le_refl _) _).alloc (by simp) _⟩
 | true =>
  cases h1 : a1 == b1 with
  | false =>
   go_enter Try.func93, Try.ntmps93
   go_wp2
   go_ret
   exact ⟨rfl, ((Below.refl _ _).alloc (Nat.le_refl _) _).alloc (by simp) _⟩
  | true =>
   obtain ⟨b, hb⟩ : ∃ b, b = (a2 == b2) := ⟨_, rfl⟩
   rw [← hb]
   have hb' := hb.symm
   clear hb
   go_enter Try.func93, Try.ntmps93
   go_wp2
   go_ret
   exact ⟨rfl, ((Below.refl _ _).alloc (Nat.le_refl _) _).alloc (by simp) _⟩
def qBS : List S82 → List S82 → Bool
 | [], [] => true
 | x :: xs, y :: ys => bareB x y && qBS xs ys
 | _, _ => false
theorem qDJ : ∀ (a b : List S82), qBS a b = true → a.length = b.length
 | [], [], _ => rfl
 | [], _ :: _, h => by cases h
 | _ :: _, [], h => by cases h
 | x :: xs, y :: ys, h => by simp only [qBS, Bool.and_eq_true] at h; simp [qDJ xs ys h.2]
theorem qE3 : ∀ (a b : List S82), a.length = b.length → (∀ (j : Nat) x y, a[j]? = some x → b[j]? = some y → bareB x y = true) → qBS a b = true
 | [], [], _, _ => rfl
 | [], _ :: _, h, _ => by simp at h
 | _ :: _, [], h, _ => by simp at h
 | x :: xs, y :: ys, hl, h => by
  simp only [qBS, Bool.and_eq_true]
  exact ⟨h 0 x y rfl rfl, qE3 xs ys (by simpa using hl) fun j u v hu hv => h (j + 1) u v (by simpa using hu) (by simpa using hv)⟩
theorem qDY : ∀ (a b : List S82) (j : Nat) x y, a[j]? = some x → b[j]? = some y → bareB x y = false → qBS a b = false
 | [], _, j, x, y, h, _, _ => by simp at h
 | _ :: _, [], j, x, y, _, h, _ => by simp at h
 | x :: xs, y :: ys, 0, u, v, hu, hv, h => by
  simp only [List.getElem?_cons_zero, Option.some.injEq] at hu hv
  subst hu; subst hv
  simp [qBS, h]
 | x :: xs, y :: ys, j + 1, u, v, hu, hv, h => by
  simp only [List.getElem?_cons_succ] at hu hv
  simp [qBS, qDY xs ys j u v hu hv h]
theorem eqf_any (A1 A2 : Option Addr) (c1 c2 : Nat) (l1 l2 : List S82) (w : World) (hr1 : Kd.C k82 w A1 l1.length l1) (hr2 : Kd.C k82 w A2 l2.length l2) (hl : l1.length ≤ 4611686018427387904) :
  Calls Try.prog 94 #[.slice A1 l1.length c1, .slice A2 l2.length c2, .func (.func 93) #[] #[]] w fun e w' => e = .returned (.bool (qBS l1 l2)) ∧ Below w.heap.size w w' := by
 obtain ⟨n1, hn1⟩ : ∃ n, n = l1.length := ⟨_, rfl⟩
 obtain ⟨n2, hn2⟩ : ∃ n, n = l2.length := ⟨_, rfl⟩
 rw [← hn1] at hr1 hl ⊢
 rw [← hn2] at hr2 ⊢
 have HR1 := am hr1
 have HR2 := am hr2
 have HN1 := am hn1
 have HN2 := am hn2
 clear hr1 hr2 hn1 hn2
 by_cases hne : n1 = n2
 case neg =>
  have hq : ((n1 : Int) != (n2 : Int)) = true := bne_iff_ne.mpr (by omega)
  have HF : qAa (qBS l1 l2 = false) := ⟨by
    cases h : qBS l1 l2 with
    | false => rfl
    | true => exact absurd (by rw [HN1.out, HN2.out]; exact qDJ _ _ h) hne⟩
  go_enter Try.func94, Try.ntmps94
  go_wp2
  go_ret
  exact ⟨by rw [HF.out]; rfl, Below.refl _ _⟩
 subst hne
 have hq : ((n1 : Int) != (n1 : Int)) = false := bne_eq_false_iff_eq.mpr rfl
 go_enter Try.func94, Try.ntmps94
 go_wp2
 go_loopg [7, 8, 9, 17] n1 (fun gg _ _ _ s17 wr => ∃ kk : Nat, kk ≤ n1 ∧ n1 - kk ≤ gg ∧ s17 = .int .i64 kk ∧ qAa (∀ (j : Nat) x y, j < kk → l1[j]? = some x → l2[j]? = some y → bareB x y = true) ∧ qAa (Below w.heap.size w wr))
 case atStart => exact ⟨0, Nat.zero_le _, by omega, rfl, ⟨fun j x y hj => absurd hj (Nat.not_lt_zero _)⟩, ⟨Below.refl _ _⟩⟩
 case round =>
  obtain ⟨kk, hkk, hg, rfl, HA, HB⟩ := hrel
  by_cases hlt : kk < n1
  rotate_left
  ·have hltz : ¬ (kk : Int) < (n1 : Int) := by omega
   have : kk = n1 := by omega
   subst this
   go_wp2
   go_ret
   refine ⟨?_, HB.out⟩
   rw [qE3 l1 l2 (by rw [← HN1.out, ← HN2.out]) fun j x y hx hy => HA.out j x y (by rw [HN1.out]; exact (List.getElem?_eq_some_iff.1 hx).1) hx hy]
   rfl
  have hltz : (kk : Int) < (n1 : Int) := by omega
  have h0 : (0 : Int) ≤ (kk : Int) := by omega
  obtain ⟨ad, ea, hx0, hx1, hx2, hx3, hx4⟩ := qDi HR1.out (kk : Int) h0 hltz
  subst ea
  obtain ⟨bd, eb, hy0, hy1, hy2, hy3, hy4⟩ := qDi HR2.out (kk : Int) h0 hltz
  subst eb
  rw [Int.toNat_natCast] at hx0 hx1 hx2 hx3 hx4 hy0 hy1 hy2 hy3 hy4
  replace hx0 := cb HB hx0
  replace hx1 := cb HB hx1
  replace hx2 := cb HB hx2
  replace hx3 := cb HB hx3
  replace hx4 := cb HB hx4
  replace hy0 := cb HB hy0
  replace hy1 := cb HB hy1
  replace hy2 := cb HB hy2
  replace hy3 := cb HB hy3
  replace hy4 := cb HB hy4
  obtain ⟨x, hx⟩ : ∃ x, x = qAT l1 (kk : Int) := ⟨_, rfl⟩
  obtain ⟨y, hy⟩ : ∃ x, x = qAT l2 (kk : Int) := ⟨_, rfl⟩
  rw [← hx] at hx0 hx1 hx2 hx3 hx4
  rw [← hy] at hy0 hy1 hy2 hy3 hy4
  have HX : qAa (l1[kk]? = some x) := ⟨by rw [hx]; exact qCu l1 z82 kk (by have := HN1.out; omega)⟩
  have HY : qAa (l2[kk]? = some y) := ⟨by rw [hy]; exact qCu l2 z82 kk (by have := HN2.out; omega)⟩
  clear hx hy
  obtain ⟨x0, x1, x2, x3, x4⟩ := x
  obtain ⟨y0, y1, y2, y3, y4⟩ := y
  dsimp only at hx0 hx1 hx2 hx3 hx4 hy0 hy1 hy2 hy3 hy4
  have HC := am (fun W => bare_any x0 x1 x2 y0 y1 y2 x3 x4 y3 y4 W)
  have hbl : (bd.add (kk * 5)).block < wr.heap.size := World.block_lt_of_cell? wr _ hy0
  obtain ⟨b, hb⟩ : ∃ b, b = (x0 == y0 && (x1 == y1 && x2 == y2)) := ⟨_, rfl⟩
  rw [← hb] at HC
  have HQ := am hb
  clear hb
  cases b with
  | false =>
   go_wp2_with (go_at_call 93; refine (HC.out _).mono ?_; rintro e w1 ⟨rfl, hw⟩; have HB2 := am (qA3 HB.out HB.out.size ((((Below.refl wr.heap.size wr).alloc (Nat.le_refl _) _).alloc (by simp) _).trans (hw.mono (by simp; omega)))); clear hw)
   go_ret
   refine ⟨?_, HB2.out⟩
   rw [qDY l1 l2 kk _ _ HX.out HY.out HQ.out.symm]; rfl
  | true =>
   go_wp2_with (go_at_call 93; refine (HC.out _).mono ?_; rintro e w1 ⟨rfl, hw⟩; have HB2 := am (qA3 HB.out HB.out.size ((((Below.refl wr.heap.size wr).alloc (Nat.le_refl _) _).alloc (by simp) _).trans (hw.mono (by simp; omega)))); clear hw)
   go_roundg (n1 - (kk + 1))
   case measure => omega
   case rel =>
    refine ⟨kk + 1, by omega, by omega, by go_num, ⟨fun j u v hj hu hv => ?_⟩, HB2⟩
    by_cases e : j = kk
    rotate_left
    ·exact HA.out j u v (by omega) hu hv
    subst e
    rw [HX.out] at hu; rw [HY.out] at hv
    injection hu with hu; injection hv with hv; subst hu; subst hv
    exact HQ.out.symm
theorem qCq {B : Nat} {a w : World} (h : Below B a w) (q : Nat) : Below B a (w.drewN q) := ⟨h.os, h.tape, h.output, h.size, h.block⟩
def qDk (fns : List S80) (p : S82) : Int := (qAy (qAl fns p.f0).f1.f2 p.f1).f1
def placeIn (fns : List S80) (p : S82) : Prop := 0 ≤ p.f0 ∧ p.f0 < fns.length ∧ 0 ≤ p.f1 ∧ p.f1 < (qAl fns p.f0).f1.f2.length
theorem placeN_any (g : Nat) (a0 a1 a2 : Int) (a3 a4 : ByteArray) (fns : List S80) (AF : Option Addr) (cF : Nat) (w : World) (hg : w.cell? ⟨g, 2, none⟩ = some (.slice AF fns.length cF)) (hr : Kd.C k80 w AF fns.length fns)
  (hin : placeIn fns ⟨a0, a1, a2, a3, a4⟩) :
  Calls Try.prog 96 #[.agg #[.int .i64 a0, .int .i64 a1, .int .i64 a2, .string a3, .string a4], .pointer (some ⟨g, 0, none⟩)] w fun e w' => e = .returned (.bool (qDk fns ⟨a0, a1, a2, a3, a4⟩ != 0)) ∧ Below w.heap.size w w' := by
 obtain ⟨h0, h0', h1, h1'⟩ := hin
 dsimp only at h0 h0' h1 h1'
 obtain ⟨ad, A1, c1, A3, c3, A4, c4, ea, hx0, hx1, hx2, hx3, hx4, hl1, hC1, hl3, hC3, hl4, hC4⟩ := qDW hr a0 h0 h0'
 subst ea
 obtain ⟨bd, eb, hy0, hy1, hy2, hy3⟩ := qDo hC4 a1 h1 h1'
 subst eb
 have hbA : (ad.add (a0.toNat * 5)).block < w.heap.size := World.block_lt_of_cell? w _ hx0
 have hbB : (bd.add (a1.toNat * 4)).block < w.heap.size := World.block_lt_of_cell? w _ hy0
 have hbg : g < w.heap.size := World.block_lt_of_cell? w _ hg
 show Calls _ _ _ _ fun e w' => e = .returned (.bool ((qAy (qAl fns a0).f1.f2 a1).f1 != 0)) ∧ Below w.heap.size w w'
 obtain ⟨q, hq⟩ : ∃ q, q = (qAy (qAl fns a0).f1.f2 a1).f1 := ⟨_, rfl⟩
 rw [← hq] at hy1 ⊢
 obtain ⟨nf, hnf⟩ : ∃ q, q = fns.length := ⟨_, rfl⟩
 rw [← hnf] at h0' hg
 obtain ⟨nc, hnc⟩ : ∃ q, q = (qAl fns a0).f1.f2.length := ⟨_, rfl⟩
 rw [← hnc] at h1' hx4
 clear hq hnf hnc hC1 hC3 hC4 hl1 hl3 hl4 hr hx0 hx1 hx2 hx3 hy0 hy2 hy3
 go_enter Try.func96, Try.ntmps96
 go_wp2
 go_quiet (fail)
 go_wp2
 go_ret
 exact ⟨rfl, qCq ((Below.refl _ _).alloc (Nat.le_refl _) _) _⟩
theorem idx_places (g : Nat) (fns : List S80) (AF : Option Addr) (cF : Nat) (A : Option Addr) (c : Nat) (l : List S82) (w : World) (hg : w.cell? ⟨g, 2, none⟩ = some (.slice AF fns.length cF)) (hrF : Kd.C k80 w AF fns.length fns) (hr : Kd.C k82 w A l.length l) (hl : l.length ≤ 4611686018427387904) (hu : ∀ x ∈ l, placeIn fns x) :
  Calls Try.prog 114 #[.slice A l.length c, .func (.func 96) #[] #[.pointer (some ⟨g, 0, none⟩)]] w (IdxPost (l.any fun x => qDk fns x != 0) w) := by
 obtain ⟨n, hn⟩ : ∃ n, n = l.length := ⟨_, rfl⟩
 rw [← hn]
 have HR := am hr
 have HN := am hn
 have HU := am hu
 have hgl : g < w.heap.size := World.block_lt_of_cell? w _ hg
 have HF : qAa (∀ W x, Below w.heap.size w W → x ∈ l → Calls Try.prog 96 #[.agg #[.int .i64 x.f0, .int .i64 x.f1, .int .i64 x.f2, .string x.f3, .string x.f4], .pointer (some ⟨g, 0, none⟩)] W fun e w' => e = .returned (.bool (qDk fns x != 0)) ∧ Below W.heap.size W w') := ⟨fun W x hW hx => placeN_any g x.f0 x.f1 x.f2 x.f3 x.f4 fns AF cF W ((hW.cell (p := ⟨g, 2, none⟩) hgl).trans hg) (Kd.C_below hrF hW) (hu x hx)⟩
 rw [← hn] at hl
 clear hr hn hu hg hrF
 go_enter Try.func114, Try.ntmps114
 go_wp2
 go_loopg [5, 8] n (fun gg _ s8 wr => ∃ kk : Nat, kk ≤ n ∧ n - kk ≤ gg ∧ s8 = .int .i64 kk ∧ qAa (∀ (j : Nat) x, j < kk → l[j]? = some x → (qDk fns x != 0) = false) ∧ qAa (Below w.heap.size w wr))
 case atStart => exact ⟨0, Nat.zero_le _, by omega, rfl, ⟨fun j x hj => absurd hj (Nat.not_lt_zero _)⟩, ⟨Below.refl _ _⟩⟩
 case round =>
  obtain ⟨kk, hkk, hg, rfl, HA, HB⟩ := hrel
  by_cases hlt : kk < n
  rotate_left
  ·have hltz : ¬ (kk : Int) < (n : Int) := by omega
   have : kk = n := by omega
   subst this
   go_wp2
   go_ret
   refine ⟨-1, rfl, ?_, HB.out⟩
   rw [qEm _ l fun j x hj => HA.out j x (by rw [HN.out]; exact (List.getElem?_eq_some_iff.1 hj).1) hj]
   simp
  have hltz : (kk : Int) < (n : Int) := by omega
  have h0 : (0 : Int) ≤ (kk : Int) := by omega
  obtain ⟨ad, ea, hx0, hx1, hx2, hx3, hx4⟩ := qDi HR.out (kk : Int) h0 (by have := HN.out; omega)
  subst ea
  rw [Int.toNat_natCast] at hx0 hx1 hx2 hx3 hx4
  replace hx0 := cb HB hx0
  replace hx1 := cb HB hx1
  replace hx2 := cb HB hx2
  replace hx3 := cb HB hx3
  replace hx4 := cb HB hx4
  obtain ⟨x, hx⟩ : ∃ x, x = qAT l (kk : Int) := ⟨_, rfl⟩
  rw [← hx] at hx0 hx1 hx2 hx3 hx4
  have HX : qAa (l[kk]? = some x) := ⟨by rw [hx]; exact qCu l z82 kk (by have := HN.out; omega)⟩
  clear hx
  have HC := am (HF.out wr x HB.out (List.mem_of_getElem? HX.out))
  obtain ⟨b, hb⟩ : ∃ b, b = (qDk fns x != 0) := ⟨_, rfl⟩
  rw [← hb] at HC
  have HQ := am hb
  clear hb
  cases b with
  | true =>
   go_wp2_with (go_at_call 96; refine (HC.out).mono ?_; rintro e w1 ⟨rfl, hw⟩; have HB1 := am (qA3 HB.out HB.out.size hw); clear hw)
   go_ret
   exact ⟨kk, rfl, ⟨fun _ => qDG _ l kk _ HX.out HQ.out.symm, fun _ => h0⟩, HB1.out⟩
  | false =>
   go_wp2_with (go_at_call 96; refine (HC.out).mono ?_; rintro e w1 ⟨rfl, hw⟩; have HB1 := am (qA3 HB.out HB.out.size hw); clear hw)
   go_roundg (n - (kk + 1))
   case measure => omega
   case rel =>
    refine ⟨kk + 1, by omega, by omega, by go_num, ⟨fun j y hj hy => ?_⟩, HB1⟩
    by_cases e : j = kk
    rotate_left
    ·exact HA.out j y (by omega) hy
    subst e
    rw [HX.out] at hy; injection hy with hy; subst hy; exact HQ.out.symm
theorem has_places (g : Nat) (fns : List S80) (AF : Option Addr) (cF : Nat) (A : Option Addr) (c : Nat) (l : List S82) (w : World) (hg : w.cell? ⟨g, 2, none⟩ = some (.slice AF fns.length cF)) (hrF : Kd.C k80 w AF fns.length fns) (hr : Kd.C k82 w A l.length l) (hl : l.length ≤ 4611686018427387904) (hu : ∀ x ∈ l, placeIn fns x) :
  Calls Try.prog 95 #[.slice A l.length c, .func (.func 96) #[] #[.pointer (some ⟨g, 0, none⟩)]] w fun e w' => e = .returned (.bool (l.any fun x => qDk fns x != 0)) ∧ Below w.heap.size w w' := by
 have HI := am (idx_places g fns AF cF A c l w hg hrF hr hl hu)
 obtain ⟨b, hb⟩ : ∃ b, b = l.any fun x => qDk fns x != 0 := ⟨_, rfl⟩
 rw [← hb] at HI ⊢
 clear hb hr hl hu hg hrF
 go_enter Try.func95, Try.ntmps95
 go_wp2_with (go_at_call 114; refine (HI.out).mono ?_; rintro e w1 ⟨i, rfl, hi, hw⟩; have HB := am hw; have HQ := am hi; clear hi hw)
 go_ret
 refine ⟨?_, HB.out⟩
 have := HQ.out
 congr 2
 cases b <;> simp_all
end Q
end
section
namespace Names
open Go.RowKit Base
def qAV (c : Int) : Bool := decide ((97 ≤ c ∧ c ≤ 122) ∨ (65 ≤ c ∧ c ≤ 90) ∨ c = 95)
def okDigit (c : Int) : Bool := decide (48 ≤ c ∧ c ≤ 57)
def words : List (List UInt8) := [[98, 111, 111, 108], [99, 97, 116, 99, 104], [99, 111, 110, 115, 116], [101, 108, 115, 101], [101, 120, 112, 111, 114, 116], [102, 97, 105, 108], [102, 97, 108, 115, 101], [102, 108, 111, 97, 116], [102, 110], [105, 102], [105, 109, 112, 111, 114, 116], [105, 110, 102], [105, 110, 112, 117, 116], [105, 110, 116], [108, 101, 116], [109, 111, 100, 117, 108, 101], [110, 97, 110], [114, 101, 116, 117, 114, 110], [115, 104, 111, 119], [116, 114, 117, 101], [116, 114, 121], [118, 97, 114], [119, 104, 105, 108, 101]]
def qCA (s : ByteArray) : Bool := words.any fun x => s.toList == x
def qCr (s : ByteArray) (k : Nat) : Int := if h : k < s.size then (s[k].toNat : Int) else 0
theorem byteAt_eq (s : ByteArray) (k : Nat) (h : k < s.size) : qCr s k = (s[k].toNat : Int) := by unfold qCr; rw [dif_pos h]
def good (s : ByteArray) (k : Nat) : Bool := qAV (qCr s k) || okDigit (qCr s k)
def nameE (s : ByteArray) : Int :=
 if s.size = 0 then 12
 else if qAV (qCr s 0) = false then 12
 else if ¬ ∀ k, k < s.size → good s k = true then 12
 else if 32 < s.size then 3
 else if qCA s = true then 12
 else 0
theorem nameE_empty {s : ByteArray} (h : s.size = 0) : nameE s = 12 := by unfold nameE; rw [if_pos h]
theorem nameE_first {s : ByteArray} (h : s.size ≠ 0) (h1 : qAV (qCr s 0) = false) : nameE s = 12 := by unfold nameE; rw [if_neg h, if_pos h1]
theorem nameE_bad {s : ByteArray} (h : s.size ≠ 0) (h1 : qAV (qCr s 0) = true) (k : Nat) (hk : k < s.size) (hb : good s k = false) : nameE s = 12 := by
 unfold nameE; rw [if_neg h, if_neg (by simp [h1]), if_pos (fun hh => by have := hh k hk; rw [hb] at this; cases this)]
theorem nameE_big {s : ByteArray} (h : s.size ≠ 0) (h1 : qAV (qCr s 0) = true) (hg : ∀ k, k < s.size → good s k = true) (hb : 32 < s.size) : nameE s = 3 := by
 unfold nameE; rw [if_neg h, if_neg (by simp [h1]), if_neg (by simpa using hg), if_pos hb]
theorem nameE_res {s : ByteArray} (h : s.size ≠ 0) (h1 : qAV (qCr s 0) = true) (hg : ∀ k, k < s.size → good s k = true) (hb : ¬ 32 < s.size) (hr : qCA s = true) : nameE s = 12 := by
 unfold nameE; rw [if_neg h, if_neg (by simp [h1]), if_neg (by simpa using hg), if_neg hb, if_pos hr]
theorem nameE_ok {s : ByteArray} (h : s.size ≠ 0) (h1 : qAV (qCr s 0) = true) (hg : ∀ k, k < s.size → good s k = true) (hb : ¬ 32 < s.size) (hr : qCA s = false) : nameE s = 0 := by
 unfold nameE; rw [if_neg h, if_neg (by simp [h1]), if_neg (by simpa using hg), if_neg hb, if_neg (by simp [hr])]
theorem size_le_of_ok {s : ByteArray} (h : nameE s = 0) : s.size ≤ 32 := by
 unfold nameE at h
 (repeat' split at h) <;> omega
theorem letter_any (c : Int) (w : World) : Calls Try.prog 81 #[.int .u8 c] w fun e w' => e = .returned (.bool (qAV c)) ∧ w = w' := by
 have hr : (c < 65) ∨ (65 ≤ c ∧ c ≤ 90) ∨ (91 ≤ c ∧ c ≤ 94) ∨ (c = 95) ∨ (c = 96) ∨ (97 ≤ c ∧ c ≤ 122) ∨ (123 ≤ c) := by omega
 rcases hr with h | h | h | h | h | h | h
 ·have e : qAV c = false := by unfold qAV; simp; omega
  rw [e]
  have b1 : decide (97 ≤ c) = false := decide_eq_false (by omega)
  have b3 : decide (65 ≤ c) = false := decide_eq_false (by omega)
  have b5 : (c == 95) = false := beq_eq_false_iff_ne.mpr (by omega)
  clear e h
  go_enter Try.func81, Try.ntmps81
  go_wp2
  go_ret
  exact ⟨rfl, rfl⟩
 ·have e : qAV c = true := by unfold qAV; simp; omega
  rw [e]
  have b1 : decide (97 ≤ c) = false := decide_eq_false (by omega)
  have b3 : decide (65 ≤ c) = true := decide_eq_true (by omega)
  have b4 : decide (c ≤ 90) = true := decide_eq_true (by omega)
  clear e h
  go_enter Try.func81, Try.ntmps81
  go_wp2
  go_ret
  exact ⟨rfl, rfl⟩
 ·have e : qAV c = false := by unfold qAV; simp; omega
  rw [e]
  have b1 : decide (97 ≤ c) = false := decide_eq_false (by omega)
  have b3 : decide (65 ≤ c) = true := decide_eq_true (by omega)
  have b4 : decide (c ≤ 90) = false := decide_eq_false (by omega)
  have b5 : (c == 95) = false := beq_eq_false_iff_ne.mpr (by omega)
  clear e h
  go_enter Try.func81, Try.ntmps81
  go_wp2
  go_ret
  exact ⟨rfl, rfl⟩
 ·have e : qAV c = true := by unfold qAV; simp; omega
  rw [e]
  have b1 : decide (97 ≤ c) = false := decide_eq_false (by omega)
  have b3 : decide (65 ≤ c) = true := decide_eq_true (by omega)
  have b4 : decide (c ≤ 90) = false := decide_eq_false (by omega)
  have b5 : (c == 95) = true := beq_iff_eq.mpr h
  clear e h
  go_enter Try.func81, Try.ntmps81
  go_wp2
  go_ret
  exact ⟨rfl, rfl⟩
 ·have e : qAV c = false := by unfold qAV; simp; omega
  rw [e]
  have b1 : decide (97 ≤ c) = false := decide_eq_false (by omega)
  have b3 : decide (65 ≤ c) = true := decide_eq_true (by omega)
  have b4 : decide (c ≤ 90) = false := decide_eq_false (by omega)
  have b5 : (c == 95) = false := beq_eq_false_iff_ne.mpr (by omega)
  clear e h
  go_enter Try.func81, Try.ntmps81
  go_wp2
  go_ret
  exact ⟨rfl, rfl⟩
 ·have e : qAV c = true := by unfold qAV; simp; omega
  rw [e]
  have b1 : decide (97 ≤ c) = true := decide_eq_true (by omega)
  have b2 : decide (c ≤ 122) = true := decide_eq_true (by omega)
  clear e h
  go_enter Try.func81, Try.ntmps81
  go_wp2
  go_ret
  exact ⟨rfl, rfl⟩
 have e : qAV c = false := by unfold qAV; simp; omega
 rw [e]
 have b1 : decide (97 ≤ c) = true := decide_eq_true (by omega)
 have b2 : decide (c ≤ 122) = false := decide_eq_false (by omega)
 have b3 : decide (65 ≤ c) = true := decide_eq_true (by omega)
 have b4 : decide (c ≤ 90) = false := decide_eq_false (by omega)
 have b5 : (c == 95) = false := beq_eq_false_iff_ne.mpr (by omega)
 clear e h
 go_enter Try.func81, Try.ntmps81
 go_wp2
 go_ret
 exact ⟨rfl, rfl⟩
theorem reserved_any (s : ByteArray) (w : World) : Calls Try.prog 82 #[.string s] w fun e w' => e = .returned (.bool (qCA s)) ∧ w = w' := by
 have hr : Hid (qCA s = (words.any fun x => s.toList == x)) := hid rfl
 go_enter Try.func82, Try.ntmps82
 go_wp2
 all_goals go_ret
 all_goals exact ⟨by rw [hr.out]; first | (simp [words, *]; done) | (simp_all [words]; done), rfl⟩
theorem qCe (c : Int) (v : Bool) (h : qAV c = v) (w : World) : Calls Try.prog 81 #[.int .u8 c] w fun e w' => e = .returned (.bool v) ∧ w = w' := h ▸ letter_any c w
theorem qEb (s : ByteArray) (v : Bool) (h : qCA s = v) (w : World) : Calls Try.prog 82 #[.string s] w fun e w' => e = .returned (.bool v) ∧ w = w' := h ▸ reserved_any s w
theorem right_any (s : ByteArray) (w : World) (hs : s.size ≤ 140737488351232) : Calls Try.prog 38 #[.string s] w fun e w' => e = .returned (.int .i64 (nameE s)) ∧ w = w' := by
 by_cases h0 : s.size = 0
 ·rw [nameE_empty h0]
  obtain rfl : s = ⟨#[]⟩ := ByteArray.ext (Array.eq_empty_of_size_eq_zero h0)
  go_enter Try.func38, Try.ntmps38
  go_wp2
  go_ret
  exact ⟨rfl, rfl⟩
 have hp : 0 < s.size := by omega
 have he : s.toList.isEmpty = false := toList_ne h0
 have hb0 := byteAt_eq s 0 hp
 cases hl : qAV (qCr s 0) with
 | false =>
  rw [nameE_first h0 hl]
  rw [hb0] at hl
  have HL : Hid (qAV ((s[0]'hp).toNat : Int) = false) := hid hl
  clear hl hb0
  go_enter Try.func38, Try.ntmps38
  go_wp2_with (go_at_call 81; refine (qCe _ _ HL.out _).mono ?_; rintro e w' ⟨rfl, rfl⟩)
  go_ret
  exact ⟨rfl, rfl⟩
 | true =>
  have HN : Hid (qAV (qCr s 0) = true) := hid hl
  rw [hb0] at hl
  have HL : Hid (qAV ((s[0]'hp).toNat : Int) = true) := hid hl
  clear hl hb0
  go_enter Try.func38, Try.ntmps38
  go_wp2_with (go_at_call 81; refine (qCe _ _ HL.out _).mono ?_; rintro e w' ⟨rfl, rfl⟩)
  go_loop [14] (fun i => ∃ k : Nat, k ≤ s.size ∧ i = .int .i64 k ∧ Hid (∀ j, j < k → good s j = true)) (fun i => s.size - (intOf i).toNat)
  case atStart => exact ⟨0, Nat.zero_le _, rfl, hid fun j hj => absurd hj (by omega)⟩
  case round =>
   obtain ⟨k, hk, rfl, hall⟩ := hrel
   by_cases hlt : k < s.size
   rotate_left
   ·have hkk : k = s.size := by omega
    subst hkk
    have HA : Hid (∀ j, j < s.size → good s j = true) := hall
    clear hall
    by_cases h32 : 32 < s.size
    ·have HE : Hid (nameE s = 3) := hid (nameE_big h0 HN.out HA.out h32)
     have b1 : decide ((32 : Int) < (s.size : Int)) = true := decide_eq_true (by omega)
     go_wp2_with fail
     go_ret
     exact ⟨by rw [HE.out]; rfl, rfl⟩
    have b1 : decide ((32 : Int) < (s.size : Int)) = false := decide_eq_false (by omega)
    cases hres : qCA s with
    | true =>
     have HE : Hid (nameE s = 12) := hid (nameE_res h0 HN.out HA.out h32 hres)
     have HR := hid hres
     clear hres
     go_wp2_with (go_at_call 82; refine (qEb _ _ HR.out _).mono ?_; rintro e w' ⟨rfl, rfl⟩)
     go_ret
     exact ⟨by rw [HE.out]; rfl, rfl⟩
    | false =>
     have HE : Hid (nameE s = 0) := hid (nameE_ok h0 HN.out HA.out h32 hres)
     have HR := hid hres
     clear hres
     go_wp2_with (go_at_call 82; refine (qEb _ _ HR.out _).mono ?_; rintro e w' ⟨rfl, rfl⟩)
     go_ret
     exact ⟨by rw [HE.out]; rfl, rfl⟩
   have hbk := byteAt_eq s k hlt
   cases hlet : qAV (qCr s k) with
   | true =>
    have HG : Hid (good s k = true) := hid (by unfold good; rw [hlet]; rfl)
    have HK : Hid (qAV ((s[k]'hlt).toNat : Int) = true) := hid (by rw [← hbk]; exact hlet)
    clear hlet hbk
    go_wp2_with (go_at_call 81; refine (qCe _ _ HK.out _).mono ?_; rintro e w' ⟨rfl, rfl⟩)
    go_round
    case rel => exact ⟨k + 1, by omega, by go_num, hid fun j hj => by
      by_cases e : j = k
      · rw [e]; exact HG.out
      · exact hall.out j (by omega)⟩
    case measure => simp [intOf]; omega
   | false =>
    have HK : Hid (qAV ((s[k]'hlt).toNat : Int) = false) := hid (by rw [← hbk]; exact hlet)
    cases hdig : okDigit (qCr s k) with
    | true =>
     have HG : Hid (good s k = true) := hid (by unfold good; rw [hdig]; simp)
     have hq := hdig
     rw [hbk] at hq
     have hq2 : 48 ≤ ((s[k]'hlt).toNat : Int) ∧ ((s[k]'hlt).toNat : Int) ≤ 57 := by simpa [okDigit] using hq
     have b1 : decide (((s[k]'hlt).toNat : Int) < 48) = false := decide_eq_false (by omega)
     have b2 : decide (57 < ((s[k]'hlt).toNat : Int)) = false := decide_eq_false (by omega)
     clear hq hq2
     clear hlet hbk hdig
     go_wp2_with (go_at_call 81; refine (qCe _ _ HK.out _).mono ?_; rintro e w' ⟨rfl, rfl⟩)
     go_round
     case rel => exact ⟨k + 1, by omega, by go_num, hid fun j hj => by
       by_cases e : j = k
       · rw [e]; exact HG.out
       · exact hall.out j (by omega)⟩
     case measure => simp [intOf]; omega
    | false =>
     have HE : Hid (nameE s = 12) := hid (nameE_bad h0 HN.out k hlt (by unfold good; rw [hlet, hdig]; rfl))
     have hq := hdig
     rw [hbk] at hq
     have hq2 : ¬ (48 ≤ ((s[k]'hlt).toNat : Int) ∧ ((s[k]'hlt).toNat : Int) ≤ 57) := by simpa [okDigit] using hq
     clear hlet hbk hdig hq
     by_cases hq3 : ((s[k]'hlt).toNat : Int) < 48
     ·have b1 : decide (((s[k]'hlt).toNat : Int) < 48) = true := decide_eq_true hq3
      clear hq2 hq3
      go_wp2_with (go_at_call 81; refine (qCe _ _ HK.out _).mono ?_; rintro e w' ⟨rfl, rfl⟩)
      go_ret
      exact ⟨by rw [HE.out]; rfl, rfl⟩
     have b1 : decide (((s[k]'hlt).toNat : Int) < 48) = false := decide_eq_false hq3
     have b2 : decide (57 < ((s[k]'hlt).toNat : Int)) = true := decide_eq_true (by omega)
     clear hq2 hq3
     go_wp2_with (go_at_call 81; refine (qCe _ _ HK.out _).mono ?_; rintro e w' ⟨rfl, rfl⟩)
     go_ret
     exact ⟨by rw [HE.out]; rfl, rfl⟩
end Names
end
section
namespace Q
open Go.RowKit PA PB PC
def qBa.f (a0 : ByteArray) : Option (Int) := if a0.size ≤ 140737488351232 then some (Names.nameE a0) else none
theorem qBa.calls (a0 : ByteArray) (r : Int) (w : World) (h : qBa.f a0 = some r) :
  Calls Try.prog 38 #[.string a0] w fun e w' => e = .returned (.int .i64 r) ∧ qAD w w' := by
 unfold qBa.f at h
 split at h
 case isFalse => cases h
 rename_i hs
 obtain rfl := Option.some.inj h
 exact (Names.right_any a0 w hs).mono fun e w' ⟨he, hw⟩ => ⟨he, hw ▸ qAD.refl _⟩
end Q
end
section
namespace Q
open Go.RowKit PA PB PC
attribute [local go_sem] qBd min2_int qBn min_two max_three min_three max_four min_four
mutual
def qAs.l0 : Nat → List (S82) → List (S80) → Int → Int → Option (List (S82))
 | 0, _, _, _, _ => none
 | k + 1, x3, x9, ay, aj => if aj < ay then (if 0 ≤ aj then (if aj < (x9.length : Int) then (qAs.l1 k x3 aj x9 ay aj ((qAl x9 aj).f1.f2) (((qAl x9 aj).f1.f2).length : Int) 0) else (none)) else (none)) else (some x3)
def qAs.l1 : Nat → List (S82) → Int → List (S80) → Int → Int → List (S115) → Int → Int → Option (List (S82))
 | 0, _, _, _, _, _, _, _, _ => none
 | k + 1, x3, x4, x9, ay, aj, ao, bg, ai => if ai < bg then (if 0 ≤ ai then (if ai < (ao.length : Int) then (if ((qAy ao ai).f0) = 4 then (qAs.j2 k x3 x4 ai x9 ay aj ao bg ai ((qAy ao ai).f0) (((qAy ao ai).f0) == 4)) else (qAs.j2 k x3 x4 ai x9 ay aj ao bg ai ((qAy ao ai).f0) (((qAy ao ai).f0) == 5))) else (none)) else (none)) else (qAs.l0 k x3 x9 ay (wrap64 (aj + 1)))
def qAs.j2 : Nat → List (S82) → Int → Int → List (S80) → Int → Int → List (S115) → Int → Int → Int → Bool → Option (List (S82))
 | 0, _, _, _, _, _, _, _, _, _, _, _ => none
 | k + 1, x3, x4, x6, x9, ay, aj, ao, bg, ai, cV, cW => if cW = true then (if x3.length < 2513169434916 then (qAs.l1 k (x3 ++ [(⟨x4, x6, 1, (⟨#[]⟩ : ByteArray), (⟨#[]⟩ : ByteArray)⟩ : S82)]) x4 x9 ay aj ao bg (wrap64 (ai + 1))) else (none)) else (if cV = 10 then (if x3.length < 2513169434916 then (qAs.l1 k (x3 ++ [(⟨x4, x6, 2, (⟨#[]⟩ : ByteArray), (⟨#[]⟩ : ByteArray)⟩ : S82)]) x4 x9 ay aj ao bg (wrap64 (ai + 1))) else (none)) else (qAs.l1 k x3 x4 x9 ay aj ao bg (wrap64 (ai + 1))))
end
def qAs.f (k : Nat) (a0_0 : ByteArray) (l0_1 : List (S71)) (l0_2 : List (S80)) (l0_3 : List (S82)) : Option (List (S82)) := qAs.l0 k ([] : List (S82)) l0_2 (l0_2.length : Int) 0
theorem qAs.calls (k : Nat) (a0_0 : ByteArray) (ac : Option Addr) (ae : Nat) (l0_1 : List (S71)) (az : Option Addr) (af : Nat) (l0_2 : List (S80)) (ad : Option Addr) (ag : Nat) (l0_3 : List (S82)) (r : List (S82)) (w : World) (hr0_1 : Kd.C k71 w ac l0_1.length l0_1) (hc0_1 : l0_1.length ≤ ae) (hr0_2 : Kd.C k80 w az l0_2.length l0_2) (hc0_2 : l0_2.length ≤ af) (hr0_3 : Kd.C k82 w ad l0_3.length l0_3) (hc0_3 : l0_3.length ≤ ag) (h : qAs.f k a0_0 l0_1 l0_2 l0_3 = some r) :
  Calls Try.prog 92 #[.agg #[.string a0_0, .slice ac l0_1.length ae, .slice az l0_2.length af, .slice ad l0_3.length ag]] w fun e w' => ∃ v0_ : Value, e = .returned (v0_) ∧ Kd.R k82 82 w' w.heap.size (fun _ => True) v0_ r ∧ Below w.heap.size w w' := by
 clear hr0_1 hc0_1
 have bl := am hr0_2
 clear hr0_2 hc0_2 hr0_3 hc0_3
 have HB := am (Below.refl w.heap.size w)
 have H : (qAs.l0 k ([] : List (S82)) l0_2 (l0_2.length : Int) 0) = some r := h
 clear h
 have H' := am H
 clear H
 go_enter Try.func92, Try.ntmps92
 go_wp2_with ((with_reducible refine qAJ (N := 1) rfl ?_); refine bx 1 #[.string a0_0, .slice ac l0_1.length ae, .slice az l0_2.length af, .slice ad l0_3.length ag] 27 ?_; intro aa hg w2 hbox hb; have n_ := a2 (qAj HB.o hb) (am (hbox)); clear HB; obtain ⟨HB, aD⟩ := n_; clear hb hbox hg; obtain ⟨bW, bX, bY, bZ⟩ := c4_ w2 aD.o; obtain ⟨b5, b6, b7, b8⟩ := z4_ aD.o)
 go_loopg [3, 11] k (fun kq v3 cP w' => ∃ (bS : List (S82)) (aA : Int), cP = .int .i64 aA ∧ qAa (qAs.l0 kq bS l0_2 (l0_2.length : Int) aA = some r) ∧ qAa (kq ≤ k) ∧ qAa (Kd.R k82 82 w' w.heap.size (fun _ => True) v3 bS) ∧ qAa (w'.heap[aa]? = some (.cells #[.string a0_0, (.slice ac l0_1.length ae), (.slice az l0_2.length af), (.slice ad l0_3.length ag)] 27 (0, 0))) ∧ qAa (Below w.heap.size w w'))
 case atStart => exact ⟨([] : List (S82)), (0), (by rfl), H', ⟨Nat.le_refl _⟩, ⟨by (exact Kd.R_nil _ _ _ _ _)⟩, ⟨by exact aD.o⟩, ⟨by exact HB.o⟩⟩
 case round =>
  clear H'
  obtain ⟨bS, aA, rfl, HA, aw, aI, aD, HB⟩ := hrel
  cases gk with
  | zero => exact absurd HA.o (by simp [qAs.l0])
  | succ k1 =>
   have H := HA.o
   clear HA
   simp only [qAs.l0] at H
   by_cases c4 : aA < (l0_2.length : Int)
   rotate_left
   ·rw [if_neg c4] at H
    replace c4 := d0 c4
    obtain rfl := Option.some.inj H
    go_wp2
    go_ret
    exact ⟨_, by rfl, by exact aI.o, by exact HB.o⟩
   rw [if_pos c4] at H
   replace c4 := d1 c4
   obtain ⟨c5, H⟩ := gd H
   replace c5 := d1 c5
   obtain ⟨c6, H⟩ := gd H
   replace c6 := d1 c6
   have H' := am H
   clear H
   have bO : 0 ≤ aA := od (by assumption)
   have bQ : aA < (l0_2.length : Int) := od (by assumption)
   obtain ⟨ak, aQ, aR, aU, aV, ap, a9, cK, aW, aX, aY, aZ, a4, bL, bJ, bM, bK, bN, al⟩ := qDW bl.o aA bO bQ
   cases cK
   replace aW := (HB.o.cell (World.block_lt_of_cell? w _ aW)).trans aW
   replace aX := (HB.o.cell (World.block_lt_of_cell? w _ aX)).trans aX
   replace aY := (HB.o.cell (World.block_lt_of_cell? w _ aY)).trans aY
   replace aZ := (HB.o.cell (World.block_lt_of_cell? w _ aZ)).trans aZ
   replace a4 := (HB.o.cell (World.block_lt_of_cell? w _ a4)).trans a4
   clear bJ bL bK bM
   have bA := am al
   clear al bN
   replace bO := eq_true bO
   replace bQ := eq_true bQ
   go_wp2_with ((with_reducible refine qAJ (N := 5) rfl ?_); refine bx 5 #[.string ⟨#[]⟩, .slice none 0 0, .int .i64 0, .slice none 0 0, .slice none 0 0] 80 ?_; intro aK hg w7 hbox hb; have n_ := a2 (Kd.R_below aI.o hb) (a2 (qAd aD.o hb) (a2 (qAj HB.o hb) (a2 (hbox) (a2 (by rw [hg]; exact (qAe HB.o) : w.heap.size ≤ aK) (am (by rw [hg]; exact Nat.ne_of_lt (qAw aD.o) : aa ≠ aK)))))); clear aI aD HB; obtain ⟨aI, aD, HB, aE, bi, aJ⟩ := n_; clear hb hbox hg; obtain ⟨b0, b1, b2, b3, b4⟩ := c5_ w7 aE.o; obtain ⟨b9, ba, bb, bc, bd⟩ := z5_ aE.o)
   go_loopg [3, 20] k1 (fun kq v3 cS w' => ∃ (aN : List (S82)) (aC : Int), cS = .int .i64 aC ∧ qAa (qAs.l1 kq aN aA l0_2 (l0_2.length : Int) aA ((qAl l0_2 aA).f1.f2) (((qAl l0_2 aA).f1.f2).length : Int) aC = some r) ∧ qAa (kq ≤ k1) ∧ qAa (Kd.R k82 82 w' w.heap.size (fun _ => True) v3 aN) ∧ qAa (w'.heap[aa]? = some (.cells #[.string a0_0, (.slice ac l0_1.length ae), (.slice (some ak) l0_2.length af), (.slice ad l0_3.length ag)] 27 (0, 0))) ∧ qAa (w'.heap[aK]? = some (.cells #[.string ((qAl l0_2 aA).f0), (.slice aQ ((qAl l0_2 aA).f1.f0.f0).length aR), .int .i64 ((qAl l0_2 aA).f1.f0.f1), (.slice aU ((qAl l0_2 aA).f1.f1).length aV), (.slice ap ((qAl l0_2 aA).f1.f2).length a9)] 80 (0, 0))) ∧ qAa (Below w.heap.size w w'))
   case atStart => exact ⟨(bS), (0), (by rfl), H', ⟨Nat.le_refl _⟩, ⟨by exact Kd.R_mono (Kd.R_far (p := ⟨aK, 4, none⟩) (Kd.R_far (p := ⟨aK, 3, none⟩) (Kd.R_far (p := ⟨aK, 2, none⟩) (Kd.R_far (p := ⟨aK, 1, none⟩) (Kd.R_far (p := ⟨aK, 0, none⟩) (Kd.R_types aI.o aE.o (by decide)) (fun _ hk => hk.2) (.string ((qAl l0_2 aA).f0))) (fun _ hk => hk.2) (.slice aQ ((qAl l0_2 aA).f1.f0.f0).length aR)) (fun _ hk => hk.2) (.int .i64 ((qAl l0_2 aA).f1.f0.f1))) (fun _ hk => hk.2) (.slice aU ((qAl l0_2 aA).f1.f1).length aV)) (fun _ hk => hk.2) (.slice ap ((qAl l0_2 aA).f1.f2).length a9)) (fun _ hk => trivial)⟩, ⟨by refine qAg ?_ aJ.o _; refine qAg ?_ aJ.o _; refine qAg ?_ aJ.o _; refine qAg ?_ aJ.o _; refine qAg ?_ aJ.o _; exact aD.o⟩, ⟨by refine qAo (cs := #[.string ((qAl l0_2 aA).f0), .slice aQ ((qAl l0_2 aA).f1.f0.f0).length aR, .int .i64 ((qAl l0_2 aA).f1.f0.f1), .slice aU ((qAl l0_2 aA).f1.f1).length aV, .slice none 0 0]) ?_ 4 _ rfl; refine qAo (cs := #[.string ((qAl l0_2 aA).f0), .slice aQ ((qAl l0_2 aA).f1.f0.f0).length aR, .int .i64 ((qAl l0_2 aA).f1.f0.f1), .slice none 0 0, .slice none 0 0]) ?_ 3 _ rfl; refine qAo (cs := #[.string ((qAl l0_2 aA).f0), .slice aQ ((qAl l0_2 aA).f1.f0.f0).length aR, .int .i64 0, .slice none 0 0, .slice none 0 0]) ?_ 2 _ rfl; refine qAo (cs := #[.string ((qAl l0_2 aA).f0), .slice none 0 0, .int .i64 0, .slice none 0 0, .slice none 0 0]) ?_ 1 _ rfl; refine qAo (cs := #[.string ⟨#[]⟩, .slice none 0 0, .int .i64 0, .slice none 0 0, .slice none 0 0]) ?_ 0 _ rfl; exact aE.o⟩, ⟨by repeat (with_reducible first | exact HB.o | refine qAq ?_ bi.o)⟩⟩
   case round =>
    clear H'
    obtain ⟨aN, aC, rfl, HA, ax, aI, aD, aE, HB⟩ := hrel
    cases gk with
    | zero => exact absurd HA.o (by simp [qAs.l1])
    | succ k2 =>
     have H := HA.o
     clear HA
     simp only [qAs.l1] at H
     by_cases c10 : aC < (((qAl l0_2 aA).f1.f2).length : Int)
     rotate_left
     ·rw [if_neg c10] at H
      replace c10 := d0 c10
      have H' := am H
      clear H
      go_wp2
      go_roundg k2
      case measure => have := aw.o; have := ax.o; omega
      case rel => exact ⟨(aN), (wrap64 (aA + 1)), (by rfl), H', ⟨by have := aw.o; have := ax.o; omega⟩, ⟨by exact aI.o⟩, ⟨by exact aD.o⟩, ⟨by exact HB.o⟩⟩
     rw [if_pos c10] at H
     replace c10 := d1 c10
     obtain ⟨cD, H⟩ := gd H
     replace cD := d1 cD
     obtain ⟨cE, H⟩ := gd H
     replace cE := d1 cE
     have bV := am H
     clear H
     have bP : 0 ≤ aC := od (by assumption)
     have bR : aC < (((qAl l0_2 aA).f1.f2).length : Int) := od (by assumption)
     obtain ⟨aq, cL, a5, a6, a7, a8⟩ := qDo bA.o aC bP bR
     cases cL
     replace a5 := (HB.o.cell (World.block_lt_of_cell? w _ a5)).trans a5
     replace a6 := (HB.o.cell (World.block_lt_of_cell? w _ a6)).trans a6
     replace a7 := (HB.o.cell (World.block_lt_of_cell? w _ a7)).trans a7
     replace a8 := (HB.o.cell (World.block_lt_of_cell? w _ a8)).trans a8
     replace bP := eq_true bP
     replace bR := eq_true bR
     go_upto_if 27 with ((with_reducible refine qAJ (N := 7) rfl ?_); refine bx 7 #[.int .i64 0, .int .i64 0, .int .i64 0, .int .u64 0] 115 ?_; intro aM hg cU hbox hb; have n_ := a2 (Kd.R_below aI.o hb) (a2 (qAd aD.o hb) (a2 (qAd aE.o hb) (a2 (qAj HB.o hb) (a2 (hbox) (a2 (by rw [hg]; exact (qAe HB.o) : w.heap.size ≤ aM) (a2 (by rw [hg]; exact Nat.ne_of_lt (qAw aD.o) : aa ≠ aM) (am (by rw [hg]; exact Nat.ne_of_lt (qAw aE.o) : aK ≠ aM)))))))); clear aI aD aE HB; obtain ⟨aI, aD, aE, HB, aT, bT, aG, aH⟩ := n_; clear hb hbox hg; obtain ⟨bB, bC, bD, bE⟩ := c4_ cU aT.o; obtain ⟨bF, bG, bH, bI⟩ := z4_ aT.o)
     (skip)
     go_cut [27] (fun cT wc => ∃ (kq : Nat) (ab : Bool), cT = .bool ab ∧ qAa (qAs.j2 kq aN aA aC l0_2 (l0_2.length : Int) aA ((qAl l0_2 aA).f1.f2) (((qAl l0_2 aA).f1.f2).length : Int) aC ((qAy ((qAl l0_2 aA).f1.f2) aC).f0) ab = some r) ∧ qAa (kq ≤ k2) ∧ qAa (Kd.R k82 82 wc w.heap.size (fun _ => True) u3 aN) ∧ qAa (wc.heap[aa]? = some (.cells #[.string a0_0, (.slice ac l0_1.length ae), (.slice (some ak) l0_2.length af), (.slice ad l0_3.length ag)] 27 (0, 0))) ∧ qAa (wc.heap[aK]? = some (.cells #[.string ((qAl l0_2 aA).f0), (.slice aQ ((qAl l0_2 aA).f1.f0.f0).length aR), .int .i64 ((qAl l0_2 aA).f1.f0.f1), (.slice aU ((qAl l0_2 aA).f1.f1).length aV), (.slice (some aq) ((qAl l0_2 aA).f1.f2).length a9)] 80 (0, 0))) ∧ qAa (wc.heap[aM]? = some (.cells #[.int .i64 ((qAy ((qAl l0_2 aA).f1.f2) aC).f0), .int .i64 ((qAy ((qAl l0_2 aA).f1.f2) aC).f1), .int .i64 ((qAy ((qAl l0_2 aA).f1.f2) aC).f2.f0), .int .u64 ((qAy ((qAl l0_2 aA).f1.f2) aC).f2.f1)] 115 (0, 0))) ∧ qAa (Below w.heap.size w wc))
     case first =>
      have H := bV.o
      clear bV
      by_cases bw : ((qAy ((qAl l0_2 aA).f1.f2) aC).f0) = 4
      rotate_left
      ·rw [if_neg bw] at H
       have ar : (((qAy ((qAl l0_2 aA).f1.f2) aC).f0) == 4) = false := bf bw
       (rw [ar])
       have H' := am H
       clear H
       go_wp2
       go_meet
       case rel => exact ⟨_, (((qAy ((qAl l0_2 aA).f1.f2) aC).f0) == 5), (by rfl), H', ⟨by have := aw.o; have := ax.o; (omega)⟩, ⟨by exact Kd.R_mono (Kd.R_far (p := ⟨aM, 3, none⟩) (Kd.R_far (p := ⟨aM, 2, none⟩) (Kd.R_far (p := ⟨aM, 1, none⟩) (Kd.R_far (p := ⟨aM, 0, none⟩) (Kd.R_types aI.o aT.o (by decide)) (fun _ hk => hk.2) (.int .i64 ((qAy ((qAl l0_2 aA).f1.f2) aC).f0))) (fun _ hk => hk.2) (.int .i64 ((qAy ((qAl l0_2 aA).f1.f2) aC).f1))) (fun _ hk => hk.2) (.int .i64 ((qAy ((qAl l0_2 aA).f1.f2) aC).f2.f0))) (fun _ hk => hk.2) (.int .u64 ((qAy ((qAl l0_2 aA).f1.f2) aC).f2.f1))) (fun _ hk => trivial)⟩, ⟨by refine qAg ?_ aG.o _; refine qAg ?_ aG.o _; refine qAg ?_ aG.o _; refine qAg ?_ aG.o _; exact aD.o⟩, ⟨by refine qAg ?_ aH.o _; refine qAg ?_ aH.o _; refine qAg ?_ aH.o _; refine qAg ?_ aH.o _; exact aE.o⟩, ⟨by refine qAo (cs := #[.int .i64 ((qAy ((qAl l0_2 aA).f1.f2) aC).f0), .int .i64 ((qAy ((qAl l0_2 aA).f1.f2) aC).f1), .int .i64 ((qAy ((qAl l0_2 aA).f1.f2) aC).f2.f0), .int .u64 0]) ?_ 3 _ rfl; refine qAo (cs := #[.int .i64 ((qAy ((qAl l0_2 aA).f1.f2) aC).f0), .int .i64 ((qAy ((qAl l0_2 aA).f1.f2) aC).f1), .int .i64 0, .int .u64 0]) ?_ 2 _ rfl; refine qAo (cs := #[.int .i64 ((qAy ((qAl l0_2 aA).f1.f2) aC).f0), .int .i64 0, .int .i64 0, .int .u64 0]) ?_ 1 _ rfl; refine qAo (cs := #[.int .i64 0, .int .i64 0, .int .i64 0, .int .u64 0]) ?_ 0 _ rfl; exact aT.o⟩, ⟨by repeat (with_reducible first | exact HB.o | refine qAq ?_ bT.o)⟩⟩
      rw [if_pos bw] at H
      have ar : (((qAy ((qAl l0_2 aA).f1.f2) aC).f0) == 4) = true := beq_iff_eq.mpr bw
      clear bw
      (rw [ar])
      have H' := am H
      clear H
      go_wp2
      go_meet
      case rel => exact ⟨_, (((qAy ((qAl l0_2 aA).f1.f2) aC).f0) == 4), (by (simp [*]; done)), H', ⟨by have := aw.o; have := ax.o; (omega)⟩, ⟨by exact Kd.R_mono (Kd.R_far (p := ⟨aM, 3, none⟩) (Kd.R_far (p := ⟨aM, 2, none⟩) (Kd.R_far (p := ⟨aM, 1, none⟩) (Kd.R_far (p := ⟨aM, 0, none⟩) (Kd.R_types aI.o aT.o (by decide)) (fun _ hk => hk.2) (.int .i64 ((qAy ((qAl l0_2 aA).f1.f2) aC).f0))) (fun _ hk => hk.2) (.int .i64 ((qAy ((qAl l0_2 aA).f1.f2) aC).f1))) (fun _ hk => hk.2) (.int .i64 ((qAy ((qAl l0_2 aA).f1.f2) aC).f2.f0))) (fun _ hk => hk.2) (.int .u64 ((qAy ((qAl l0_2 aA).f1.f2) aC).f2.f1))) (fun _ hk => trivial)⟩, ⟨by refine qAg ?_ aG.o _; refine qAg ?_ aG.o _; refine qAg ?_ aG.o _; refine qAg ?_ aG.o _; exact aD.o⟩, ⟨by refine qAg ?_ aH.o _; refine qAg ?_ aH.o _; refine qAg ?_ aH.o _; refine qAg ?_ aH.o _; exact aE.o⟩, ⟨by refine qAo (cs := #[.int .i64 ((qAy ((qAl l0_2 aA).f1.f2) aC).f0), .int .i64 ((qAy ((qAl l0_2 aA).f1.f2) aC).f1), .int .i64 ((qAy ((qAl l0_2 aA).f1.f2) aC).f2.f0), .int .u64 0]) ?_ 3 _ rfl; refine qAo (cs := #[.int .i64 ((qAy ((qAl l0_2 aA).f1.f2) aC).f0), .int .i64 ((qAy ((qAl l0_2 aA).f1.f2) aC).f1), .int .i64 0, .int .u64 0]) ?_ 2 _ rfl; refine qAo (cs := #[.int .i64 ((qAy ((qAl l0_2 aA).f1.f2) aC).f0), .int .i64 0, .int .i64 0, .int .u64 0]) ?_ 1 _ rfl; refine qAo (cs := #[.int .i64 0, .int .i64 0, .int .i64 0, .int .u64 0]) ?_ 0 _ rfl; exact aT.o⟩, ⟨by repeat (with_reducible first | exact HB.o | refine qAq ?_ bT.o)⟩⟩
     case rest =>
      clear bV
      obtain ⟨kq, ab, rfl, HA, an, aI, aD, aE, aT, HB⟩ := hcut
      cases kq with
      | zero => exact absurd HA.o (by simp [qAs.j2])
      | succ ah =>
       have H := HA.o
       clear HA
       simp only [qAs.j2] at H
       by_cases cF : ab = true
       ·subst cF
        replace H : (if aN.length < 2513169434916 then (qAs.l1 ah (aN ++ [(⟨aA, aC, 1, (⟨#[]⟩ : ByteArray), (⟨#[]⟩ : ByteArray)⟩ : S82)]) aA l0_2 (l0_2.length : Int) aA ((qAl l0_2 aA).f1.f2) (((qAl l0_2 aA).f1.f2).length : Int) (wrap64 (aC + 1))) else (none)) = some r := by rw [if_pos rfl] at H; exact H
        obtain ⟨cG, H⟩ := gd H
        have bo := am cG
        clear cG
        obtain ⟨cB, au⟩ : ∃ y_ : List (S82), y_ = (aN ++ [(⟨aA, aC, 1, (⟨#[]⟩ : ByteArray), (⟨#[]⟩ : ByteArray)⟩ : S82)]) := ⟨_, rfl⟩
        replace H : (qAs.l1 ah cB aA l0_2 (l0_2.length : Int) aA ((qAl l0_2 aA).f1.f2) (((qAl l0_2 aA).f1.f2).length : Int) (wrap64 (aC + 1))) = some r := by (rw [au]; with_reducible exact H)
        have bq := am au
        clear au
        have H' := am H
        clear H
        go_wp2_with ((with_reducible refine qBG (b := .append) (xs := #[.tmp 30, .tmp 34]) rfl ?_); at_builtin; refine Kd.R_append k82 (w0 := w) w.heap.size rfl (.tmp 30) (.tmp 34) 25 82 (.agg #[(.int .i64 0), (.int .i64 0), (.int .i64 0), (.string ⟨#[]⟩), (.string ⟨#[]⟩)]) 56 rfl Try.underlying25 info82 rfl (by decide) (by omega) u3 aN (⟨aA, aC, 1, (⟨#[]⟩ : ByteArray), (⟨#[]⟩ : ByteArray)⟩ : S82) [.int .i64 aA, .int .i64 aC, .int .i64 1, .string ⟨#[]⟩, .string ⟨#[]⟩] (fun _ => True) (fun _ => False) rfl rfl ?aP (fun _ hk => hk.elim) ?aF ?aO ?aB ?aS ?aL ?_; (case aP => exact k82_mkM _ _ _ (⟨aA, aC, 1, (⟨#[]⟩ : ByteArray), (⟨#[]⟩ : ByteArray)⟩ : S82)); (case aB => exact HB.o); (case aF => exact (fun _ _ => trivial)); (case aO => exact aI.o); (case aS => exact (qAe HB.o)); (case aL => have := bo.o; omega); intro cQ cX ho hb hg cM; rw [← bq.o] at ho; have n_ := a2 (qAH (g := aa) (o := .cells #[.string a0_0, .slice ac l0_1.length ae, .slice (some ak) l0_2.length af, .slice ad l0_3.length ag] 27 (0, 0)) aD.o hg (Kd.R_ne aI.o aD.o (by decide))) (a2 (qAH (g := aK) (o := .cells #[.string ((qAl l0_2 aA).f0), .slice aQ ((qAl l0_2 aA).f1.f0.f0).length aR, .int .i64 ((qAl l0_2 aA).f1.f0.f1), .slice aU ((qAl l0_2 aA).f1.f1).length aV, .slice (some aq) ((qAl l0_2 aA).f1.f2).length a9] 80 (0, 0)) aE.o hg (Kd.R_ne aI.o aE.o (by decide))) (a2 (hb) (am (ho)))); clear aD aE aT HB aI; obtain ⟨aD, aE, HB, bj⟩ := n_; clear ho hb hg cM)
        go_roundg ah
        case measure => have := aw.o; have := ax.o; have := an.o; omega
        case rel => exact ⟨(cB), (wrap64 (aC + 1)), (by rfl), H', ⟨by have := aw.o; have := ax.o; have := an.o; omega⟩, ⟨by exact bj.o⟩, ⟨by exact aD.o⟩, ⟨by exact aE.o⟩, ⟨by exact HB.o⟩⟩
       replace cF := Bool.eq_false_iff.mpr cF
       subst cF
       replace H : (if ((qAy ((qAl l0_2 aA).f1.f2) aC).f0) = 10 then (if aN.length < 2513169434916 then (qAs.l1 ah (aN ++ [(⟨aA, aC, 2, (⟨#[]⟩ : ByteArray), (⟨#[]⟩ : ByteArray)⟩ : S82)]) aA l0_2 (l0_2.length : Int) aA ((qAl l0_2 aA).f1.f2) (((qAl l0_2 aA).f1.f2).length : Int) (wrap64 (aC + 1))) else (none)) else (qAs.l1 ah aN aA l0_2 (l0_2.length : Int) aA ((qAl l0_2 aA).f1.f2) (((qAl l0_2 aA).f1.f2).length : Int) (wrap64 (aC + 1)))) = some r := by rw [if_neg (show ¬ (false = true) by decide)] at H; exact H
       by_cases bh : ((qAy ((qAl l0_2 aA).f1.f2) aC).f0) = 10
       rotate_left
       ·rw [if_neg bh] at H
        have bz : (((qAy ((qAl l0_2 aA).f1.f2) aC).f0) == 10) = false := bf bh
        have H' := am H
        clear H
        go_wp2
        go_roundg ah
        case measure => have := aw.o; have := ax.o; have := an.o; omega
        case rel => exact ⟨(aN), (wrap64 (aC + 1)), (by rfl), H', ⟨by have := aw.o; have := ax.o; have := an.o; omega⟩, ⟨by exact aI.o⟩, ⟨by exact aD.o⟩, ⟨by exact aE.o⟩, ⟨by exact HB.o⟩⟩
       rw [if_pos bh] at H
       have bz : (((qAy ((qAl l0_2 aA).f1.f2) aC).f0) == 10) = true := beq_iff_eq.mpr bh
       have cO : (((qAy ((qAl l0_2 aA).f1.f2) aC).f0) != 10) = false := bn bh
       clear bh
       obtain ⟨cH, H⟩ := gd H
       have bp := am cH
       clear cH
       obtain ⟨cC, av⟩ : ∃ y_ : List (S82), y_ = (aN ++ [(⟨aA, aC, 2, (⟨#[]⟩ : ByteArray), (⟨#[]⟩ : ByteArray)⟩ : S82)]) := ⟨_, rfl⟩
       replace H : (qAs.l1 ah cC aA l0_2 (l0_2.length : Int) aA ((qAl l0_2 aA).f1.f2) (((qAl l0_2 aA).f1.f2).length : Int) (wrap64 (aC + 1))) = some r := by (rw [av]; with_reducible exact H)
       have br := am av
       clear av
       have H' := am H
       clear H
       go_wp2_with ((with_reducible refine qBG (b := .append) (xs := #[.tmp 38, .tmp 42]) rfl ?_); at_builtin; refine Kd.R_append k82 (w0 := w) w.heap.size rfl (.tmp 38) (.tmp 42) 25 82 (.agg #[(.int .i64 0), (.int .i64 0), (.int .i64 0), (.string ⟨#[]⟩), (.string ⟨#[]⟩)]) 56 rfl Try.underlying25 info82 rfl (by decide) (by omega) u3 aN (⟨aA, aC, 2, (⟨#[]⟩ : ByteArray), (⟨#[]⟩ : ByteArray)⟩ : S82) [.int .i64 aA, .int .i64 aC, .int .i64 2, .string ⟨#[]⟩, .string ⟨#[]⟩] (fun _ => True) (fun _ => False) rfl rfl ?aP (fun _ hk => hk.elim) ?aF ?aO ?aB ?aS ?aL ?_; (case aP => exact k82_mkM _ _ _ (⟨aA, aC, 2, (⟨#[]⟩ : ByteArray), (⟨#[]⟩ : ByteArray)⟩ : S82)); (case aB => exact HB.o); (case aF => exact (fun _ _ => trivial)); (case aO => exact aI.o); (case aS => exact (qAe HB.o)); (case aL => have := bp.o; omega); intro cR cY ho hb hg cM; rw [← br.o] at ho; have n_ := a2 (qAH (g := aa) (o := .cells #[.string a0_0, .slice ac l0_1.length ae, .slice (some ak) l0_2.length af, .slice ad l0_3.length ag] 27 (0, 0)) aD.o hg (Kd.R_ne aI.o aD.o (by decide))) (a2 (qAH (g := aK) (o := .cells #[.string ((qAl l0_2 aA).f0), .slice aQ ((qAl l0_2 aA).f1.f0.f0).length aR, .int .i64 ((qAl l0_2 aA).f1.f0.f1), .slice aU ((qAl l0_2 aA).f1.f1).length aV, .slice (some aq) ((qAl l0_2 aA).f1.f2).length a9] 80 (0, 0)) aE.o hg (Kd.R_ne aI.o aE.o (by decide))) (a2 (hb) (am (ho)))); clear aD aE aT HB aI; obtain ⟨aD, aE, HB, bk⟩ := n_; clear ho hb hg cM)
       go_roundg ah
       case measure => have := aw.o; have := ax.o; have := an.o; omega
       case rel => exact ⟨(cC), (wrap64 (aC + 1)), (by rfl), H', ⟨by have := aw.o; have := ax.o; have := an.o; omega⟩, ⟨by exact bk.o⟩, ⟨by exact aD.o⟩, ⟨by exact aE.o⟩, ⟨by exact HB.o⟩⟩
def qAv.l0 : Nat → List ByteArray → ByteArray → Int → Int → Option (Int)
 | 0, _, _, _, _ => none
 | k + 1, x0, x1, x7, x8 => if x8 < x7 then (if 0 ≤ x8 then (if x8 < (x0.length : Int) then (if x1.toList = (rdOf ByteArray.empty x0 x8).toList then (some x8) else (qAv.l0 k x0 x1 x7 (wrap64 (x8 + 1)))) else (none)) else (none)) else (some (-1))
def qAv.f (k : Nat) (l0 : List ByteArray) (a1 : ByteArray) : Option (Int) := qAv.l0 k l0 a1 (l0.length : Int) 0
theorem qAv.calls (k : Nat) (A0 : Option Addr) (c0 : Nat) (l0 : List ByteArray) (a1 : ByteArray) (r : Int) (w : World) (hr0 : Kd.C Kd.string w A0 l0.length l0) (hc0 : l0.length ≤ c0) (h : qAv.f k l0 a1 = some r) :
  Calls Try.prog 110 #[.slice A0 l0.length c0, .string a1] w fun e w' => e = .returned (.int .i64 r) ∧ qAD w w' := by
 have aJ := am hr0
 clear hr0 hc0
 have H : (qAv.l0 k l0 a1 (l0.length : Int) 0) = some r := h
 clear h
 have H' := am H
 clear H
 go_enter Try.func110, Try.ntmps110
 go_wp2
 go_loopg [8] k (fun kq v8 w' => ∃ (aA : Int), v8 = .int .i64 aA ∧ qAa (qAv.l0 kq l0 a1 (l0.length : Int) aA = some r) ∧ qAa (kq ≤ k) ∧ qAD w w')
 case atStart => exact ⟨(0), (by rfl), H', ⟨Nat.le_refl _⟩, by exact qAD.refl _⟩
 case round =>
  clear H'
  obtain ⟨aA, rfl, HA, aI, ⟨m1, rfl⟩⟩ := hrel
  cases gk with
  | zero => exact absurd HA.o (by simp [qAv.l0])
  | succ k1 =>
   have H := HA.o
   clear HA
   simp only [qAv.l0] at H
   by_cases c3 : aA < (l0.length : Int)
   rotate_left
   ·rw [if_neg c3] at H
    replace c3 := d0 c3
    obtain rfl := Option.some.inj H
    go_wp2
    go_ret
    exact ⟨by rfl, by repeat (first | exact qAD.refl _ | apply qAD.step)⟩
   rw [if_pos c3] at H
   replace c3 := d1 c3
   obtain ⟨c4, H⟩ := gd H
   replace c4 := d1 c4
   obtain ⟨c5, H⟩ := gd H
   replace c5 := d1 c5
   by_cases c6 : a1.toList = (rdOf ByteArray.empty l0 aA).toList
   ·rw [if_pos c6] at H
    have aH : (a1.toList == (rdOf ByteArray.empty l0 aA).toList) = true := beq_iff_eq.mpr c6
    clear c6
    obtain rfl := Option.some.inj H
    have aB : 0 ≤ aA := od (by assumption)
    have aC : aA < (l0.length : Int) := od (by assumption)
    obtain ⟨aF, aE, aD⟩ := Kd.at_string aJ.o aA aB aC
    cases aE
    replace aB := eq_true aB
    replace aC := eq_true aC
    go_wp2
    go_ret
    exact ⟨by rfl, by repeat (first | exact qAD.refl _ | apply qAD.step)⟩
   rw [if_neg c6] at H
   have aH : (a1.toList == (rdOf ByteArray.empty l0 aA).toList) = false := bf c6
   have H' := am H
   clear H
   have aB : 0 ≤ aA := od (by assumption)
   have aC : aA < (l0.length : Int) := od (by assumption)
   obtain ⟨aF, aE, aD⟩ := Kd.at_string aJ.o aA aB aC
   cases aE
   replace aB := eq_true aB
   replace aC := eq_true aC
   go_wp2
   go_roundg k1
   case measure => have := aI.o; omega
   case rel => exact ⟨(wrap64 (aA + 1)), (by rfl), H', ⟨by have := aI.o; omega⟩, by repeat (first | exact qAD.refl _ | apply qAD.step)⟩
def qA7.f (k : Nat) (l0 : List ByteArray) (a1 : ByteArray) : Option (Bool) := (qAv.f k l0 a1).bind fun aA => (some (decide (aA ≥ 0)))
theorem qA7.calls (k : Nat) (A0 : Option Addr) (c0 : Nat) (l0 : List ByteArray) (a1 : ByteArray) (r : Bool) (w : World) (hr0 : Kd.C Kd.string w A0 l0.length l0) (hc0 : l0.length ≤ c0) (h : qA7.f k l0 a1 = some r) :
  Calls Try.prog 83 #[.slice A0 l0.length c0, .string a1] w fun e w' => e = .returned (.bool r) ∧ qAD w w' := by
 have aD := am hr0
 have aC := am hc0
 clear hr0 hc0
 have H : ((qAv.f k l0 a1).bind fun aA => (some (decide (aA ≥ 0)))) = some r := h
 clear h
 replace H := bm H
 obtain ⟨aA, aB, H⟩ := H
 replace H : (some (decide (aA ≥ 0))) = some r := H
 have A3 := am aB
 clear aB
 obtain rfl := Option.some.inj H
 go_enter Try.func83, Try.ntmps83
 go_wp2_with ((with_reducible refine qAp (f := 110) rfl ?_); refine gL 7 Try.func110 #[.slice A0 l0.length c0, .string a1] ?_; (with_reducible refine (qAv.calls k _ _ l0 a1 aA _ ?side1 ?side2 A3.o).mono ?_); (case side1 => exact aD.o); (case side2 => exact aC.o); rintro e w' ⟨rfl, ⟨nd, rfl⟩⟩; refine ⟨_, rfl, ?_⟩)
 go_ret
 exact ⟨by rfl, by repeat (first | exact qAD.refl _ | apply qAD.step)⟩
end Q
end
section
namespace Q
open Go.RowKit PA PB PC
theorem qBD {i : Int} {n : Nat} (h0 : 0 ≤ i) (h : i < n) (hn : n ≤ 4611686018427387904) : wrap64 (i + 1) = i + 1 := by unfold wrap64; omega
theorem qBe {α : Type} (l : List α) (d : α) (i : Int) (h0 : 0 ≤ i) (h : i < l.length) : l.drop i.toNat = l.getD i.toNat d :: l.drop (i + 1).toNat := by
 rw [show (i + 1).toNat = i.toNat + 1 from by omega, List.drop_eq_getElem_cons (by omega), List.getD_eq_getElem?_getD, List.getElem?_eq_getElem (by omega)]; rfl
def hasB (l : List ByteArray) (s : ByteArray) : Bool := l.any fun x => s.toList == x.toList
theorem index_ev (l : List ByteArray) (s : ByteArray) (hl : l.length ≤ 4611686018427387904) : ∀ (d : Nat) (i : Int), 0 ≤ i → (l.length : Int) - i = d →
  ∃ r, Ev (fun k => qAv.l0 k l s (l.length : Int) i) r ∧ (0 ≤ r ↔ hasB (l.drop i.toNat) s = true) := by
 intro d
 induction d with
 | zero =>
  intro i h0 hd
  refine ⟨-1, Ev.step (f := fun _ => some (-1)) (fun k => ?_) (Ev.now _), ?_⟩
  ·simp only [qAv.l0]; rw [if_neg (by omega)]
  rw [List.drop_eq_nil_of_le (by omega)]; simp [hasB]
 | succ d ih =>
  intro i h0 hd
  have hc := qBe l ByteArray.empty i h0 (by omega)
  by_cases he : s.toList = (rdOf ByteArray.empty l i).toList
  ·refine ⟨i, Ev.step (f := fun _ => some i) (fun k => ?_) (Ev.now _), ?_⟩
   ·simp only [qAv.l0]; rw [if_pos (by omega), if_pos h0, if_pos (by omega), if_pos he]
   rw [hc]
   simp [hasB, h0]
   exact .inl he
  obtain ⟨r, hr, hq⟩ := ih (i + 1) (by omega) (by omega)
  refine ⟨r, Ev.step (f := fun k => qAv.l0 k l s (l.length : Int) (i + 1)) (fun k => ?_) hr, ?_⟩
  ·simp only [qAv.l0]; rw [if_pos (by omega), if_pos h0, if_pos (by omega), if_neg he, qBD (n := l.length) h0 (by omega) hl]
  rw [hq, hc]
  have he' : (s.toList == (l.getD i.toNat ByteArray.empty).toList) = false := beq_eq_false_iff_ne.mpr he
  simp only [hasB, List.any_cons, he', Bool.false_or]
theorem qDr (l : List ByteArray) (s : ByteArray) (hl : l.length ≤ 4611686018427387904) : Ev (fun k => qA7.f k l s) (hasB l s) := by
 obtain ⟨r, hr, hq⟩ := index_ev l s hl l.length 0 (by omega) (by omega)
 have : hasB l s = decide (r ≥ 0) := by
  rw [show l.drop (0 : Int).toNat = l from rfl] at hq
  cases h : hasB l s with
  | true => exact (decide_eq_true (hq.2 h)).symm
  | false => exact (decide_eq_false (fun hh => by have := hq.1 hh; rw [h] at this; cases this)).symm
 rw [this]
 exact Ev.congr (f := fun k => (qAv.l0 k l s (l.length : Int) 0).bind fun t => some (decide (t ≥ 0))) (fun k => rfl) (Ev.bind hr (Ev.now _))
def qCa (f i : Int) (x : S115) : List S82 := if x.f0 = 4 ∨ x.f0 = 5 then [⟨f, i, 1, ⟨#[]⟩, ⟨#[]⟩⟩] else if x.f0 = 10 then [⟨f, i, 2, ⟨#[]⟩, ⟨#[]⟩⟩] else []
def qEg (f : Int) : Int → List S115 → List S82
 | _, [] => []
 | i, x :: xs => qCa f i x ++ qEg f (i + 1) xs
def fnsP : Int → List S80 → List S82
 | _, [] => []
 | i, x :: xs => qEg i 0 x.f1.f2 ++ fnsP (i + 1) xs
def qBr (fns : List S80) : List S82 := fnsP 0 fns
theorem qED (f i : Int) (x : S115) : (qCa f i x).length ≤ 1 := by unfold qCa; (repeat' split) <;> simp
theorem qE0 (f : Int) : ∀ (l : List S115) (i : Int), (qEg f i l).length ≤ l.length
 | [], _ => Nat.le_refl _
 | x :: xs, i => by
  have := qE0 f xs (i + 1)
  have := qED f i x
  simp only [qEg, List.length_append, List.length_cons]; omega
theorem fnsP_len : ∀ (l : List S80) (i : Int), (∀ x ∈ l, x.f1.f2.length ≤ 4096) → (fnsP i l).length ≤ l.length * 4096
 | [], _, _ => Nat.zero_le _
 | x :: xs, i, h => by
  have h1 := fnsP_len xs (i + 1) fun y hy => h y (List.mem_cons_of_mem _ hy)
  have h2 := qE0 i x.f1.f2 0
  have h3 := h x List.mem_cons_self
  simp only [fnsP, List.length_append, List.length_cons]; omega
theorem code_ev (f : Int) (x9 : List S80) (x10 : Int) (l : List S115) (hl : l.length ≤ 4096) (r : List S82) : ∀ (d : Nat) (i : Int) (acc : List S82), 0 ≤ i → (l.length : Int) - i = d → acc.length + d < 2513169434916 →
  Ev (fun k => qAs.l0 k (acc ++ qEg f i (l.drop i.toNat)) x9 x10 (wrap64 (f + 1))) r → Ev (fun k => qAs.l1 k acc f x9 x10 f l (l.length : Int) i) r := by
 intro d
 induction d with
 | zero =>
  intro i acc h0 hd ha h
  rw [List.drop_eq_nil_of_le (by omega)] at h
  simp only [qEg, List.append_nil] at h
  refine Ev.step (fun k => ?_) h
  simp only [qAs.l1]; rw [if_neg (by omega)]
 | succ d ih =>
  intro i acc h0 hd ha h
  have hc := qBe l z115 i h0 (by omega)
  have hx : qAy l i = l.getD i.toNat z115 := rfl
  rw [hc, ← hx] at h
  simp only [qEg] at h
  rw [← List.append_assoc] at h
  have hw := qBD (n := l.length) h0 (by omega) (by omega)
  have hrec := ih (i + 1) (acc ++ qCa f i (qAy l i)) (by omega) (by omega) (by have := qED f i (qAy l i); rw [List.length_append]; omega) h
  by_cases h4 : (qAy l i).f0 = 4
  ·refine Ev.step (f := fun k => qAs.j2 k acc f i x9 x10 f l (l.length : Int) i (qAy l i).f0 ((qAy l i).f0 == 4)) (fun k => ?_) (Ev.step (fun k => ?_) hrec)
   ·simp only [qAs.l1]; rw [if_pos (by omega), if_pos h0, if_pos (by omega), if_pos h4]
   simp only [qAs.j2]; rw [if_pos (beq_iff_eq.mpr h4), if_pos (by omega), hw, show qCa f i (qAy l i) = [⟨f, i, 1, ⟨#[]⟩, ⟨#[]⟩⟩] from if_pos (.inl h4)]
  by_cases h5 : (qAy l i).f0 = 5
  ·refine Ev.step (f := fun k => qAs.j2 k acc f i x9 x10 f l (l.length : Int) i (qAy l i).f0 ((qAy l i).f0 == 5)) (fun k => ?_) (Ev.step (fun k => ?_) hrec)
   ·simp only [qAs.l1]; rw [if_pos (by omega), if_pos h0, if_pos (by omega), if_neg h4]
   simp only [qAs.j2]; rw [if_pos (beq_iff_eq.mpr h5), if_pos (by omega), hw, show qCa f i (qAy l i) = [⟨f, i, 1, ⟨#[]⟩, ⟨#[]⟩⟩] from if_pos (.inr h5)]
  have hno : ¬ ((qAy l i).f0 = 4 ∨ (qAy l i).f0 = 5) := by omega
  have hb : ¬ ((qAy l i).f0 == 5) = true := by simp [h5]
  by_cases h10 : (qAy l i).f0 = 10
  rotate_left
  ·refine Ev.step (f := fun k => qAs.j2 k acc f i x9 x10 f l (l.length : Int) i (qAy l i).f0 ((qAy l i).f0 == 5)) (fun k => ?_) (Ev.step (fun k => ?_) hrec)
   ·simp only [qAs.l1]; rw [if_pos (by omega), if_pos h0, if_pos (by omega), if_neg h4]
   simp only [qAs.j2]; rw [if_neg hb, if_neg h10, hw, show qCa f i (qAy l i) = [] from (if_neg hno).trans (if_neg h10), List.append_nil]
  refine Ev.step (f := fun k => qAs.j2 k acc f i x9 x10 f l (l.length : Int) i (qAy l i).f0 ((qAy l i).f0 == 5)) (fun k => ?_) (Ev.step (fun k => ?_) hrec)
  ·simp only [qAs.l1]; rw [if_pos (by omega), if_pos h0, if_pos (by omega), if_neg h4]
  simp only [qAs.j2]; rw [if_neg hb, if_pos h10, if_pos (by omega), hw, show qCa f i (qAy l i) = [⟨f, i, 2, ⟨#[]⟩, ⟨#[]⟩⟩] from (if_neg hno).trans (if_pos h10)]
theorem fns_ev (fns : List S80) (hl : fns.length ≤ 64) (h4 : ∀ x ∈ fns, x.f1.f2.length ≤ 4096) : ∀ (d : Nat) (i : Int) (acc : List S82), 0 ≤ i → (fns.length : Int) - i = d → acc.length + d * 4096 < 2513169434916 →
  Ev (fun k => qAs.l0 k acc fns (fns.length : Int) i) (acc ++ fnsP i (fns.drop i.toNat)) := by
 intro d
 induction d with
 | zero =>
  intro i acc h0 hd ha
  rw [List.drop_eq_nil_of_le (by omega)]
  simp only [fnsP, List.append_nil]
  refine Ev.step (f := fun _ => some acc) (fun k => ?_) (Ev.now _)
  simp only [qAs.l0]; rw [if_neg (by omega)]
 | succ d ih =>
  intro i acc h0 hd ha
  have hc := qBe fns z80 i h0 (by omega)
  have hx : qAl fns i = fns.getD i.toNat z80 := rfl
  rw [hc, ← hx]
  simp only [fnsP]
  rw [← List.append_assoc]
  have hw := qBD (n := fns.length) h0 (by omega) (by omega)
  have hm : qAl fns i ∈ fns := by
   have : i.toNat < fns.length := by omega
   rw [hx, List.getD_eq_getElem?_getD, List.getElem?_eq_getElem this]; exact List.getElem_mem _
  have h4' := h4 _ hm
  have hlen := qE0 i (qAl fns i).f1.f2 0
  refine Ev.step (f := fun k => qAs.l1 k acc i fns (fns.length : Int) i (qAl fns i).f1.f2 ((qAl fns i).f1.f2.length : Int) 0) (fun k => ?_) (code_ev i fns _ _ h4' _ (qAl fns i).f1.f2.length 0 acc (by omega) (by omega) (by omega) ?_)
  ·simp only [qAs.l0]; rw [if_pos (by omega), if_pos h0, if_pos (by omega)]
  rw [hw]
  exact ih (i + 1) _ (by omega) (by omega) (by rw [List.length_append]; simp only [show ((0 : Int).toNat) = 0 from rfl, List.drop_zero]; omega)
theorem places_ev (a : ByteArray) (l1 : List S71) (fns : List S80) (l3 : List S82) (hl : fns.length ≤ 64) (h4 : ∀ x ∈ fns, x.f1.f2.length ≤ 4096) : Ev (fun k => qAs.f k a l1 fns l3) (qBr fns) :=
 fns_ev fns hl h4 fns.length 0 [] (by omega) (by omega) (by simp; omega)
theorem placeOf_in {f i : Int} {x : S115} {p : S82} (h : p ∈ qCa f i x) : p.f0 = f ∧ p.f1 = i := by
 unfold qCa at h
 (repeat' split at h) <;> simp at h <;> subst h <;> exact ⟨rfl, rfl⟩
theorem codeP_in (f : Int) : ∀ (l : List S115) (i : Int) (p : S82), p ∈ qEg f i l → p.f0 = f ∧ i ≤ p.f1 ∧ p.f1 < i + l.length
 | [], _, _, h => by simp [qEg] at h
 | x :: xs, i, p, h => by
  simp only [qEg, List.mem_append] at h
  rcases h with h | h
  ·obtain ⟨h1, h2⟩ := placeOf_in h
   exact ⟨h1, by omega, by simp only [List.length_cons]; omega⟩
  obtain ⟨h1, h2, h3⟩ := codeP_in f xs (i + 1) p h
  exact ⟨h1, by omega, by simp only [List.length_cons]; omega⟩
theorem fnsP_in : ∀ (l : List S80) (i : Int) (p : S82), p ∈ fnsP i l → ∃ (j : Nat) (x : S80), l[j]? = some x ∧ p.f0 = i + j ∧ 0 ≤ p.f1 ∧ p.f1 < x.f1.f2.length
 | [], _, _, h => by simp [fnsP] at h
 | x :: xs, i, p, h => by
  simp only [fnsP, List.mem_append] at h
  rcases h with h | h
  ·obtain ⟨h1, h2, h3⟩ := codeP_in i _ 0 p h
   exact ⟨0, x, rfl, by simpa using h1, h2, by omega⟩
  obtain ⟨j, y, hj, h1, h2, h3⟩ := fnsP_in xs (i + 1) p h
  exact ⟨j + 1, y, by simpa using hj, by omega, h2, h3⟩
end Q
end
section
namespace Q
open Go.RowKit PA PB PC
open Val Ins
def qBv : List S82 → Int
 | [] => 0
 | r :: rs => if Names.nameE r.f3 ≠ 0 then Names.nameE r.f3 else if Names.nameE r.f4 ≠ 0 then Names.nameE r.f4 else qBv rs
def qCV (m : ByteArray) (vs fs : List ByteArray) (r : S82) : Bool :=
 if r.f3.toList = m.toList then (if r.f2 = 1 then !hasB vs r.f4 else if r.f2 = 2 then !hasB fs r.f4 else false) else decide (r.f2 = 1)
def qD9 (m : ByteArray) (fns : List S80) (rs : List S82) (vs fs : List ByteArray) : Int :=
 if qBS rs (qBr fns) = false then 52 else if ((qBr fns).any fun p => qDk fns p != 0) = true then 52
 else if qBv rs ≠ 0 then qBv rs else if rs.any (qCV m vs fs) = true then 52 else 0
theorem relNames_step (l : List S82) (k : Nat) (x : S82) (hx : l[k]? = some x) (h : Names.nameE x.f3 = 0) (h2 : Names.nameE x.f4 = 0) : qBv (l.drop k) = qBv (l.drop (k + 1)) := by
 obtain ⟨hk, he⟩ := List.getElem?_eq_some_iff.1 hx
 rw [List.drop_eq_getElem_cons hk, he]
 simp only [qBv, h, h2, ne_eq, not_true_eq_false, if_false]
theorem relNames_hit1 (l : List S82) (k : Nat) (x : S82) (hx : l[k]? = some x) (h : Names.nameE x.f3 ≠ 0) : qBv (l.drop k) = Names.nameE x.f3 := by
 obtain ⟨hk, he⟩ := List.getElem?_eq_some_iff.1 hx
 rw [List.drop_eq_getElem_cons hk, he]
 simp only [qBv]; rw [if_pos h]
theorem relNames_hit2 (l : List S82) (k : Nat) (x : S82) (hx : l[k]? = some x) (h : Names.nameE x.f3 = 0) (h2 : Names.nameE x.f4 ≠ 0) : qBv (l.drop k) = Names.nameE x.f4 := by
 obtain ⟨hk, he⟩ := List.getElem?_eq_some_iff.1 hx
 rw [List.drop_eq_getElem_cons hk, he]
 simp only [qBv]; rw [if_neg (by simp [h]), if_pos h2]
theorem relNames_end (l : List S82) (k : Nat) (hk : l.length ≤ k) : qBv (l.drop k) = 0 := by rw [List.drop_eq_nil_of_le hk]; rfl
theorem rd_in {α : Type} (l : List α) (d : α) (j : Nat) (x : α) (h : l[j]? = some x) : l.getD j d = x := by rw [List.getD_eq_getElem?_getD, h]; rfl
theorem placesL_in (fns : List S80) : ∀ p ∈ qBr fns, placeIn fns p := by
 intro p hp
 obtain ⟨j, x, hj, h1, h2, h3⟩ := fnsP_in fns 0 p hp
 have hr : qAl fns p.f0 = x := by
  unfold qAl
  rw [show p.f0.toNat = j from by omega]; exact rd_in _ _ _ _ hj
 exact ⟨by omega, by have := (List.getElem?_eq_some_iff.1 hj).1; omega, h2, by rw [hr]; exact h3⟩
def qBu.f (a0_0 : ByteArray) (_l0_1 : List (S71)) (l0_2 : List (S80)) (l0_3 : List (S82)) (l1 : List ByteArray) (l2 : List ByteArray) : Option (Int) :=
 if l0_2.length ≤ 64 ∧ (∀ x ∈ l0_2, x.f1.f2.length ≤ 4096) ∧ l0_3.length ≤ 4611686018427387904 ∧ (∀ r ∈ l0_3, r.f3.size ≤ 140737488351232 ∧ r.f4.size ≤ 140737488351232) ∧ l1.length ≤ 4611686018427387904 ∧ l2.length ≤ 4611686018427387904
 then some (qD9 a0_0 l0_2 l0_3 l1 l2) else none
theorem qBu.calls (a0_0 : ByteArray) (A0_1 : Option Addr) (c0_1 : Nat) (l0_1 : List (S71)) (A0_2 : Option Addr) (c0_2 : Nat) (l0_2 : List (S80)) (A0_3 : Option Addr) (c0_3 : Nat) (l0_3 : List (S82)) (A1 : Option Addr) (c1 : Nat) (l1 : List ByteArray) (A2 : Option Addr) (c2 : Nat) (l2 : List ByteArray) (r : Int) (w : World) (hr0_1 : Kd.C k71 w A0_1 l0_1.length l0_1) (hc0_1 : l0_1.length ≤ c0_1) (hr0_2 : Kd.C k80 w A0_2 l0_2.length l0_2) (hc0_2 : l0_2.length ≤ c0_2) (hr0_3 : Kd.C k82 w A0_3 l0_3.length l0_3) (hc0_3 : l0_3.length ≤ c0_3) (hr1 : Kd.C Kd.string w A1 l1.length l1) (hc1 : l1.length ≤ c1) (hr2 : Kd.C Kd.string w A2 l2.length l2) (hc2 : l2.length ≤ c2) (h : qBu.f a0_0 l0_1 l0_2 l0_3 l1 l2 = some r) :
  Calls Try.prog 42 #[.agg #[.string a0_0, .slice A0_1 l0_1.length c0_1, .slice A0_2 l0_2.length c0_2, .slice A0_3 l0_3.length c0_3], .slice A1 l1.length c1, .slice A2 l2.length c2] w fun e w' => e = .returned (.int .i64 r) ∧ Below w.heap.size w w' := by
 unfold qBu.f at h
 split at h
 case isFalse => cases h
 rename_i hs
 obtain ⟨hf64, hf4, hr62, hrs, hv62, hfl62⟩ := hs
 replace h := Option.some.inj h
 obtain ⟨kp, hkp⟩ := (places_ev a0_0 l0_1 l0_2 l0_3 hf64 hf4).rounds
 have hpl : (qBr l0_2).length ≤ 4611686018427387904 := by have := fnsP_len l0_2 0 hf4; unfold qBr; omega
 obtain ⟨cs, hcs⟩ : ∃ cs : Array Value, cs = #[.string a0_0, .slice A0_1 l0_1.length c0_1, .slice A0_2 l0_2.length c0_2, .slice A0_3 l0_3.length c0_3] := ⟨_, rfl⟩
 obtain ⟨WA, hWA⟩ : ∃ WA, WA = w.alloc (.cells cs 27) := ⟨_, rfl⟩
 have hBA : Below w.heap.size w WA := hWA ▸ (Below.refl _ _).alloc (Nat.le_refl _) _
 have hgA : w.heap.size < WA.heap.size := by rw [hWA]; simp
 have k0 : WA.cell? ⟨w.heap.size, 0, none⟩ = some (.string a0_0) := by rw [hWA, World.cell?_alloc_at _ _ _ _ rfl, hcs]; rfl
 have k2 : WA.cell? ⟨w.heap.size, 2, none⟩ = some (.slice A0_2 l0_2.length c0_2) := by rw [hWA, World.cell?_alloc_at _ _ _ _ rfl, hcs]; rfl
 have k1 : WA.cell? ⟨w.heap.size, 1, none⟩ = some (.slice A0_1 l0_1.length c0_1) := by rw [hWA, World.cell?_alloc_at _ _ _ _ rfl, hcs]; rfl
 have k3 : WA.cell? ⟨w.heap.size, 3, none⟩ = some (.slice A0_3 l0_3.length c0_3) := by rw [hWA, World.cell?_alloc_at _ _ _ _ rfl, hcs]; rfl
 have HK0 := am k0
 have HK2 := am k2
 have HK3 := am k3
 have HP : qAa (Calls Try.prog 92 #[.agg #[.string a0_0, .slice A0_1 l0_1.length c0_1, .slice A0_2 l0_2.length c0_2, .slice A0_3 l0_3.length c0_3]] WA fun e w' => ∃ v0_ : Value, e = .returned (v0_) ∧ Kd.R k82 82 w' WA.heap.size (fun _ => True) v0_ (qBr l0_2) ∧ Below WA.heap.size WA w') :=
  ⟨qAs.calls kp a0_0 A0_1 c0_1 l0_1 A0_2 c0_2 l0_2 A0_3 c0_3 l0_3 _ WA (Kd.C_below hr0_1 hBA) hc0_1 (Kd.C_below hr0_2 hBA) hc0_2 (Kd.C_below hr0_3 hBA) hc0_3 hkp⟩
 have HF : qAa (∀ (A : Option Addr) (c : Nat) W, Below WA.heap.size WA W → Kd.C k82 W A (qBr l0_2).length (qBr l0_2) → Calls Try.prog 94 #[.slice A0_3 l0_3.length c0_3, .slice A (qBr l0_2).length c, .func (.func 93) #[] #[]] W fun e w' => e = .returned (.bool (qBS l0_3 (qBr l0_2))) ∧ Below W.heap.size W w') :=
  ⟨fun A c W hW hC => eqf_any A0_3 A c0_3 c l0_3 (qBr l0_2) W (Kd.C_below hr0_3 (qA3 hBA hBA.size hW)) hC hr62⟩
 have HG : qAa (∀ (A : Option Addr) (c : Nat) W, Below WA.heap.size WA W → Kd.C k82 W A (qBr l0_2).length (qBr l0_2) → Calls Try.prog 95 #[.slice A (qBr l0_2).length c, .func (.func 96) #[] #[.pointer (some ⟨w.heap.size, 0, none⟩)]] W fun e w' => e = .returned (.bool ((qBr l0_2).any fun x => qDk l0_2 x != 0)) ∧ Below W.heap.size W w') :=
  ⟨fun A c W hW hC => has_places w.heap.size l0_2 A0_2 c0_2 A c (qBr l0_2) W ((hW.cell (p := ⟨w.heap.size, 2, none⟩) hgA).trans k2) (Kd.C_below hr0_2 (qA3 hBA hBA.size hW)) hC hpl (placesL_in l0_2)⟩
 have HRL : qAa (Kd.C k82 WA A0_3 l0_3.length l0_3) := ⟨Kd.C_below hr0_3 hBA⟩
 have HV : qAa (∀ (s : ByteArray) W, Below WA.heap.size WA W → Calls Try.prog 83 #[.slice A1 l1.length c1, .string s] W fun e w' => e = .returned (.bool (hasB l1 s)) ∧ qAD W w') := ⟨fun s W hW => by
   obtain ⟨k, hk⟩ := (qDr l1 s hv62).rounds
   exact qA7.calls k A1 c1 l1 s _ W (Kd.C_below hr1 (qA3 hBA hBA.size hW)) hc1 hk⟩
 have HW : qAa (∀ (s : ByteArray) W, Below WA.heap.size WA W → Calls Try.prog 83 #[.slice A2 l2.length c2, .string s] W fun e w' => e = .returned (.bool (hasB l2 s)) ∧ qAD W w') := ⟨fun s W hW => by
   obtain ⟨k, hk⟩ := (qDr l2 s hfl62).rounds
   exact qA7.calls k A2 c2 l2 s _ W (Kd.C_below hr2 (qA3 hBA hBA.size hW)) hc2 hk⟩
 have HN : qAa (∀ (s : ByteArray) W, s.size ≤ 140737488351232 → Calls Try.prog 38 #[.string s] W fun e w' => e = .returned (.int .i64 (Names.nameE s)) ∧ qAD W w') := ⟨fun s W hs => qBa.calls s _ W (by unfold qBa.f; rw [if_pos hs])⟩
 have HRS := am hrs
 have HWA := am hWA
 obtain ⟨ne, hne⟩ : ∃ n, n = l0_3.length := ⟨_, rfl⟩
 obtain ⟨n1, hn1⟩ : ∃ n, n = l0_1.length := ⟨_, rfl⟩
 obtain ⟨n2, hn2⟩ : ∃ n, n = l0_2.length := ⟨_, rfl⟩
 obtain ⟨m1, hm1⟩ : ∃ n, n = l1.length := ⟨_, rfl⟩
 obtain ⟨m2, hm2⟩ : ∃ n, n = l2.length := ⟨_, rfl⟩
 obtain ⟨np, hnp⟩ : ∃ n, n = (qBr l0_2).length := ⟨_, rfl⟩
 rw [← hne, ← hn1, ← hn2] at hcs HP
 rw [← hne] at HF HRL k3 HK3
 rw [← hnp] at HF HG
 rw [← hn2] at k2 HK2
 rw [← hn1] at k1
 rw [← hm1] at HV
 rw [← hm2] at HW
 rw [← hne, ← hn1, ← hn2, ← hm1, ← hm2]
 have HNE := am hne
 have HNP := am hnp
 have HBA := am hBA
 have HH := am h
 have hr62' : ne ≤ 4611686018427387904 := by omega
 clear hr0_1 hc0_1 hr0_2 hc0_2 hr0_3 hc0_3 hr1 hc1 hr2 hc2 hf64 hf4 hr62 hrs hv62 hfl62 hkp hpl hne hn1 hn2 hm1 hm2 hnp hBA h
 subst hcs
 clear hWA
 go_enter Try.func42, Try.ntmps42
 go_wp2_with fail
 rw [← HWA.out]
 go_wp2_with fail
 refine HP.out.mono ?_
 rintro e w1 ⟨v0, rfl, hR, hb1⟩
 obtain ⟨AP, cP, rfl⟩ := Kd.R_slice hR
 have HRP := am (Kd.R_reads hR)
 have HB1 := am hb1
 obtain ⟨AP', cP', hv, _, hC⟩ := Kd.R_reads hR
 injection hv with hv1 _ hv2
 subst hv1; subst hv2
 rw [← HNP.out] at hC ⊢
 have HC := am hC
 have q0 := (hb1.cell (p := ⟨w.heap.size, 0, none⟩) hgA).trans HK0.out
 have q3 := (hb1.cell (p := ⟨w.heap.size, 3, none⟩) hgA).trans HK3.out
 clear hR hb1 HP k0 k1 k2 k3 hC HRP
 go_wp2_with fail
 refine (HF.out AP cP _ HB1.out HC.out).mono ?_
 rintro e w2 ⟨rfl, hb⟩
 obtain ⟨b1, hb1⟩ : ∃ b, b = qBS l0_3 (qBr l0_2) := ⟨_, rfl⟩
 rw [← hb1]
 have HQ1 := am hb1
 have HB2 := am (qA3 HB1.out HB1.out.size hb)
 have HC2 := am (Kd.C_below HC.out hb)
 have e0 := (HB2.out.cell (p := ⟨w.heap.size, 0, none⟩) hgA).trans HK0.out
 have e3 := (HB2.out.cell (p := ⟨w.heap.size, 3, none⟩) hgA).trans HK3.out
 clear hb hb1 q0 q3 HC
 cases b1 with
 | false =>
  go_wp2
  go_ret
  refine ⟨?_, qA3 HBA.out HBA.out.size HB2.out⟩
  rw [← HH.out]; unfold qD9; rw [if_pos HQ1.out.symm]; rfl
 | true =>
 go_wp2_with fail
 refine (HG.out AP cP _ HB2.out HC2.out).mono ?_
 rintro e w3 ⟨rfl, hb⟩
 obtain ⟨b2, hb2⟩ : ∃ b, b = (qBr l0_2).any fun x => qDk l0_2 x != 0 := ⟨_, rfl⟩
 rw [← hb2]
 have HQ2 := am hb2
 have HB3 := am (qA3 HB2.out HB2.out.size hb)
 have g0 := (HB3.out.cell (p := ⟨w.heap.size, 0, none⟩) hgA).trans HK0.out
 have g3 := (HB3.out.cell (p := ⟨w.heap.size, 3, none⟩) hgA).trans HK3.out
 clear hb hb2 e0 e3 HC2 HF HG
 cases b2 with
 | true =>
  go_wp2
  go_ret
  refine ⟨?_, qA3 HBA.out HBA.out.size HB3.out⟩
  have e1 := HQ1.out.symm; have e2 := HQ2.out.symm; rw [← HH.out]; unfold qD9; rw [e1, e2]; rfl
 | false =>
 have HH2 : qAa ((if qBv l0_3 ≠ 0 then qBv l0_3 else if l0_3.any (qCV a0_0 l1 l2) = true then 52 else 0) = r) := ⟨by
   have e1 := HQ1.out.symm; have e2 := HQ2.out.symm; rw [← HH.out]; unfold qD9; rw [e1, e2]; rfl⟩
 clear HH HQ1 HQ2
 go_wp2_with fail
 go_loopg [10, 11, 12, 32] ne (fun gg _ _ _ s32 wr => ∃ kk : Nat, kk ≤ ne ∧ ne - kk ≤ gg ∧ s32 = .int .i64 kk ∧ qAa (qBv (l0_3.drop kk) = qBv l0_3) ∧ qAa (Below WA.heap.size WA wr))
 case atStart => exact ⟨0, Nat.zero_le _, by omega, rfl, ⟨rfl⟩, HB3⟩
 case round =>
  clear g0 g3 HB1 HB2 HB3
  obtain ⟨kk, hkk, hg, rfl, HA, HB⟩ := hrel
  by_cases hlt : kk < ne
  ·have hltz : (kk : Int) < (ne : Int) := by omega
   have h0 : (0 : Int) ≤ (kk : Int) := by omega
   obtain ⟨ad, ea, hx0, hx1, hx2, hx3, hx4⟩ := qDi HRL.out (kk : Int) h0 hltz
   subst ea
   rw [Int.toNat_natCast] at hx0 hx1 hx2 hx3 hx4
   replace hx0 := (HB.out.cell (World.block_lt_of_cell? WA _ hx0)).trans hx0
   replace hx1 := (HB.out.cell (World.block_lt_of_cell? WA _ hx1)).trans hx1
   replace hx2 := (HB.out.cell (World.block_lt_of_cell? WA _ hx2)).trans hx2
   replace hx3 := (HB.out.cell (World.block_lt_of_cell? WA _ hx3)).trans hx3
   replace hx4 := (HB.out.cell (World.block_lt_of_cell? WA _ hx4)).trans hx4
   obtain ⟨x, hx⟩ : ∃ x, x = qAT l0_3 (kk : Int) := ⟨_, rfl⟩
   rw [← hx] at hx0 hx1 hx2 hx3 hx4
   have HX : qAa (l0_3[kk]? = some x) := ⟨by rw [hx]; exact qCu l0_3 z82 kk (by have := HNE.out; omega)⟩
   clear hx
   have HS := am (HRS.out x (List.mem_of_getElem? HX.out))
   have HN1 := am (fun W => HN.out x.f3 W HS.out.1)
   have HN2 := am (fun W => HN.out x.f4 W HS.out.2)
   obtain ⟨z1, hz1⟩ : ∃ z, z = Names.nameE x.f3 := ⟨_, rfl⟩
   obtain ⟨z2, hz2⟩ : ∃ z, z = Names.nameE x.f4 := ⟨_, rfl⟩
   rw [← hz1] at HN1
   rw [← hz2] at HN2
   have HZ1 := am hz1
   have HZ2 := am hz2
   clear hz1 hz2
   go_wp2_with fail
   refine (HN1.out _).mono ?_
   rintro e w4 ⟨rfl, m1, rfl⟩
   by_cases c1 : z1 = 0
   case neg =>
    have c1' : (z1 != 0) = true := bne_iff_ne.mpr c1
    have HC1 := am c1
    clear c1
    go_wp2
    go_ret
    refine ⟨?_, qA3 HBA.out HBA.out.size (qA3 HB.out HB.out.size (qCq ((Below.refl _ _).alloc (Nat.le_refl _) _) _))⟩
    rw [← HH2.out, ← HA.out, relNames_hit1 _ _ _ HX.out (by rw [← HZ1.out]; exact HC1.out), ← HZ1.out, if_pos HC1.out]; rfl
   have c1' : (z1 != 0) = false := bne_eq_false_iff_eq.mpr c1
   have HC1 := am c1
   clear c1
   go_wp2_with fail
   refine (HN2.out _).mono ?_
   rintro e w4 ⟨rfl, m2, rfl⟩
   by_cases c2 : z2 = 0
   case neg =>
    have c2' : (z2 != 0) = true := bne_iff_ne.mpr c2
    have HC2 := am c2
    clear c2
    go_wp2
    go_ret
    refine ⟨?_, qA3 HBA.out HBA.out.size (qA3 HB.out HB.out.size (qCq ((Below.refl _ _).alloc (Nat.le_refl _) _) _))⟩
    rw [← HH2.out, ← HA.out, relNames_hit2 _ _ _ HX.out (by rw [← HZ1.out]; exact HC1.out) (by rw [← HZ2.out]; exact HC2.out), ← HZ2.out, if_pos HC2.out]; rfl
   have c2' : (z2 != 0) = false := bne_eq_false_iff_eq.mpr c2
   have HC2 := am c2
   clear c2
   go_wp2
   go_roundg (ne - (kk + 1))
   case measure => omega
   case rel => exact ⟨kk + 1, by omega, by omega, by go_num, ⟨by rw [← HA.out, relNames_step _ _ _ HX.out (by rw [← HZ1.out]; exact HC1.out) (by rw [← HZ2.out]; exact HC2.out)]⟩, ⟨qA3 HB.out HB.out.size (qCq ((Below.refl _ _).alloc (Nat.le_refl _) _) _)⟩⟩
  have hltz : ¬ (kk : Int) < (ne : Int) := by omega
  have hkn : kk = ne := by omega
  have hz := relNames_end l0_3 kk (by rw [hkn]; exact Nat.le_of_eq HNE.out.symm)
  have HH3 : qAa ((if l0_3.any (qCV a0_0 l1 l2) = true then 52 else 0) = r) := ⟨by
    rw [← HH2.out, ← HA.out, hz]; rfl⟩
  clear hz
  subst hkn
  obtain ⟨ne, rfl⟩ : ∃ ne, ne = kk := ⟨_, rfl⟩
  have f0 := (HB.out.cell (p := ⟨w.heap.size, 0, none⟩) hgA).trans HK0.out
  have f3 := (HB.out.cell (p := ⟨w.heap.size, 3, none⟩) hgA).trans HK3.out
  clear HA HH2
  go_wp2_with fail
  go_loopg [14, 15, 52] ne (fun gg _ _ s52 wr => ∃ k2 : Nat, k2 ≤ ne ∧ ne - k2 ≤ gg ∧ s52 = .int .i64 k2 ∧ qAa (∀ (j : Nat) x, j < k2 → l0_3[j]? = some x → qCV a0_0 l1 l2 x = false) ∧ qAa (Below WA.heap.size WA wr))
  case atStart => exact ⟨0, Nat.zero_le _, by omega, rfl, ⟨fun j x hj => absurd hj (Nat.not_lt_zero _)⟩, HB⟩
  case round =>
   clear f0 f3 HB hkk hg
   obtain ⟨kk, hkk, hg, rfl, HA, HB⟩ := hrel
   have f0 := (HB.out.cell (p := ⟨w.heap.size, 0, none⟩) hgA).trans HK0.out
   have hgr : w.heap.size < wr.heap.size := Nat.lt_of_lt_of_le hgA HB.out.size
   by_cases hlt : kk < ne
   rotate_left
   ·have hltz : ¬ (kk : Int) < (ne : Int) := by omega
    have hkn : kk = ne := by omega
    go_wp2
    go_ret
    refine ⟨?_, qA3 HBA.out HBA.out.size HB.out⟩
    rw [← HH3.out, qEm _ l0_3 fun j x hj => HA.out j x (by have := (List.getElem?_eq_some_iff.1 hj).1; have := HNE.out; omega) hj]; rfl
   have hltz : (kk : Int) < (ne : Int) := by omega
   have h0 : (0 : Int) ≤ (kk : Int) := by omega
   obtain ⟨ad, ea, hx0, hx1, hx2, hx3, hx4⟩ := qDi HRL.out (kk : Int) h0 hltz
   subst ea
   rw [Int.toNat_natCast] at hx0 hx1 hx2 hx3 hx4
   replace hx0 := (HB.out.cell (World.block_lt_of_cell? WA _ hx0)).trans hx0
   replace hx1 := (HB.out.cell (World.block_lt_of_cell? WA _ hx1)).trans hx1
   replace hx2 := (HB.out.cell (World.block_lt_of_cell? WA _ hx2)).trans hx2
   replace hx3 := (HB.out.cell (World.block_lt_of_cell? WA _ hx3)).trans hx3
   replace hx4 := (HB.out.cell (World.block_lt_of_cell? WA _ hx4)).trans hx4
   obtain ⟨x, hx⟩ : ∃ x, x = qAT l0_3 (kk : Int) := ⟨_, rfl⟩
   rw [← hx] at hx0 hx1 hx2 hx3 hx4
   have HX : qAa (l0_3[kk]? = some x) := ⟨by rw [hx]; exact qCu l0_3 z82 kk (by have := HNE.out; omega)⟩
   clear hx
   by_cases cO : x.f3.toList = a0_0.toList
   rotate_left
   ·have cO' : (x.f3.toList == a0_0.toList) = false := beq_eq_false_iff_ne.mpr cO
    have HO := am cO
    clear cO
    by_cases c1 : x.f2 = 1
    ·have c1' : (x.f2 == 1) = true := beq_iff_eq.mpr c1
     have HC1 := am c1
     clear c1
     go_wp2
     go_ret
     refine ⟨?_, qA3 HBA.out HBA.out.size (qA3 HB.out HB.out.size ((Below.refl _ _).alloc (Nat.le_refl _) _))⟩
     rw [← HH3.out, if_pos (qDG _ _ kk _ HX.out (by unfold qCV; rw [if_neg HO.out]; exact decide_eq_true HC1.out))]; rfl
    have c1' : (x.f2 == 1) = false := beq_eq_false_iff_ne.mpr c1
    have HC1 := am c1
    clear c1
    go_wp2
    go_roundg (ne - (kk + 1))
    case measure => omega
    case rel =>
     refine ⟨kk + 1, by omega, by omega, by go_num, ⟨fun j y hj hy => ?_⟩, ⟨qA3 HB.out HB.out.size ((Below.refl _ _).alloc (Nat.le_refl _) _)⟩⟩
     by_cases e : j = kk
     rotate_left
     ·exact HA.out j y (by omega) hy
     subst e; rw [HX.out] at hy; injection hy with hy; subst hy; exact (by unfold qCV; rw [if_neg HO.out]; exact decide_eq_false HC1.out)
   have cO' : (x.f3.toList == a0_0.toList) = true := beq_iff_eq.mpr cO
   have HO := am cO
   clear cO
   by_cases c1 : x.f2 = 1
   ·have c1' : (x.f2 == 1) = true := beq_iff_eq.mpr c1
    have c2' : (x.f2 == 2) = false := beq_eq_false_iff_ne.mpr (by omega)
    have HC1 := am c1
    clear c1
    obtain ⟨b, hb⟩ : ∃ b, b = hasB l1 x.f4 := ⟨_, rfl⟩
    have HQ := am hb
    have HV1 := am (fun W hW => HV.out x.f4 W hW)
    rw [← hb] at HV1
    clear hb
    go_wp2_with fail
    refine (HV1.out _ (qA3 HB.out HB.out.size ((Below.refl _ _).alloc (Nat.le_refl _) _))).mono ?_
    rintro e w4 ⟨rfl, m1, rfl⟩
    cases b with
    | false =>
     go_wp2
     go_ret
     refine ⟨?_, qA3 HBA.out HBA.out.size (qA3 HB.out HB.out.size (qCq ((Below.refl _ _).alloc (Nat.le_refl _) _) _))⟩
     rw [← HH3.out, if_pos (qDG _ _ kk _ HX.out (by unfold qCV; rw [if_pos HO.out, if_pos HC1.out, ← HQ.out]; rfl))]; rfl
    | true =>
     go_wp2
     go_roundg (ne - (kk + 1))
     case measure => omega
     case rel =>
      refine ⟨kk + 1, by omega, by omega, by go_num, ⟨fun j y hj hy => ?_⟩, ⟨qA3 HB.out HB.out.size (qCq ((Below.refl _ _).alloc (Nat.le_refl _) _) _)⟩⟩
      by_cases e : j = kk
      rotate_left
      ·exact HA.out j y (by omega) hy
      subst e; rw [HX.out] at hy; injection hy with hy; subst hy; exact (by unfold qCV; rw [if_pos HO.out, if_pos HC1.out, ← HQ.out]; rfl)
   have c1' : (x.f2 == 1) = false := beq_eq_false_iff_ne.mpr c1
   have HC1 := am c1
   clear c1
   by_cases c2 : x.f2 = 2
   rotate_left
   ·have c2' : (x.f2 == 2) = false := beq_eq_false_iff_ne.mpr c2
    have HC2 := am c2
    clear c2
    go_wp2
    go_roundg (ne - (kk + 1))
    case measure => omega
    case rel =>
     refine ⟨kk + 1, by omega, by omega, by go_num, ⟨fun j y hj hy => ?_⟩, ⟨qA3 HB.out HB.out.size ((Below.refl _ _).alloc (Nat.le_refl _) _)⟩⟩
     by_cases e : j = kk
     rotate_left
     ·exact HA.out j y (by omega) hy
     subst e; rw [HX.out] at hy; injection hy with hy; subst hy; exact (by unfold qCV; rw [if_pos HO.out, if_neg HC1.out, if_neg HC2.out])
   have c2' : (x.f2 == 2) = true := beq_iff_eq.mpr c2
   have HC2 := am c2
   clear c2
   obtain ⟨b, hb⟩ : ∃ b, b = hasB l2 x.f4 := ⟨_, rfl⟩
   have HQ := am hb
   have HW1 := am (fun W hW => HW.out x.f4 W hW)
   rw [← hb] at HW1
   clear hb
   go_wp2_with fail
   refine (HW1.out _ (qA3 HB.out HB.out.size ((Below.refl _ _).alloc (Nat.le_refl _) _))).mono ?_
   rintro e w4 ⟨rfl, m1, rfl⟩
   cases b with
   | false =>
    go_wp2
    go_ret
    refine ⟨?_, qA3 HBA.out HBA.out.size (qA3 HB.out HB.out.size (qCq ((Below.refl _ _).alloc (Nat.le_refl _) _) _))⟩
    rw [← HH3.out, if_pos (qDG _ _ kk _ HX.out (by unfold qCV; rw [if_pos HO.out, if_neg HC1.out, if_pos HC2.out, ← HQ.out]; rfl))]; rfl
   | true =>
    go_wp2
    go_roundg (ne - (kk + 1))
    case measure => omega
    case rel =>
     refine ⟨kk + 1, by omega, by omega, by go_num, ⟨fun j y hj hy => ?_⟩, ⟨qA3 HB.out HB.out.size (qCq ((Below.refl _ _).alloc (Nat.le_refl _) _) _)⟩⟩
     by_cases e : j = kk
     rotate_left
     ·exact HA.out j y (by omega) hy
     subst e; rw [HX.out] at hy; injection hy with hy; subst hy; exact (by unfold qCV; rw [if_pos HO.out, if_neg HC1.out, if_pos HC2.out, ← HQ.out]; rfl)
end Q
end
section
namespace Q
open Go.RowKit PA PB PC
def qB7.f (a0_0 : Int) (a0_1 : Int) : Option (Bool) := if 0 ≤ a0_1 ∧ a0_1 < 18446744073709551616 then some (Val.okV a0_0 a0_1) else none
theorem qB7.calls (a0_0 : Int) (a0_1 : Int) (r : Bool) (w : World) (h : qB7.f a0_0 a0_1 = some r) :
  Calls Try.prog 40 #[.agg #[.int .i64 a0_0, .int .u64 a0_1]] w fun e w' => e = .returned (.bool r) ∧ Below w.heap.size w w' := by
 unfold qB7.f at h
 split at h
 case isFalse => cases h
 rename_i hs
 obtain rfl := Option.some.inj h
 exact Val.right_any a0_0 a0_1 hs w
end Q
end
section
namespace Q
open Go.RowKit PA PB PC
attribute [local go_sem] qBd min2_int qBn min_two max_three min_three max_four min_four
def qBb.f (k : Nat) (a0 : ByteArray) (l1 : List ByteArray) : Option (Int) := (qBa.f a0).bind fun aA => (if aA = 0 then ((qA7.f k l1 a0).bind fun aB => (if aB = true then (some 20) else (some 0))) else (some aA))
theorem qBb.calls (k : Nat) (a0 : ByteArray) (A1 : Option Addr) (c1 : Nat) (l1 : List ByteArray) (r : Int) (w : World) (hr1 : Kd.C Kd.string w A1 l1.length l1) (hc1 : l1.length ≤ c1) (h : qBb.f k a0 l1 = some r) :
  Calls Try.prog 39 #[.string a0, .slice A1 l1.length c1] w fun e w' => e = .returned (.int .i64 r) ∧ qAD w w' := by
 have aG := am hr1
 have aF := am hc1
 clear hr1 hc1
 have H : ((qBa.f a0).bind fun aA => (if aA = 0 then ((qA7.f k l1 a0).bind fun aB => (if aB = true then (some 20) else (some 0))) else (some aA))) = some r := h
 clear h
 replace H := bm H
 obtain ⟨aA, aD, H⟩ := H
 replace H : (if aA = 0 then ((qA7.f k l1 a0).bind fun aB => (if aB = true then (some 20) else (some 0))) else (some aA)) = some r := H
 have A3 := am aD
 clear aD
 by_cases c4 : aA = 0
 ·rw [if_pos c4] at H
  have aC : (aA != 0) = false := bn c4
  clear c4
  replace H := bm H
  obtain ⟨aB, aE, H⟩ := H
  replace H : (if aB = true then (some 20) else (some 0)) = some r := H
  have A5 := am aE
  clear aE
  by_cases c6 : aB = true
  ·subst c6
   replace H : (some 20) = some r := by rw [if_pos rfl] at H; exact H
   obtain rfl := Option.some.inj H
   go_enter Try.func39, Try.ntmps39
   go_wp2_with (first | ((with_reducible refine qAp (f := 38) rfl ?_); refine gL 7 Try.func38 #[.string a0] ?_; (with_reducible refine (qBa.calls a0 aA _ A3.o).mono ?_); rintro e w' ⟨rfl, ⟨nd, rfl⟩⟩; refine ⟨_, rfl, ?_⟩) | ((with_reducible refine qAp (f := 83) rfl ?_); refine gL 13 Try.func83 #[.slice A1 l1.length c1, .string a0] ?_; (with_reducible refine (qA7.calls k _ _ l1 a0 true _ ?side1 ?side2 A5.o).mono ?_); (case side1 => exact aG.o); (case side2 => exact aF.o); rintro e w' ⟨rfl, ⟨nd, rfl⟩⟩; refine ⟨_, rfl, ?_⟩))
   go_ret
   exact ⟨by rfl, by repeat (first | exact qAD.refl _ | apply qAD.step)⟩
  ·replace c6 := Bool.eq_false_iff.mpr c6
   subst c6
   replace H : (some 0) = some r := by rw [if_neg (show ¬ (false = true) by decide)] at H; exact H
   obtain rfl := Option.some.inj H
   go_enter Try.func39, Try.ntmps39
   go_wp2_with (first | ((with_reducible refine qAp (f := 38) rfl ?_); refine gL 7 Try.func38 #[.string a0] ?_; (with_reducible refine (qBa.calls a0 aA _ A3.o).mono ?_); rintro e w' ⟨rfl, ⟨nd, rfl⟩⟩; refine ⟨_, rfl, ?_⟩) | ((with_reducible refine qAp (f := 83) rfl ?_); refine gL 13 Try.func83 #[.slice A1 l1.length c1, .string a0] ?_; (with_reducible refine (qA7.calls k _ _ l1 a0 false _ ?side1 ?side2 A5.o).mono ?_); (case side1 => exact aG.o); (case side2 => exact aF.o); rintro e w' ⟨rfl, ⟨nd, rfl⟩⟩; refine ⟨_, rfl, ?_⟩))
   go_ret
   exact ⟨by rfl, by repeat (first | exact qAD.refl _ | apply qAD.step)⟩
 ·rw [if_neg c4] at H
  have aC : (aA != 0) = true := bne_iff_ne.mpr c4
  obtain rfl := Option.some.inj H
  go_enter Try.func39, Try.ntmps39
  go_wp2_with ((with_reducible refine qAp (f := 38) rfl ?_); refine gL 7 Try.func38 #[.string a0] ?_; (with_reducible refine (qBa.calls a0 aA _ A3.o).mono ?_); rintro e w' ⟨rfl, ⟨nd, rfl⟩⟩; refine ⟨_, rfl, ?_⟩)
  go_ret
  exact ⟨by rfl, by repeat (first | exact qAD.refl _ | apply qAD.step)⟩
mutual
def qAn.l0 : Nat → List ByteArray → List (S71) → Int → Int → ByteArray → List (S71) → List (S80) → List (S82) → Option (Int)
 | 0, _, _, _, _, _, _, _, _ => none
 | k + 1, x4, cB, eY, bh, al, a4, ah, an => if bh < eY then (if 0 ≤ bh then (if bh < (cB.length : Int) then ((qBb.f k ((qAC cB bh).f0) x4).bind fun bA => (if bA = 0 then ((qB7.f ((qAC cB bh).f1.f0) ((qAC cB bh).f1.f1)).bind fun bR => (if bR = true then (if x4.length < 8796093022208 then (qAn.l0 k (x4 ++ [(qAC cB bh).f0]) cB eY (wrap64 (bh + 1)) al a4 ah an) else (none)) else (some 52))) else (some bA))) else (none)) else (none)) else (qAn.l1 k x4 ah (ah.length : Int) 0 al a4 ah an)
def qAn.l1 : Nat → List ByteArray → List (S80) → Int → Int → ByteArray → List (S71) → List (S80) → List (S82) → Option (Int)
 | 0, _, _, _, _, _, _, _, _ => none
 | k + 1, x4, bi, eZ, b2, al, a4, ah, an => if b2 < eZ then (if 0 ≤ b2 then (if b2 < (bi.length : Int) then ((qBb.f k ((qAl bi b2).f0) x4).bind fun bB => (if bB = 0 then ((qBq.f ((qAl bi b2).f1.f0.f0) ((qAl bi b2).f1.f0.f1) ((qAl bi b2).f1.f1) ((qAl bi b2).f1.f2)).bind fun bS => (if bS = true then (if x4.length < 8796093022208 then (qAn.l1 k (x4 ++ [(qAl bi b2).f0]) bi eZ (wrap64 (b2 + 1)) al a4 ah an) else (none)) else (some 52))) else (some bB))) else (none)) else (none)) else (if 0 ≤ (a4.length : Int) then (if (a4.length : Int) ≤ (x4.length : Int) then ((qBu.f al a4 ah an (x4.take ((a4.length : Int) : Int).toNat) (x4.drop ((a4.length : Int) : Int).toNat)).bind fun bK => (some bK)) else (none)) else (none))
end
def qAn.f (k : Nat) (a0_0 : ByteArray) (l0_1 : List (S71)) (l0_2 : List (S80)) (l0_3 : List (S82)) : Option (Int) := (qBa.f a0_0).bind fun ak => (if ak = 0 then (if (wrap64 ((l0_1.length : Int) + (l0_2.length : Int))) > 64 then (some 3) else (qAn.l0 k ([] : List ByteArray) l0_1 (l0_1.length : Int) 0 a0_0 l0_1 l0_2 l0_3)) else (some ak))
def qAn.T27 : Bool × List (List Nat × List Nat) := (true, [([], []), ([], []), ([], []), ([2], [2]), ([3], [3]), ([1, 4], [1, 4]), ([], []), ([], []), ([7], [7]), ([8], [8]), ([6, 9], [6, 9]), ([0, 5, 10], [0, 5, 10]), ([11, 11, 0, 1, 2, 3, 4, 5, 6, 7, 8, 9, 10, 11], [11])])
def qAn.B27 : List Nat := [0, 0, 0, 4, 12, 30, 0, 0, 128, 384, 960, 2047, 4095]
theorem qAn.tab27 : rtab .any (opsOf Try.f11 27) = qAn.T27 := by kernel_rfl
theorem qAn.bits27 : qBQ qAn.T27.2 qAn.B27 = true := by kernel_rfl
theorem qAn.calls (k : Nat) (a0_0 : ByteArray) (au : Option Addr) (ap : Nat) (l0_1 : List (S71)) (av : Option Addr) (aq : Nat) (l0_2 : List (S80)) (ao : Option Addr) (ar : Nat) (l0_3 : List (S82)) (r : Int) (w : World) (hr0_1 : Kd.C k71 w au l0_1.length l0_1) (hc0_1 : l0_1.length ≤ ap) (hr0_2 : Kd.C k80 w av l0_2.length l0_2) (hc0_2 : l0_2.length ≤ aq) (hr0_3 : Kd.C k82 w ao l0_3.length l0_3) (hc0_3 : l0_3.length ≤ ar) (h : qAn.f k a0_0 l0_1 l0_2 l0_3 = some r) :
  Calls Try.prog 11 #[.agg #[.string a0_0, .slice au l0_1.length ap, .slice av l0_2.length aq, .slice ao l0_3.length ar]] w fun e w' => e = .returned (.int .i64 r) ∧ Below w.heap.size w w' := by
 have bN := am hr0_1
 have cJ := am hc0_1
 clear hr0_1 hc0_1
 have bO := am hr0_2
 have cK := am hc0_2
 clear hr0_2 hc0_2
 have cQ := am hr0_3
 have cL := am hc0_3
 clear hr0_3 hc0_3
 have HB := am (Below.refl w.heap.size w)
 have H : ((qBa.f a0_0).bind fun ak => (if ak = 0 then (if (wrap64 ((l0_1.length : Int) + (l0_2.length : Int))) > 64 then (some 3) else (qAn.l0 k ([] : List ByteArray) l0_1 (l0_1.length : Int) 0 a0_0 l0_1 l0_2 l0_3)) else (some ak))) = some r := h
 clear h
 replace H := bm H
 obtain ⟨ak, eM, H⟩ := H
 replace H : (if ak = 0 then (if (wrap64 ((l0_1.length : Int) + (l0_2.length : Int))) > 64 then (some 3) else (qAn.l0 k ([] : List ByteArray) l0_1 (l0_1.length : Int) 0 a0_0 l0_1 l0_2 l0_3)) else (some ak)) = some r := H
 have A2 := am eM
 clear eM
 by_cases c3 : ak = 0
 ·rw [if_pos c3] at H
  have dx : (ak == 0) = true := beq_iff_eq.mpr c3
  have c0 : (ak != 0) = false := bn c3
  clear c3
  by_cases c4 : (wrap64 ((l0_1.length : Int) + (l0_2.length : Int))) > 64
  ·rw [if_pos c4] at H
   replace c4 := d1 c4
   obtain rfl := Option.some.inj H
   go_enter Try.func11, Try.ntmps11
   go_wp2_with (first | ((with_reducible refine qAJ (N := 1) rfl ?_); refine bx 1 #[.string a0_0, .slice au l0_1.length ap, .slice av l0_2.length aq, .slice ao l0_3.length ar] 27 ?_; intro aZ hg w5 hbox hb; have n_ := a2 (qAj HB.o hb) (am (hbox)); clear HB; obtain ⟨HB, aD⟩ := n_; clear hb hbox hg; obtain ⟨eG, eH, eI⟩ := c3_ w5 aD.o; have eJ := qAr aD.o 3) | ((with_reducible refine qAp (f := 38) rfl ?_); refine gL 13 Try.func38 #[.string a0_0] ?_; (with_reducible refine (qBa.calls a0_0 ak _ A2.o).mono ?_); rintro e w' ⟨rfl, ⟨nd, rfl⟩⟩; refine ⟨_, rfl, ?_⟩))
   go_ret
   exact ⟨by rfl, by repeat (with_reducible first | exact HB.o | apply qA4)⟩
  ·rw [if_neg c4] at H
   replace c4 := d0 c4
   have H' := am H
   clear H
   go_enter Try.func11, Try.ntmps11
   go_wp2_with (first | ((with_reducible refine qAJ (N := 1) rfl ?_); refine bx 1 #[.string a0_0, .slice au l0_1.length ap, .slice av l0_2.length aq, .slice ao l0_3.length ar] 27 ?_; intro aZ hg w7 hbox hb; have n_ := a2 (qAj HB.o hb) (am (hbox)); clear HB; obtain ⟨HB, aD⟩ := n_; clear hb hbox hg; obtain ⟨bl, bo, bp, bq⟩ := c4_ w7 aD.o; obtain ⟨br, bs, bu, bw⟩ := z4_ aD.o) | ((with_reducible refine qAp (f := 38) rfl ?_); refine gL 13 Try.func38 #[.string a0_0] ?_; (with_reducible refine (qBa.calls a0_0 ak _ A2.o).mono ?_); rintro e w' ⟨rfl, ⟨nd, rfl⟩⟩; refine ⟨_, rfl, ?_⟩))
   go_loopg [4, 28] k (fun kq v4 e5 w' => ∃ (a6 : List ByteArray) (aC : Int), e5 = .int .i64 aC ∧ qAa (qAn.l0 kq a6 l0_1 (l0_1.length : Int) aC a0_0 l0_1 l0_2 l0_3 = some r) ∧ qAa (kq ≤ k) ∧ qAa (Kd.R Kd.string 9 w' w.heap.size (fun _ => True) v4 a6) ∧ qAa (w'.heap[aZ]? = some (.cells #[.string a0_0, (.slice au l0_1.length ap), (.slice av l0_2.length aq), (.slice ao l0_3.length ar)] 27 (0, 0))) ∧ qAa (Below w.heap.size w w'))
   case atStart => exact ⟨([] : List ByteArray), (0), (by rfl), H', ⟨Nat.le_refl _⟩, ⟨by (exact Kd.R_nil _ _ _ _ _)⟩, ⟨by (with_reducible repeat (refine qBK ?_ _)); exact aD.o⟩, ⟨by repeat (with_reducible first | exact HB.o | apply qA4)⟩⟩
   case round =>
    clear H'
    obtain ⟨a6, aC, rfl, HA, cl, aE, aD, HB⟩ := hrel
    cases gk with
    | zero => exact absurd HA.o (by simp [qAn.l0])
    | succ k1 =>
     have H := HA.o
     clear HA
     simp only [qAn.l0] at H
     by_cases c9 : aC < (l0_1.length : Int)
     ·rw [if_pos c9] at H
      replace c9 := d1 c9
      obtain ⟨c10, H⟩ := gd H
      replace c10 := d1 c10
      obtain ⟨cm, H⟩ := gd H
      replace cm := d1 cm
      replace H := bm H
      obtain ⟨bA, cC, H⟩ := H
      replace H : (if bA = 0 then ((qB7.f ((qAC l0_1 aC).f1.f0) ((qAC l0_1 aC).f1.f1)).bind fun bR => (if bR = true then (if a6.length < 8796093022208 then (qAn.l0 k1 (a6 ++ [(qAC l0_1 aC).f0]) l0_1 (l0_1.length : Int) (wrap64 (aC + 1)) a0_0 l0_1 l0_2 l0_3) else (none)) else (some 52))) else (some bA)) = some r := H
      have dq := am cC
      clear cC
      by_cases cV : bA = 0
      rotate_left
      ·rw [if_neg cV] at H
       have cW : (bA != 0) = true := bne_iff_ne.mpr cV
       obtain rfl := Option.some.inj H
       have aw : 0 ≤ aC := od (by assumption)
       have ay : aC < (l0_1.length : Int) := od (by assumption)
       obtain ⟨bP, bW, aM, aN, aQ⟩ := qDx bN.o aC aw ay
       cases bW
       replace aM := (HB.o.cell (World.block_lt_of_cell? w _ aM)).trans aM
       replace aN := (HB.o.cell (World.block_lt_of_cell? w _ aN)).trans aN
       replace aQ := (HB.o.cell (World.block_lt_of_cell? w _ aQ)).trans aQ
       replace aw := eq_true aw
       replace ay := eq_true ay
       go_wp2_with (first | ((with_reducible refine qAJ (N := 6) rfl ?_); refine bx 6 #[.string ⟨#[]⟩, .int .i64 0, .int .u64 0] 71 ?_; intro aI hg ea hbox hb; have n_ := a2 (Kd.R_below aE.o hb) (a2 (qAj HB.o hb) (a2 (hbox) (am (by rw [hg]; exact (qAe HB.o) : w.heap.size ≤ aI)))); clear aE aD HB; obtain ⟨aE, HB, aJ, bJ⟩ := n_; clear hb hbox hg; obtain ⟨dC, dD, dE⟩ := c3_ ea aJ.o; obtain ⟨d5, d6, d7⟩ := z3_ aJ.o; obtain ⟨du, cf, eA⟩ := Kd.R_slice aE.o; subst eA) | ((with_reducible refine qAp (f := 39) rfl ?_); refine gL 35 Try.func39 #[.string ((qAC l0_1 aC).f0), .slice du a6.length cf] ?_; (with_reducible refine (qBb.calls k1 ((qAC l0_1 aC).f0) _ _ a6 bA _ ?side1 ?side2 dq.o).mono ?_); (case side1 => refine (Kd.R_reads' (e := 9) (base := w.heap.size) (ok := fun k_ => True) (n := a6.length) (c := cf) ?_).2.2; exact (by exact (Kd.R_mono (Kd.R_far (p := ⟨aI, 2, none⟩) (Kd.R_far (p := ⟨aI, 1, none⟩) (Kd.R_far (p := ⟨aI, 0, none⟩) (Kd.R_types aE.o aJ.o (by decide)) (fun _ hk => hk.2) (.string ((qAC l0_1 aC).f0))) (fun _ hk => hk.2) (.int .i64 ((qAC l0_1 aC).f1.f0))) (fun _ hk => hk.2) (.int .u64 ((qAC l0_1 aC).f1.f1))) (fun _ h_ => h_.1)))); (case side2 => exact (Kd.R_reads' aE.o).2.1); rintro e w' ⟨rfl, ⟨nd, rfl⟩⟩; refine ⟨_, rfl, ?_⟩))
       go_ret
       exact ⟨by rfl, by repeat (with_reducible first | exact HB.o | apply qA4 | refine qAq ?_ bJ.o)⟩
      rw [if_pos cV] at H
      have cW : (bA != 0) = false := bn cV
      clear cV
      replace H := bm H
      obtain ⟨bR, cD, H⟩ := H
      replace H : (if bR = true then (if a6.length < 8796093022208 then (qAn.l0 k1 (a6 ++ [(qAC l0_1 aC).f0]) l0_1 (l0_1.length : Int) (wrap64 (aC + 1)) a0_0 l0_1 l0_2 l0_3) else (none)) else (some 52)) = some r := H
      have eL := am cD
      clear cD
      by_cases cn : bR = true
      rotate_left
      ·replace cn := Bool.eq_false_iff.mpr cn
       subst cn
       replace H : (some 52) = some r := by rw [if_neg (show ¬ (false = true) by decide)] at H; exact H
       obtain rfl := Option.some.inj H
       have aw : 0 ≤ aC := od (by assumption)
       have ay : aC < (l0_1.length : Int) := od (by assumption)
       obtain ⟨bP, bW, aM, aN, aQ⟩ := qDx bN.o aC aw ay
       cases bW
       replace aM := (HB.o.cell (World.block_lt_of_cell? w _ aM)).trans aM
       replace aN := (HB.o.cell (World.block_lt_of_cell? w _ aN)).trans aN
       replace aQ := (HB.o.cell (World.block_lt_of_cell? w _ aQ)).trans aQ
       replace aw := eq_true aw
       replace ay := eq_true ay
       go_wp2_with (first | ((with_reducible refine qAJ (N := 6) rfl ?_); refine bx 6 #[.string ⟨#[]⟩, .int .i64 0, .int .u64 0] 71 ?_; intro aI hg e9 hbox hb; have n_ := a2 (Kd.R_below aE.o hb) (a2 (qAd aD.o hb) (a2 (qAj HB.o hb) (a2 (hbox) (a2 (by rw [hg]; exact (qAe HB.o) : w.heap.size ≤ aI) (am (by rw [hg]; exact Nat.ne_of_lt (qAw aD.o) : aZ ≠ aI)))))); clear aE aD HB; obtain ⟨aE, aD, HB, aJ, bJ, aj⟩ := n_; clear hb hbox hg; obtain ⟨cz, dA, dB⟩ := c3_ e9 aJ.o; obtain ⟨d2, d3, d4⟩ := z3_ aJ.o; obtain ⟨dt, ce, dz⟩ := Kd.R_slice aE.o; subst dz) | ((with_reducible refine qAp (f := 39) rfl ?_); refine gL 35 Try.func39 #[.string ((qAC l0_1 aC).f0), .slice dt a6.length ce] ?_; (with_reducible refine (qBb.calls k1 ((qAC l0_1 aC).f0) _ _ a6 bA _ ?side1 ?side2 dq.o).mono ?_); (case side1 => refine (Kd.R_reads' (e := 9) (base := w.heap.size) (ok := fun k_ => True) (n := a6.length) (c := ce) ?_).2.2; exact (by exact (Kd.R_mono (Kd.R_far (p := ⟨aI, 2, none⟩) (Kd.R_far (p := ⟨aI, 1, none⟩) (Kd.R_far (p := ⟨aI, 0, none⟩) (Kd.R_types aE.o aJ.o (by decide)) (fun _ hk => hk.2) (.string ((qAC l0_1 aC).f0))) (fun _ hk => hk.2) (.int .i64 ((qAC l0_1 aC).f1.f0))) (fun _ hk => hk.2) (.int .u64 ((qAC l0_1 aC).f1.f1))) (fun _ h_ => h_.1)))); (case side2 => exact (Kd.R_reads' aE.o).2.1); rintro e w' ⟨rfl, ⟨nd, rfl⟩⟩; refine ⟨_, rfl, ?_⟩) | ((with_reducible refine qAp (f := 40) rfl ?_); refine gL 41 Try.func40 #[.agg #[.int .i64 ((qAC l0_1 aC).f1.f0), .int .u64 ((qAC l0_1 aC).f1.f1)]] ?_; (with_reducible refine (qB7.calls ((qAC l0_1 aC).f1.f0) ((qAC l0_1 aC).f1.f1) false _ eL.o).mono ?_); rintro e eh ⟨rfl, hb⟩; refine ⟨_, rfl, ?_⟩; have n_ := am (qAj (by repeat (with_reducible first | exact HB.o | apply qA4 | refine qAq ?_ bJ.o)) hb); clear aE aD aJ HB; have HB := n_; clear n_; (skip)))
       go_ret
       exact ⟨by rfl, by exact HB.o⟩
      subst cn
      replace H : (if a6.length < 8796093022208 then (qAn.l0 k1 (a6 ++ [(qAC l0_1 aC).f0]) l0_1 (l0_1.length : Int) (wrap64 (aC + 1)) a0_0 l0_1 l0_2 l0_3) else (none)) = some r := by rw [if_pos rfl] at H; exact H
      obtain ⟨co, H⟩ := gd H
      have cR := am co
      clear co
      obtain ⟨cj, bY⟩ : ∃ y_ : List ByteArray, y_ = (a6 ++ [(qAC l0_1 aC).f0]) := ⟨_, rfl⟩
      replace H : (qAn.l0 k1 cj l0_1 (l0_1.length : Int) (wrap64 (aC + 1)) a0_0 l0_1 l0_2 l0_3) = some r := by (rw [bY]; with_reducible exact H)
      have cT := am bY
      clear bY
      have H' := am H
      clear H
      have aw : 0 ≤ aC := od (by assumption)
      have ay : aC < (l0_1.length : Int) := od (by assumption)
      obtain ⟨bP, bW, aM, aN, aQ⟩ := qDx bN.o aC aw ay
      cases bW
      replace aM := (HB.o.cell (World.block_lt_of_cell? w _ aM)).trans aM
      replace aN := (HB.o.cell (World.block_lt_of_cell? w _ aN)).trans aN
      replace aQ := (HB.o.cell (World.block_lt_of_cell? w _ aQ)).trans aQ
      replace aw := eq_true aw
      replace ay := eq_true ay
      go_wp2_with (first | ((with_reducible refine qAJ (N := 6) rfl ?_); refine bx 6 #[.string ⟨#[]⟩, .int .i64 0, .int .u64 0] 71 ?_; intro aI hg e7 hbox hb; have n_ := a2 (Kd.R_below aE.o hb) (a2 (qAd aD.o hb) (a2 (qAj HB.o hb) (a2 (hbox) (a2 (by rw [hg]; exact (qAe HB.o) : w.heap.size ≤ aI) (am (by rw [hg]; exact Nat.ne_of_lt (qAw aD.o) : aZ ≠ aI)))))); clear aE aD HB; obtain ⟨aE, aD, HB, aJ, bJ, aj⟩ := n_; clear hb hbox hg; obtain ⟨cv, cw, cx⟩ := c3_ e7 aJ.o; obtain ⟨dW, dX, dY⟩ := z3_ aJ.o; obtain ⟨cH, bj, dy⟩ := Kd.R_slice aE.o; subst dy) | ((with_reducible refine qAp (f := 39) rfl ?_); refine gL 35 Try.func39 #[.string ((qAC l0_1 aC).f0), .slice cH a6.length bj] ?_; (with_reducible refine (qBb.calls k1 ((qAC l0_1 aC).f0) _ _ a6 bA _ ?side1 ?side2 dq.o).mono ?_); (case side1 => refine (Kd.R_reads' (e := 9) (base := w.heap.size) (ok := fun k_ => True) (n := a6.length) (c := bj) ?_).2.2; exact (by exact (Kd.R_mono (Kd.R_far (p := ⟨aI, 2, none⟩) (Kd.R_far (p := ⟨aI, 1, none⟩) (Kd.R_far (p := ⟨aI, 0, none⟩) (Kd.R_types aE.o aJ.o (by decide)) (fun _ hk => hk.2) (.string ((qAC l0_1 aC).f0))) (fun _ hk => hk.2) (.int .i64 ((qAC l0_1 aC).f1.f0))) (fun _ hk => hk.2) (.int .u64 ((qAC l0_1 aC).f1.f1))) (fun _ h_ => h_.1)))); (case side2 => exact (Kd.R_reads' aE.o).2.1); rintro e w' ⟨rfl, ⟨nd, rfl⟩⟩; refine ⟨_, rfl, ?_⟩) | ((with_reducible refine qAp (f := 40) rfl ?_); refine gL 41 Try.func40 #[.agg #[.int .i64 ((qAC l0_1 aC).f1.f0), .int .u64 ((qAC l0_1 aC).f1.f1)]] ?_; (with_reducible refine (qB7.calls ((qAC l0_1 aC).f1.f0) ((qAC l0_1 aC).f1.f1) true _ eL.o).mono ?_); rintro e e8 ⟨rfl, hb⟩; refine ⟨_, rfl, ?_⟩; have n_ := a2 (Kd.R_below (by (with_reducible repeat (apply Kd.R_drewN)); exact (Kd.R_mono (Kd.R_far (p := ⟨aI, 2, none⟩) (Kd.R_far (p := ⟨aI, 1, none⟩) (Kd.R_far (p := ⟨aI, 0, none⟩) (Kd.R_types aE.o aJ.o (by decide)) (fun _ hk => hk.2) (.string ((qAC l0_1 aC).f0))) (fun _ hk => hk.2) (.int .i64 ((qAC l0_1 aC).f1.f0))) (fun _ hk => hk.2) (.int .u64 ((qAC l0_1 aC).f1.f1))) (fun _ h_ => h_.1))) hb) (a2 (qAd (g := aZ) (o := .cells #[.string a0_0, .slice (some bP) l0_1.length ap, .slice av l0_2.length aq, .slice ao l0_3.length ar] 27 (0, 0)) (by (with_reducible repeat (refine qBK ?_ _)); refine qAg ?_ aj.o _; refine qAg ?_ aj.o _; refine qAg ?_ aj.o _; exact aD.o) hb) (a2 (qAd (g := aI) (o := .cells #[.string ((qAC l0_1 aC).f0), .int .i64 ((qAC l0_1 aC).f1.f0), .int .u64 ((qAC l0_1 aC).f1.f1)] 71 (0, 0)) (by (with_reducible repeat (refine qBK ?_ _)); refine qAo (cs := #[.string ((qAC l0_1 aC).f0), .int .i64 ((qAC l0_1 aC).f1.f0), .int .u64 0]) ?_ 2 _ rfl; refine qAo (cs := #[.string ((qAC l0_1 aC).f0), .int .i64 0, .int .u64 0]) ?_ 1 _ rfl; refine qAo (cs := #[.string ⟨#[]⟩, .int .i64 0, .int .u64 0]) ?_ 0 _ rfl; exact aJ.o) hb) (am (qAj (by repeat (with_reducible first | exact HB.o | apply qA4 | refine qAq ?_ bJ.o)) hb)))); clear aE aD aJ HB; obtain ⟨aE, aD, aJ, HB⟩ := n_; have cy := c1_ e8 aJ.o; have dZ := qAr aJ.o 2) | ((with_reducible refine qBG (b := .append) (xs := #[.tmp 43, .tmp 46]) rfl ?_); at_builtin; refine Kd.R_append Kd.string (w0 := w) w.heap.size rfl (.tmp 43) (.tmp 46) 104 9 (.string ⟨#[]⟩) 16 rfl Try.underlying104 info9 rfl (by decide) (by omega) (.slice cH a6.length bj) a6 ((qAC l0_1 aC).f0) [.string ((qAC l0_1 aC).f0)] (fun _ => True) (fun _ => False) rfl rfl ?aP (fun _ hk => hk.elim) ?aF ?aO ?aB ?aS ?aL ?_; (case aP => exact rfl); (case aB => exact HB.o); (case aF => exact (fun _ _ => trivial)); (case aO => exact aE.o); (case aS => exact (qAe HB.o)); (case aL => have := cR.o; omega); intro e3 eg ho hb hg eF; rw [← cT.o] at ho; have n_ := a2 (qAH (g := aZ) (o := .cells #[.string a0_0, .slice (some bP) l0_1.length ap, .slice av l0_2.length aq, .slice ao l0_3.length ar] 27 (0, 0)) aD.o hg (Kd.R_ne aE.o aD.o (by decide))) (a2 (hb) (am (ho))); clear aD aJ HB aE; obtain ⟨aD, HB, cO⟩ := n_; clear ho hb hg eF))
      go_roundg k1
      case measure => have := cl.o; omega
      case rel => exact ⟨(cj), (wrap64 (aC + 1)), (by rfl), H', ⟨by have := cl.o; omega⟩, ⟨by exact cO.o⟩, ⟨by exact aD.o⟩, ⟨by exact HB.o⟩⟩
     rw [if_neg c9] at H
     replace c9 := d0 c9
     have H' := am H
     clear H
     obtain ⟨b3, b4, b5, b6⟩ := c4_ wr aD.o
     obtain ⟨b7, b8, b9, ba⟩ := z4_ aD.o
     go_wp2
     go_loopg [4, 52] k1 (fun kq v4 e6 w' => ∃ (aH : List ByteArray) (aA : Int), e6 = .int .i64 aA ∧ qAa (qAn.l1 kq aH l0_2 (l0_2.length : Int) aA a0_0 l0_1 l0_2 l0_3 = some r) ∧ qAa (kq ≤ k1) ∧ qAa (Kd.R Kd.string 9 w' w.heap.size (fun _ => True) v4 aH) ∧ qAa (w'.heap[aZ]? = some (.cells #[.string a0_0, (.slice au l0_1.length ap), (.slice av l0_2.length aq), (.slice ao l0_3.length ar)] 27 (0, 0))) ∧ qAa (Below w.heap.size w w'))
     case atStart => exact ⟨(a6), (0), (by rfl), H', ⟨Nat.le_refl _⟩, ⟨by exact aE.o⟩, ⟨by exact aD.o⟩, ⟨by exact HB.o⟩⟩
     case round =>
      clear H'
      obtain ⟨aH, aA, rfl, HA, eP, aE, aD, HB⟩ := hrel
      cases gk with
      | zero => exact absurd HA.o (by simp [qAn.l1])
      | succ k2 =>
       have H := HA.o
       clear HA
       simp only [qAn.l1] at H
       by_cases cA : aA < (l0_2.length : Int)
       rotate_left
       ·rw [if_neg cA] at H
        replace cA := d0 cA
        obtain ⟨cc, H⟩ := gd H
        have eU := eq_true cc
        replace cc := d1 cc
        obtain ⟨cu, H⟩ := gd H
        replace cu := d1 cu
        obtain ⟨bT, bZ⟩ : ∃ y_ : List ByteArray, y_ = (aH.take ((l0_1.length : Int) : Int).toNat) := ⟨_, rfl⟩
        replace H : ((qBu.f a0_0 l0_1 l0_2 l0_3 bT (aH.drop ((l0_1.length : Int) : Int).toNat)).bind fun bK => (some bK)) = some r := by (rw [bZ]; with_reducible exact H)
        have bb := am bZ
        clear bZ
        obtain ⟨bL, b0⟩ : ∃ y_ : List ByteArray, y_ = (aH.drop ((l0_1.length : Int) : Int).toNat) := ⟨_, rfl⟩
        replace H : ((qBu.f a0_0 l0_1 l0_2 l0_3 bT bL).bind fun bK => (some bK)) = some r := by (rw [b0]; with_reducible exact H)
        have bc := am b0
        clear b0
        replace H := bm H
        obtain ⟨bK, cG, H⟩ := H
        replace H : (some bK) = some r := H
        have e0 := am cG
        clear cG
        obtain rfl := Option.some.inj H
        try go_wp2
        have n_ := a2 (Kd.R_drew aE.o) (a2 (qAU aD.o) (am (qBi HB.o)))
        clear aE aD HB
        obtain ⟨aE, aD, HB⟩ := n_
        obtain ⟨bM, bI, eE⟩ := Kd.R_slice aE.o
        (subst eE)
        have e1 : ((l0_1.length : Int) : Int) ≤ ((aH.length : Int) : Int) := od (by assumption)
        obtain ⟨i064, bd, _, hsz64, _⟩ := info_parts info9
        have hroom64 : aH.length ≤ bI := (Kd.R_reads' aE.o).2.1
        have hC64 : Kd.C Kd.string _ bM aH.length aH := (Kd.R_reads' aE.o).2.2
        have hcut64 := cut_to (P := Try.prog) 104 9 .i64 Try.underlying104 bd bM aH.length bI (l0_1.length : Int) (od (by assumption)) e1 hroom64
        have hr64 := Kd.C_take (m := ((l0_1.length : Int) : Int).toNat) hC64 (by omega)
        have ci : bT.length = ((l0_1.length : Int) : Int).toNat := (by rw [bb.o, List.length_take]; omega)
        rw [← bb.o] at hr64
        rw [← ci] at hcut64
        have bU := am hr64
        have cM := am (show bT.length ≤ bI from by omega)
        clear hr64 hC64 hroom64 bd hsz64 ci
        have e2 : ((l0_1.length : Int) : Int) ≤ ((aH.length : Int) : Int) := od (by assumption)
        obtain ⟨i066, bg, _, hsz66, _⟩ := info_parts info9
        have hroom66 : aH.length ≤ bI := (Kd.R_reads' aE.o).2.1
        have hC66 : Kd.C Kd.string _ bM aH.length aH := (Kd.R_reads' aE.o).2.2
        have eK : (0 : Int) ≤ ((l0_1.length : Int) : Int) := od (by assumption)
        have hcut66 := cut_from (P := Try.prog) 104 9 .i64 Try.underlying104 bg 1 hsz66 bM aH.length bI (l0_1.length : Int) eK e2
        have hr66 := Kd.C_drop (m := ((l0_1.length : Int) : Int).toNat) (c := bI) hC66 (by omega) hroom66
        obtain ⟨eO, hA66⟩ : ∃ A1, A1 = (if bI = ((l0_1.length : Int) : Int).toNat then bM else (bM : Option Addr).map (·.add (((l0_1.length : Int) : Int).toNat * 1))) := ⟨_, rfl⟩
        obtain ⟨eX, hc66⟩ : ∃ c1, c1 = bI - ((l0_1.length : Int) : Int).toNat := ⟨_, rfl⟩
        have bz : bL.length = aH.length - ((l0_1.length : Int) : Int).toNat := (by rw [bc.o, List.length_drop] <;> omega)
        rw [show (aH).drop ((l0_1.length : Int) : Int).toNat = bL from bc.o.symm] at hr66
        replace hr66 : Kd.C Kd.string _ eO bL.length bL := (by rw [hA66]; exact hr66)
        rw [← bz, ← hA66, ← hc66] at hcut66
        have bV := am hr66
        have cN := am (show bL.length ≤ eX from by rw [bz, hc66]; exact Nat.sub_le_sub_right hroom66 _)
        clear hr66 hC66 hroom66 bg hsz66 hc66 bz hA66
        refine qCY (n := 13) (S := fun w' => w'.cell? ⟨aZ, 0, none⟩ = some (.string a0_0) ∧ w'.cell? ⟨aZ, 1, none⟩ = some (.slice au l0_1.length ap) ∧ w'.cell? ⟨aZ, 2, none⟩ = some (.slice av l0_2.length aq) ∧ w'.cell? ⟨aZ, 3, none⟩ = some (.slice ao l0_3.length ar)) (ds := []) (mK 13 0) (by kernel_rfl) rfl rfl (c4_ _ aD.o) (fun hHeld => ?_); refine qB8 qAn.tab27 qAn.bits27 (fun HT_ HW_ => ?_)
        generalize wr.drew = ek at aE aD HB bU bV hHeld ⊢
        refine pu 1 74 (mK 13 2) (qA8 HT_.o (by kernel_rfl)) ?_
        refine pu 2 75 (mK 13 6) (qA8 HT_.o (by kernel_rfl)) ?_
        refine pu 6 79 (mK 13 70) (qA8 HT_.o (by kernel_rfl)) ?_
        refine pu 7 80 (mK 13 198) (qA8 HT_.o (by kernel_rfl)) ?_
        refine tk 0 73 (mK 13 199) (qAQ HT_.o HW_.o (by kernel_rfl)) hHeld ?_
        refine tk 3 76 (mK 13 207) (qAQ HT_.o HW_.o (by kernel_rfl)) hHeld ?_
        refine pu 4 77 (mK 13 223) (qA8 HT_.o (by kernel_rfl)) ?_
        refine pu 5 78 (mK 13 255) (qA8 HT_.o (by kernel_rfl)) ?_
        refine tk 8 81 (mK 13 511) (qAQ HT_.o HW_.o (by kernel_rfl)) hHeld ?_
        refine pu 9 82 (mK 13 1023) (qA8 HT_.o (by kernel_rfl)) ?_
        refine pu 10 83 (mK 13 2047) (qA8 HT_.o (by kernel_rfl)) ?_
        refine one_ (i := 11) (N := some 84) (mK 13 4095) rfl rfl (qBf HT_.o (by kernel_rfl)) (by decide) (fun K hK => ?_)
        refine qCy Try.func42 (by kernel_rfl) rfl #[.agg #[.string a0_0, .slice au l0_1.length ap, .slice av l0_2.length aq, .slice ao l0_3.length ar], .slice bM bT.length bI, .slice eO bL.length eX] (by rfl) rfl rfl (by (try simp only [List.map_toArray, List.map_cons, List.map_nil]); (rfl)) ?_
        with_reducible refine (qBu.calls a0_0 _ _ l0_1 _ _ l0_2 _ _ l0_3 _ _ bT _ _ bL bK _ ?side1 ?side2 ?side3 ?side4 ?side5 ?side6 ?side7 ?side8 ?side9 ?side10 e0.o).mono ?_
        (case side1 => exact (Kd.C_below bN.o HB.o))
        (case side2 => exact cJ.o)
        (case side3 => exact (Kd.C_below bO.o HB.o))
        (case side4 => exact cK.o)
        (case side5 => exact (Kd.C_below cQ.o HB.o))
        (case side6 => exact cL.o)
        (case side7 => exact (by repeat (with_reducible exact bU.o)))
        (case side8 => exact cM.o)
        (case side9 => exact (by repeat (with_reducible exact bV.o)))
        (case side10 => exact cN.o)
        rintro e el ⟨rfl, hb⟩
        refine ⟨_, rfl, ?_⟩
        have n_ := a2 (qAd aD.o hb) (am (qAj HB.o hb))
        clear aE aD bU bV HB
        obtain ⟨aD, HB⟩ := n_
        (try clear hb)
        (skip)
        (skip)
        (skip)
        refine hK.o _ _ (c4_ _ aD.o) (fun hHeld => ?_)
        clear hK K
        refine nm ?_
        refine pu 12 2 (mK 13 8191) (qA8 HT_.o (by kernel_rfl)) ?_
        refine qE1 (qCk HT_.o (by kernel_rfl)) ?_
        try go_wp2
        go_ret
        exact ⟨by rfl, by exact HB.o⟩
       rw [if_pos cA] at H
       replace cA := d1 cA
       obtain ⟨cp, H⟩ := gd H
       replace cp := d1 cp
       obtain ⟨cq, H⟩ := gd H
       replace cq := d1 cq
       replace H := bm H
       obtain ⟨bB, cE, H⟩ := H
       replace H : (if bB = 0 then ((qBq.f ((qAl l0_2 aA).f1.f0.f0) ((qAl l0_2 aA).f1.f0.f1) ((qAl l0_2 aA).f1.f1) ((qAl l0_2 aA).f1.f2)).bind fun bS => (if bS = true then (if aH.length < 8796093022208 then (qAn.l1 k2 (aH ++ [(qAl l0_2 aA).f0]) l0_2 (l0_2.length : Int) (wrap64 (aA + 1)) a0_0 l0_1 l0_2 l0_3) else (none)) else (some 52))) else (some bB)) = some r := H
       have dr := am cE
       clear cE
       by_cases cY : bB = 0
       rotate_left
       ·rw [if_neg cY] at H
        have cZ : (bB != 0) = true := bne_iff_ne.mpr cY
        obtain rfl := Option.some.inj H
        have ax : 0 ≤ aA := od (by assumption)
        have az : aA < (l0_2.length : Int) := od (by assumption)
        obtain ⟨bQ, aX, aY, a7, a8, a9, aa, bX, aR, aT, aU, aV, aW, ae, ab, af, ac, ag, ad⟩ := qDW bO.o aA ax az
        cases bX
        replace aR := (HB.o.cell (World.block_lt_of_cell? w _ aR)).trans aR
        replace aT := (HB.o.cell (World.block_lt_of_cell? w _ aT)).trans aT
        replace aU := (HB.o.cell (World.block_lt_of_cell? w _ aU)).trans aU
        replace aV := (HB.o.cell (World.block_lt_of_cell? w _ aV)).trans aV
        replace aW := (HB.o.cell (World.block_lt_of_cell? w _ aW)).trans aW
        clear ab ae ac af ad ag
        replace ax := eq_true ax
        replace az := eq_true az
        go_wp2_with (first | ((with_reducible refine qAJ (N := 9) rfl ?_); refine bx 9 #[.string ⟨#[]⟩, .slice none 0 0, .int .i64 0, .slice none 0 0, .slice none 0 0] 80 ?_; intro aG hg ee hbox hb; have n_ := a2 (Kd.R_below aE.o hb) (a2 (qAj HB.o hb) (a2 (hbox) (am (by rw [hg]; exact (qAe HB.o) : w.heap.size ≤ aG)))); clear aE aD HB; obtain ⟨aE, HB, aK, ai⟩ := n_; clear hb hbox hg; obtain ⟨dQ, dR, dS, dT, dU⟩ := c5_ ee aK.o; obtain ⟨dj, dk, dl, dm, dn⟩ := z5_ aK.o; obtain ⟨dw, ch, eD⟩ := Kd.R_slice aE.o; subst eD) | ((with_reducible refine qAp (f := 39) rfl ?_); refine gL 59 Try.func39 #[.string ((qAl l0_2 aA).f0), .slice dw aH.length ch] ?_; (with_reducible refine (qBb.calls k2 ((qAl l0_2 aA).f0) _ _ aH bB _ ?side1 ?side2 dr.o).mono ?_); (case side1 => refine (Kd.R_reads' (e := 9) (base := w.heap.size) (ok := fun k_ => True) (n := aH.length) (c := ch) ?_).2.2; exact (by exact (Kd.R_mono (Kd.R_far (p := ⟨aG, 4, none⟩) (Kd.R_far (p := ⟨aG, 3, none⟩) (Kd.R_far (p := ⟨aG, 2, none⟩) (Kd.R_far (p := ⟨aG, 1, none⟩) (Kd.R_far (p := ⟨aG, 0, none⟩) (Kd.R_types aE.o aK.o (by decide)) (fun _ hk => hk.2) (.string ((qAl l0_2 aA).f0))) (fun _ hk => hk.2) (.slice aX ((qAl l0_2 aA).f1.f0.f0).length aY)) (fun _ hk => hk.2) (.int .i64 ((qAl l0_2 aA).f1.f0.f1))) (fun _ hk => hk.2) (.slice a7 ((qAl l0_2 aA).f1.f1).length a8)) (fun _ hk => hk.2) (.slice a9 ((qAl l0_2 aA).f1.f2).length aa)) (fun _ h_ => h_.1)))); (case side2 => exact (Kd.R_reads' aE.o).2.1); rintro e w' ⟨rfl, ⟨nd, rfl⟩⟩; refine ⟨_, rfl, ?_⟩))
        go_ret
        exact ⟨by rfl, by repeat (with_reducible first | exact HB.o | apply qA4 | refine qAq ?_ ai.o)⟩
       rw [if_pos cY] at H
       have cZ : (bB != 0) = false := bn cY
       clear cY
       replace H := bm H
       obtain ⟨bS, cF, H⟩ := H
       replace H : (if bS = true then (if aH.length < 8796093022208 then (qAn.l1 k2 (aH ++ [(qAl l0_2 aA).f0]) l0_2 (l0_2.length : Int) (wrap64 (aA + 1)) a0_0 l0_1 l0_2 l0_3) else (none)) else (some 52)) = some r := H
       have eN := am cF
       clear cF
       by_cases cr : bS = true
       rotate_left
       ·replace cr := Bool.eq_false_iff.mpr cr
        subst cr
        replace H : (some 52) = some r := by rw [if_neg (show ¬ (false = true) by decide)] at H; exact H
        obtain rfl := Option.some.inj H
        have ax : 0 ≤ aA := od (by assumption)
        have az : aA < (l0_2.length : Int) := od (by assumption)
        obtain ⟨bQ, aX, aY, a7, a8, a9, aa, bX, aR, aT, aU, aV, aW, ae, ab, af, ac, ag, ad⟩ := qDW bO.o aA ax az
        cases bX
        replace aR := (HB.o.cell (World.block_lt_of_cell? w _ aR)).trans aR
        replace aT := (HB.o.cell (World.block_lt_of_cell? w _ aT)).trans aT
        replace aU := (HB.o.cell (World.block_lt_of_cell? w _ aU)).trans aU
        replace aV := (HB.o.cell (World.block_lt_of_cell? w _ aV)).trans aV
        replace aW := (HB.o.cell (World.block_lt_of_cell? w _ aW)).trans aW
        have bF := am ab
        have bC := am ae
        clear ab ae
        have bG := am ac
        have bD := am af
        clear ac af
        have bH := am ad
        have bE := am ag
        clear ad ag
        replace ax := eq_true ax
        replace az := eq_true az
        go_wp2_with (first | ((with_reducible refine qAJ (N := 9) rfl ?_); refine bx 9 #[.string ⟨#[]⟩, .slice none 0 0, .int .i64 0, .slice none 0 0, .slice none 0 0] 80 ?_; intro aG hg ed hbox hb; have n_ := a2 (Kd.R_below aE.o hb) (a2 (qAd aD.o hb) (a2 (qAj HB.o hb) (a2 (hbox) (a2 (by rw [hg]; exact (qAe HB.o) : w.heap.size ≤ aG) (am (by rw [hg]; exact Nat.ne_of_lt (qAw aD.o) : aZ ≠ aG)))))); clear aE aD HB; obtain ⟨aE, aD, HB, aK, ai, a5⟩ := n_; clear hb hbox hg; obtain ⟨dL, dM, dN, dO, dP⟩ := c5_ ed aK.o; obtain ⟨de, df, dg, dh, di⟩ := z5_ aK.o; obtain ⟨dv, cg, eC⟩ := Kd.R_slice aE.o; subst eC) | ((with_reducible refine qAp (f := 39) rfl ?_); refine gL 59 Try.func39 #[.string ((qAl l0_2 aA).f0), .slice dv aH.length cg] ?_; (with_reducible refine (qBb.calls k2 ((qAl l0_2 aA).f0) _ _ aH bB _ ?side1 ?side2 dr.o).mono ?_); (case side1 => refine (Kd.R_reads' (e := 9) (base := w.heap.size) (ok := fun k_ => True) (n := aH.length) (c := cg) ?_).2.2; exact (by exact (Kd.R_mono (Kd.R_far (p := ⟨aG, 4, none⟩) (Kd.R_far (p := ⟨aG, 3, none⟩) (Kd.R_far (p := ⟨aG, 2, none⟩) (Kd.R_far (p := ⟨aG, 1, none⟩) (Kd.R_far (p := ⟨aG, 0, none⟩) (Kd.R_types aE.o aK.o (by decide)) (fun _ hk => hk.2) (.string ((qAl l0_2 aA).f0))) (fun _ hk => hk.2) (.slice aX ((qAl l0_2 aA).f1.f0.f0).length aY)) (fun _ hk => hk.2) (.int .i64 ((qAl l0_2 aA).f1.f0.f1))) (fun _ hk => hk.2) (.slice a7 ((qAl l0_2 aA).f1.f1).length a8)) (fun _ hk => hk.2) (.slice a9 ((qAl l0_2 aA).f1.f2).length aa)) (fun _ h_ => h_.1)))); (case side2 => exact (Kd.R_reads' aE.o).2.1); rintro e w' ⟨rfl, ⟨nd, rfl⟩⟩; refine ⟨_, rfl, ?_⟩) | ((with_reducible refine qAp (f := 41) rfl ?_); refine gL 65 Try.func41 #[.agg #[.slice aX ((qAl l0_2 aA).f1.f0.f0).length aY, .int .i64 ((qAl l0_2 aA).f1.f0.f1), .slice a7 ((qAl l0_2 aA).f1.f1).length a8, .slice a9 ((qAl l0_2 aA).f1.f2).length aa]] ?_; (with_reducible refine (qBq.calls _ _ ((qAl l0_2 aA).f1.f0.f0) ((qAl l0_2 aA).f1.f0.f1) _ _ ((qAl l0_2 aA).f1.f1) _ _ ((qAl l0_2 aA).f1.f2) false _ ?side1 ?side2 ?side3 ?side4 ?side5 ?side6 eN.o).mono ?_); (case side1 => exact Kd.C_below bF.o (by repeat (with_reducible first | exact HB.o | apply qA4 | refine qAq ?_ ai.o))); (case side2 => exact bC.o); (case side3 => exact Kd.C_below bG.o (by repeat (with_reducible first | exact HB.o | apply qA4 | refine qAq ?_ ai.o))); (case side4 => exact bD.o); (case side5 => exact Kd.C_below bH.o (by repeat (with_reducible first | exact HB.o | apply qA4 | refine qAq ?_ ai.o))); (case side6 => exact bE.o); rintro e ej ⟨rfl, hb⟩; refine ⟨_, rfl, ?_⟩; have n_ := am (qAj (by repeat (with_reducible first | exact HB.o | apply qA4 | refine qAq ?_ ai.o)) hb); clear aE aD aK HB; have HB := n_; clear n_; (skip)))
        go_ret
        exact ⟨by rfl, by exact HB.o⟩
       subst cr
       replace H : (if aH.length < 8796093022208 then (qAn.l1 k2 (aH ++ [(qAl l0_2 aA).f0]) l0_2 (l0_2.length : Int) (wrap64 (aA + 1)) a0_0 l0_1 l0_2 l0_3) else (none)) = some r := by rw [if_pos rfl] at H; exact H
       obtain ⟨ct, H⟩ := gd H
       have cS := am ct
       clear ct
       obtain ⟨ck, b1⟩ : ∃ y_ : List ByteArray, y_ = (aH ++ [(qAl l0_2 aA).f0]) := ⟨_, rfl⟩
       replace H : (qAn.l1 k2 ck l0_2 (l0_2.length : Int) (wrap64 (aA + 1)) a0_0 l0_1 l0_2 l0_3) = some r := by (rw [b1]; with_reducible exact H)
       have cU := am b1
       clear b1
       have H' := am H
       clear H
       have ax : 0 ≤ aA := od (by assumption)
       have az : aA < (l0_2.length : Int) := od (by assumption)
       obtain ⟨bQ, aX, aY, a7, a8, a9, aa, bX, aR, aT, aU, aV, aW, ae, ab, af, ac, ag, ad⟩ := qDW bO.o aA ax az
       cases bX
       replace aR := (HB.o.cell (World.block_lt_of_cell? w _ aR)).trans aR
       replace aT := (HB.o.cell (World.block_lt_of_cell? w _ aT)).trans aT
       replace aU := (HB.o.cell (World.block_lt_of_cell? w _ aU)).trans aU
       replace aV := (HB.o.cell (World.block_lt_of_cell? w _ aV)).trans aV
       replace aW := (HB.o.cell (World.block_lt_of_cell? w _ aW)).trans aW
       have bF := am ab
       have bC := am ae
       clear ab ae
       have bG := am ac
       have bD := am af
       clear ac af
       have bH := am ad
       have bE := am ag
       clear ad ag
       replace ax := eq_true ax
       replace az := eq_true az
       go_wp2_with (first | ((with_reducible refine qAJ (N := 9) rfl ?_); refine bx 9 #[.string ⟨#[]⟩, .slice none 0 0, .int .i64 0, .slice none 0 0, .slice none 0 0] 80 ?_; intro aG hg eb hbox hb; have n_ := a2 (Kd.R_below aE.o hb) (a2 (qAd aD.o hb) (a2 (qAj HB.o hb) (a2 (hbox) (a2 (by rw [hg]; exact (qAe HB.o) : w.heap.size ≤ aG) (am (by rw [hg]; exact Nat.ne_of_lt (qAw aD.o) : aZ ≠ aG)))))); clear aE aD HB; obtain ⟨aE, aD, HB, aK, ai, a5⟩ := n_; clear hb hbox hg; obtain ⟨dF, dG, dH, dI, dJ⟩ := c5_ eb aK.o; obtain ⟨d8, d9, da, db, dc⟩ := z5_ aK.o; obtain ⟨cI, bk, eB⟩ := Kd.R_slice aE.o; subst eB) | ((with_reducible refine qAp (f := 39) rfl ?_); refine gL 59 Try.func39 #[.string ((qAl l0_2 aA).f0), .slice cI aH.length bk] ?_; (with_reducible refine (qBb.calls k2 ((qAl l0_2 aA).f0) _ _ aH bB _ ?side1 ?side2 dr.o).mono ?_); (case side1 => refine (Kd.R_reads' (e := 9) (base := w.heap.size) (ok := fun k_ => True) (n := aH.length) (c := bk) ?_).2.2; exact (by exact (Kd.R_mono (Kd.R_far (p := ⟨aG, 4, none⟩) (Kd.R_far (p := ⟨aG, 3, none⟩) (Kd.R_far (p := ⟨aG, 2, none⟩) (Kd.R_far (p := ⟨aG, 1, none⟩) (Kd.R_far (p := ⟨aG, 0, none⟩) (Kd.R_types aE.o aK.o (by decide)) (fun _ hk => hk.2) (.string ((qAl l0_2 aA).f0))) (fun _ hk => hk.2) (.slice aX ((qAl l0_2 aA).f1.f0.f0).length aY)) (fun _ hk => hk.2) (.int .i64 ((qAl l0_2 aA).f1.f0.f1))) (fun _ hk => hk.2) (.slice a7 ((qAl l0_2 aA).f1.f1).length a8)) (fun _ hk => hk.2) (.slice a9 ((qAl l0_2 aA).f1.f2).length aa)) (fun _ h_ => h_.1)))); (case side2 => exact (Kd.R_reads' aE.o).2.1); rintro e w' ⟨rfl, ⟨nd, rfl⟩⟩; refine ⟨_, rfl, ?_⟩) | ((with_reducible refine qAp (f := 41) rfl ?_); refine gL 65 Try.func41 #[.agg #[.slice aX ((qAl l0_2 aA).f1.f0.f0).length aY, .int .i64 ((qAl l0_2 aA).f1.f0.f1), .slice a7 ((qAl l0_2 aA).f1.f1).length a8, .slice a9 ((qAl l0_2 aA).f1.f2).length aa]] ?_; (with_reducible refine (qBq.calls _ _ ((qAl l0_2 aA).f1.f0.f0) ((qAl l0_2 aA).f1.f0.f1) _ _ ((qAl l0_2 aA).f1.f1) _ _ ((qAl l0_2 aA).f1.f2) true _ ?side1 ?side2 ?side3 ?side4 ?side5 ?side6 eN.o).mono ?_); (case side1 => exact Kd.C_below bF.o (by repeat (with_reducible first | exact HB.o | apply qA4 | refine qAq ?_ ai.o))); (case side2 => exact bC.o); (case side3 => exact Kd.C_below bG.o (by repeat (with_reducible first | exact HB.o | apply qA4 | refine qAq ?_ ai.o))); (case side4 => exact bD.o); (case side5 => exact Kd.C_below bH.o (by repeat (with_reducible first | exact HB.o | apply qA4 | refine qAq ?_ ai.o))); (case side6 => exact bE.o); rintro e ec ⟨rfl, hb⟩; refine ⟨_, rfl, ?_⟩; have n_ := a2 (Kd.R_below (by (with_reducible repeat (apply Kd.R_drewN)); exact (Kd.R_mono (Kd.R_far (p := ⟨aG, 4, none⟩) (Kd.R_far (p := ⟨aG, 3, none⟩) (Kd.R_far (p := ⟨aG, 2, none⟩) (Kd.R_far (p := ⟨aG, 1, none⟩) (Kd.R_far (p := ⟨aG, 0, none⟩) (Kd.R_types aE.o aK.o (by decide)) (fun _ hk => hk.2) (.string ((qAl l0_2 aA).f0))) (fun _ hk => hk.2) (.slice aX ((qAl l0_2 aA).f1.f0.f0).length aY)) (fun _ hk => hk.2) (.int .i64 ((qAl l0_2 aA).f1.f0.f1))) (fun _ hk => hk.2) (.slice a7 ((qAl l0_2 aA).f1.f1).length a8)) (fun _ hk => hk.2) (.slice a9 ((qAl l0_2 aA).f1.f2).length aa)) (fun _ h_ => h_.1))) hb) (a2 (qAd (g := aZ) (o := .cells #[.string a0_0, .slice au l0_1.length ap, .slice (some bQ) l0_2.length aq, .slice ao l0_3.length ar] 27 (0, 0)) (by (with_reducible repeat (refine qBK ?_ _)); refine qAg ?_ a5.o _; refine qAg ?_ a5.o _; refine qAg ?_ a5.o _; refine qAg ?_ a5.o _; refine qAg ?_ a5.o _; exact aD.o) hb) (a2 (qAd (g := aG) (o := .cells #[.string ((qAl l0_2 aA).f0), .slice aX ((qAl l0_2 aA).f1.f0.f0).length aY, .int .i64 ((qAl l0_2 aA).f1.f0.f1), .slice a7 ((qAl l0_2 aA).f1.f1).length a8, .slice a9 ((qAl l0_2 aA).f1.f2).length aa] 80 (0, 0)) (by (with_reducible repeat (refine qBK ?_ _)); refine qAo (cs := #[.string ((qAl l0_2 aA).f0), .slice aX ((qAl l0_2 aA).f1.f0.f0).length aY, .int .i64 ((qAl l0_2 aA).f1.f0.f1), .slice a7 ((qAl l0_2 aA).f1.f1).length a8, .slice none 0 0]) ?_ 4 _ rfl; refine qAo (cs := #[.string ((qAl l0_2 aA).f0), .slice aX ((qAl l0_2 aA).f1.f0.f0).length aY, .int .i64 ((qAl l0_2 aA).f1.f0.f1), .slice none 0 0, .slice none 0 0]) ?_ 3 _ rfl; refine qAo (cs := #[.string ((qAl l0_2 aA).f0), .slice aX ((qAl l0_2 aA).f1.f0.f0).length aY, .int .i64 0, .slice none 0 0, .slice none 0 0]) ?_ 2 _ rfl; refine qAo (cs := #[.string ((qAl l0_2 aA).f0), .slice none 0 0, .int .i64 0, .slice none 0 0, .slice none 0 0]) ?_ 1 _ rfl; refine qAo (cs := #[.string ⟨#[]⟩, .slice none 0 0, .int .i64 0, .slice none 0 0, .slice none 0 0]) ?_ 0 _ rfl; exact aK.o) hb) (am (qAj (by repeat (with_reducible first | exact HB.o | apply qA4 | refine qAq ?_ ai.o)) hb)))); clear aE aD aK HB; obtain ⟨aE, aD, aK, HB⟩ := n_; have dK := c1_ ec aK.o; have dd := qAr aK.o 4) | ((with_reducible refine qBG (b := .append) (xs := #[.tmp 67, .tmp 70]) rfl ?_); at_builtin; refine Kd.R_append Kd.string (w0 := w) w.heap.size rfl (.tmp 67) (.tmp 70) 104 9 (.string ⟨#[]⟩) 16 rfl Try.underlying104 info9 rfl (by decide) (by omega) (.slice cI aH.length bk) aH ((qAl l0_2 aA).f0) [.string ((qAl l0_2 aA).f0)] (fun _ => True) (fun _ => False) rfl rfl ?aP (fun _ hk => hk.elim) ?aF ?aO ?aB ?aS ?aL ?_; (case aP => exact rfl); (case aB => exact HB.o); (case aF => exact (fun _ _ => trivial)); (case aO => exact aE.o); (case aS => exact (qAe HB.o)); (case aL => have := cS.o; omega); intro e4 ei ho hb hg eF; rw [← cU.o] at ho; have n_ := a2 (qAH (g := aZ) (o := .cells #[.string a0_0, .slice au l0_1.length ap, .slice (some bQ) l0_2.length aq, .slice ao l0_3.length ar] 27 (0, 0)) aD.o hg (Kd.R_ne aE.o aD.o (by decide))) (a2 (hb) (am (ho))); clear aD aK HB aE; obtain ⟨aD, HB, cP⟩ := n_; clear ho hb hg eF))
       go_roundg k2
       case measure => have := cl.o; have := eP.o; omega
       case rel => exact ⟨(ck), (wrap64 (aA + 1)), (by rfl), H', ⟨by have := cl.o; have := eP.o; omega⟩, ⟨by exact cP.o⟩, ⟨by exact aD.o⟩, ⟨by exact HB.o⟩⟩
 ·rw [if_neg c3] at H
  have c0 : (ak != 0) = true := bne_iff_ne.mpr c3
  obtain rfl := Option.some.inj H
  go_enter Try.func11, Try.ntmps11
  go_wp2_with (first | ((with_reducible refine qAJ (N := 1) rfl ?_); refine bx 1 #[.string a0_0, .slice au l0_1.length ap, .slice av l0_2.length aq, .slice ao l0_3.length ar] 27 ?_; intro aZ hg ef hbox hb; have n_ := a2 (qAj HB.o hb) (am (hbox)); clear HB; obtain ⟨HB, aD⟩ := n_; clear hb hbox hg; have dV := c1_ ef aD.o; have dp := qAr aD.o 3) | ((with_reducible refine qAp (f := 38) rfl ?_); refine gL 13 Try.func38 #[.string a0_0] ?_; (with_reducible refine (qBa.calls a0_0 ak _ A2.o).mono ?_); rintro e w' ⟨rfl, ⟨nd, rfl⟩⟩; refine ⟨_, rfl, ?_⟩))
  go_ret
  exact ⟨by rfl, by repeat (with_reducible first | exact HB.o | apply qA4)⟩
end Q
end
section
namespace Q
open Go.RowKit PA PB PC
open Val Ins
def qBA (s : ByteArray) (ahead : List ByteArray) : Int := if Names.nameE s ≠ 0 then Names.nameE s else if hasB ahead s = true then 20 else 0
def varsE : List ByteArray → List S71 → Int
 | _, [] => 0
 | ahead, v :: vs => if qBA v.f0 ahead ≠ 0 then qBA v.f0 ahead else if okV v.f1.f0 v.f1.f1 = false then 52 else varsE (ahead ++ [v.f0]) vs
def fnOk (f : S80) : Bool := okFn f.f1.f0.f0 f.f1.f0.f1 f.f1.f1 f.f1.f2
def fnsE : List ByteArray → List S80 → Int
 | _, [] => 0
 | ahead, f :: fs => if qBA f.f0 ahead ≠ 0 then qBA f.f0 ahead else if fnOk f = false then 52 else fnsE (ahead ++ [f.f0]) fs
def qBI (m : ByteArray) (vars : List S71) (fns : List S80) (rels : List S82) : Int :=
 if Names.nameE m ≠ 0 then Names.nameE m else if 64 < vars.length + fns.length then 3
 else if varsE [] vars ≠ 0 then varsE [] vars else if fnsE (vars.map (·.f0)) fns ≠ 0 then fnsE (vars.map (·.f0)) fns
 else qD9 m fns rels (vars.map (·.f0)) (fns.map (·.f0))
def smallB (s : ByteArray) : Prop := s.size ≤ 140737488351232
structure qCI (m : ByteArray) (vars : List S71) (fns : List S80) (rels : List S82) : Prop where
 m : smallB m
 vl : vars.length ≤ 2305843009213693952
 v : ∀ x ∈ vars, smallB x.f0 ∧ 0 ≤ x.f1.f1 ∧ x.f1.f1 < 18446744073709551616
 fl : fns.length ≤ 2305843009213693952
 f : ∀ x ∈ fns, smallB x.f0 ∧ x.f1.f0.f0.length ≤ 4611686018427387904 ∧ x.f1.f1.length ≤ 4611686018427387904 ∧ x.f1.f2.length ≤ 4611686018427387904 ∧ x.f1.f2.all u64S = true
 rl : rels.length ≤ 4611686018427387904
 r : ∀ x ∈ rels, smallB x.f3 ∧ smallB x.f4
theorem named_ev (s : ByteArray) (hs : smallB s) (l : List ByteArray) (hl : l.length ≤ 4611686018427387904) : Ev (fun k => qBb.f k s l) (qBA s l) := by
 have hn : qBa.f s = some (Names.nameE s) := if_pos hs
 unfold qBA
 by_cases h : Names.nameE s = 0
 rotate_left
 ·rw [if_pos h]
  exact Ev.congr (f := fun _ => some (Names.nameE s)) (fun k => by unfold qBb.f; rw [hn]; simp only [Option.bind_some, h, if_false]) (Ev.now _)
 rw [if_neg (by simp [h])]
 refine Ev.congr (f := fun k => (qA7.f k l s).bind fun t => (if t = true then some 20 else some 0)) (fun k => by unfold qBb.f; rw [hn]; simp only [Option.bind_some, h, if_true]) (Ev.bind (qDr l s hl) ?_)
 cases hasB l s
 ·exact Ev.now _
 exact Ev.now _
theorem qEq {α : Type} (l : List α) (d : α) (i : Int) (h0 : 0 ≤ i) (h : i < l.length) : l.getD i.toNat d ∈ l := by
 rw [List.getD_eq_getElem?_getD, List.getElem?_eq_getElem (by omega)]; exact List.getElem_mem _
section
variable (m : ByteArray) (vars : List S71) (fns : List S80) (rels : List S82)
theorem qEp {f : S80} (h : fnOk f = true) : f.f1.f0.f0.length ≤ 8 ∧ f.f1.f1.length ≤ 64 ∧ f.f1.f2.length ≤ 4096 ∧ f.f1.f2.all okS = true := by
 unfold fnOk okFn at h
 simp only [Bool.and_eq_true, decide_eq_true_eq] at h
 exact ⟨h.1.1.1.1.1.1, h.1.1.1.2, h.1.2, h.2⟩
theorem rfns_ev (hg : qCI m vars fns rels) (hc : vars.length + fns.length ≤ 64) : ∀ (d : Nat) (i : Int) (ahead : List ByteArray), 0 ≤ i → (fns.length : Int) - i = d → ahead = vars.map (·.f0) ++ (fns.take i.toNat).map (·.f0) → (∀ x ∈ fns.take i.toNat, fnOk x = true) →
  Ev (fun k => qAn.l1 k ahead fns (fns.length : Int) i m vars fns rels) (if fnsE ahead (fns.drop i.toNat) ≠ 0 then fnsE ahead (fns.drop i.toNat) else qD9 m fns rels (vars.map (·.f0)) (fns.map (·.f0))) := by
 intro d
 induction d with
 | zero =>
  intro i ahead h0 hd ha hok
  have hi : fns.length ≤ i.toNat := by omega
  rw [List.drop_eq_nil_of_le hi]
  rw [List.take_of_length_le hi] at ha hok
  simp only [fnsE, ne_eq, not_true_eq_false, if_false]
  have hlen : ahead.length = vars.length + fns.length := by rw [ha]; simp
  have ht : ahead.take vars.length = vars.map (·.f0) := by rw [ha, List.take_append_of_le_length (by simp)]; exact List.take_of_length_le (by simp)
  have hdr : ahead.drop vars.length = fns.map (·.f0) := by rw [ha, List.drop_append_of_le_length (by simp), List.drop_eq_nil_of_le (by simp), List.nil_append]
  refine Ev.step (f := fun _ => some (qD9 m fns rels (vars.map (·.f0)) (fns.map (·.f0)))) (fun k => ?_) (Ev.now _)
  simp only [qAn.l1]
  rw [if_neg (by omega), if_pos (by omega), if_pos (by omega)]
  rw [show ((vars.length : Int)).toNat = vars.length from Int.toNat_natCast _, ht, hdr]
  unfold qBu.f
  rw [if_pos ⟨by omega, fun x hx => (qEp (hok x hx)).2.2.1, hg.rl, hg.r, by simp; omega, by simp; omega⟩]
  rfl
 | succ d ih =>
  intro i ahead h0 hd ha hok
  have hlt : i < (fns.length : Int) := by omega
  have hcons := qBe fns z80 i h0 hlt
  have hx : qAl fns i = fns.getD i.toNat z80 := rfl
  have hm := qEq fns z80 i h0 hlt
  rw [← hx] at hcons hm
  rw [hcons]
  obtain ⟨g1, g2, g3, g4, g5⟩ := hg.f _ hm
  have hal : ahead.length ≤ 64 := by rw [ha]; simp; omega
  have hne := named_ev (qAl fns i).f0 g1 ahead (by omega)
  have hf : qBq.f (qAl fns i).f1.f0.f0 (qAl fns i).f1.f0.f1 (qAl fns i).f1.f1 (qAl fns i).f1.f2 = some (fnOk (qAl fns i)) := if_pos ⟨g2, g3, g4, g5⟩
  simp only [fnsE]
  refine Ev.step (f := fun k => (qBb.f k ((qAl fns i).f0) ahead).bind fun t => (if t = 0 then ((some (fnOk (qAl fns i))).bind fun t2 => (if t2 = true then (if ahead.length < 8796093022208 then (qAn.l1 k (ahead ++ [(qAl fns i).f0]) fns (fns.length : Int) (wrap64 (i + 1)) m vars fns rels) else none) else some 52)) else some t)) (fun k => ?_) (Ev.bind hne ?_)
  ·simp only [qAn.l1]
   rw [if_pos hlt, if_pos h0, if_pos hlt, hf]
  by_cases hz : qBA (qAl fns i).f0 ahead = 0
  rotate_left
  ·simp only [hz, if_false, ne_eq, not_false_eq_true, if_true]
   exact Ev.now _
  simp only [hz, if_true, Option.bind_some, ne_eq, not_true_eq_false, if_false]
  cases hq : fnOk (qAl fns i) with
  | false => simp; exact Ev.now _
  | true =>
   simp only [if_true, Bool.true_eq_false, if_false]
   rw [qBD (n := fns.length) h0 hlt (by omega)]
   simp only [show ahead.length < 8796093022208 from by omega, if_true]
   have htk : fns.take (i + 1).toNat = fns.take i.toNat ++ [qAl fns i] := by
    rw [show (i + 1).toNat = i.toNat + 1 from by omega, List.take_succ_eq_append_getElem (by omega), hx, List.getD_eq_getElem?_getD, List.getElem?_eq_getElem (by omega)]; rfl
   refine ih (i + 1) _ (by omega) (by omega) ?_ ?_
   ·rw [htk, ha]; simp
   rw [htk]
   intro x hx2
   rcases List.mem_append.1 hx2 with hx2 | hx2
   ·exact hok x hx2
   rw [List.mem_singleton.1 hx2]; exact hq
theorem rvars_ev (hg : qCI m vars fns rels) (hc : vars.length + fns.length ≤ 64) : ∀ (d : Nat) (i : Int) (ahead : List ByteArray), 0 ≤ i → (vars.length : Int) - i = d → ahead = (vars.take i.toNat).map (·.f0) →
  Ev (fun k => qAn.l0 k ahead vars (vars.length : Int) i m vars fns rels) (if varsE ahead (vars.drop i.toNat) ≠ 0 then varsE ahead (vars.drop i.toNat) else if fnsE (vars.map (·.f0)) fns ≠ 0 then fnsE (vars.map (·.f0)) fns else qD9 m fns rels (vars.map (·.f0)) (fns.map (·.f0))) := by
 intro d
 induction d with
 | zero =>
  intro i ahead h0 hd ha
  have hi : vars.length ≤ i.toNat := by omega
  rw [List.drop_eq_nil_of_le hi]
  rw [List.take_of_length_le hi] at ha
  simp only [varsE, ne_eq, not_true_eq_false, if_false]
  have hrec := rfns_ev m vars fns rels hg hc fns.length 0 (vars.map (·.f0)) (by omega) (by omega) (by simp) (by simp)
  rw [ha]
  refine Ev.step (fun k => ?_) hrec
  simp only [qAn.l0]
  rw [if_neg (by omega)]
 | succ d ih =>
  intro i ahead h0 hd ha
  have hlt : i < (vars.length : Int) := by omega
  have hcons := qBe vars z71 i h0 hlt
  have hx : qAC vars i = vars.getD i.toNat z71 := rfl
  have hm := qEq vars z71 i h0 hlt
  rw [← hx] at hcons hm
  rw [hcons]
  obtain ⟨g1, g2, g3⟩ := hg.v _ hm
  have hal : ahead.length ≤ 64 := by rw [ha]; simp; omega
  have hne := named_ev (qAC vars i).f0 g1 ahead (by omega)
  have hf : qB7.f (qAC vars i).f1.f0 (qAC vars i).f1.f1 = some (okV (qAC vars i).f1.f0 (qAC vars i).f1.f1) := if_pos ⟨g2, g3⟩
  simp only [varsE]
  refine Ev.step (f := fun k => (qBb.f k ((qAC vars i).f0) ahead).bind fun t => (if t = 0 then ((some (okV (qAC vars i).f1.f0 (qAC vars i).f1.f1)).bind fun t2 => (if t2 = true then (if ahead.length < 8796093022208 then (qAn.l0 k (ahead ++ [(qAC vars i).f0]) vars (vars.length : Int) (wrap64 (i + 1)) m vars fns rels) else none) else some 52)) else some t)) (fun k => ?_) (Ev.bind hne ?_)
  ·simp only [qAn.l0]
   rw [if_pos hlt, if_pos h0, if_pos hlt, hf]
  by_cases hz : qBA (qAC vars i).f0 ahead = 0
  rotate_left
  ·simp only [hz, if_false, ne_eq, not_false_eq_true, if_true]
   exact Ev.now _
  simp only [hz, if_true, Option.bind_some, ne_eq, not_true_eq_false, if_false]
  cases hq : okV (qAC vars i).f1.f0 (qAC vars i).f1.f1 with
  | false => simp; exact Ev.now _
  | true =>
   simp only [if_true, Bool.true_eq_false, if_false]
   rw [qBD (n := vars.length) h0 hlt (by omega)]
   simp only [show ahead.length < 8796093022208 from by omega, if_true]
   have htk : vars.take (i + 1).toNat = vars.take i.toNat ++ [qAC vars i] := by
    rw [show (i + 1).toNat = i.toNat + 1 from by omega, List.take_succ_eq_append_getElem (by omega), hx, List.getD_eq_getElem?_getD, List.getElem?_eq_getElem (by omega)]; rfl
   refine ih (i + 1) _ (by omega) (by omega) ?_
   rw [htk, ha]; simp
theorem wrap_sum {a b : Nat} (h1 : a ≤ 2305843009213693952) (h2 : b ≤ 2305843009213693952) : wrap64 ((a : Int) + b) = a + b := by unfold wrap64; omega
theorem qEs (hg : qCI m vars fns rels) : Ev (fun k => qAn.f k m vars fns rels) (qBI m vars fns rels) := by
 have hn : qBa.f m = some (Names.nameE m) := if_pos hg.m
 have hw : wrap64 ((vars.length : Int) + (fns.length : Int)) = (vars.length : Int) + (fns.length : Int) := wrap_sum hg.vl hg.fl
 have hunf : ∀ k, qAn.f k m vars fns rels = (if Names.nameE m = 0 then (if (vars.length : Int) + (fns.length : Int) > 64 then some 3 else qAn.l0 k [] vars (vars.length : Int) 0 m vars fns rels) else some (Names.nameE m)) := fun k => by
  unfold qAn.f
  rw [hn, hw]
  rfl
 refine Ev.congr hunf ?_
 unfold qBI
 by_cases h : Names.nameE m = 0
 rotate_left
 ·rw [if_pos h]
  simp only [if_neg h]
  exact Ev.now _
 rw [if_neg (fun hh => hh h)]
 simp only [if_pos h]
 by_cases hc : 64 < vars.length + fns.length
 ·rw [if_pos hc]
  have hc' : (vars.length : Int) + (fns.length : Int) > 64 := by omega
  simp only [if_pos hc']
  exact Ev.now _
 rw [if_neg hc]
 have hc' : ¬ (vars.length : Int) + (fns.length : Int) > 64 := by omega
 simp only [if_neg hc']
 exact rvars_ev m vars fns rels hg (by omega) vars.length 0 [] (by omega) (by omega) (by simp)
end
end Q
end
section
namespace Clone
open Go.RowKit Base
def RowPost (E : TypeId) (size n : Nat) (xs : List Value) (w : World) (e : Ending) (w' : World) : Prop :=
 ∃ x, e = .returned x ∧ w'.ownsRow w.heap.size E size x n xs ∧ Below w.heap.size w w'
theorem info_bytes : (Try.prog.info? 5).map (fun i => (i.zero, i.size, i.bytes)) = some (some (.int .u8 0), 1, 1) := by kernel_rfl
theorem bytes_nil (n c : Nat) (w : World) : Calls Try.prog 66 #[.slice none n c] w fun e w' => e = .returned (.slice none 0 0) ∧ w = w' := by
 have hq := Lib.run_eql_slice_nil (P := Try.prog) w 22 5 none n c 0 0 Try.underlying22
 go_enter Try.func66, Try.ntmps66
 go_wp2
 go_ret
 exact ⟨rfl, rfl⟩
theorem bytes_zero (a : Addr) (c : Nat) (w : World) : Calls Try.prog 66 #[.slice (some a) 0 c] w (RowPost 5 1 0 [] w) := by
 obtain ⟨i0, hi, hz0, hz1, hz2⟩ := info_parts info_bytes
 have hq := Lib.run_eql_slice_nil (P := Try.prog) w 22 5 (some a) 0 c 0 0 Try.underlying22
 have hown : (w.alloc (.cells #[] 5)).ownsRow w.heap.size 5 1 (.slice (some ⟨w.heap.size, 0, none⟩) 0 0) 0 [] := World.ownsRow_made w #[] 0 (Nat.le_refl _) (by unfold maxLen; omega) rfl
 go_enter Try.func66, Try.ntmps66
 go_wp2_with (at_builtin; refine wpList_append_zero rfl _ _ 22 rfl w.heap.size 5 i0 1 Try.underlying22 hi _ _ _ rfl hown (some a) c rfl ?_)
 go_ret
 exact ⟨_, rfl, hown, (Below.refl _ _).alloc (Nat.le_refl _) _⟩
theorem bytes_some (b o n c : Nat) (xs : List Value) (w : World) (h0 : 0 < n) (hl : xs.length = n * 1) (h1 : ∀ u ∈ xs, u.oneCell' = true)
  (hc : ∀ j u, xs[j]? = some u → w.cell? ⟨b, o + j, none⟩ = some u) (hb : b < w.heap.size) (hn : n ≤ 400000000) :
  Calls Try.prog 66 #[.slice (some ⟨b, o, none⟩) n c] w (RowPost 5 1 n xs w) := by
 obtain ⟨i0, hi, hz0, hz1, hz2⟩ := info_parts info_bytes
 have hq := Lib.run_eql_slice_nil (P := Try.prog) w 22 5 (some ⟨b, o, none⟩) n c 0 0 Try.underlying22
 have hown : (w.alloc (.cells #[] 5)).ownsRow w.heap.size 5 1 (.slice (some ⟨w.heap.size, 0, none⟩) 0 0) 0 [] := World.ownsRow_made w #[] 0 (Nat.le_refl _) (by unfold maxLen; omega) rfl
 have hnews : ∀ j u, xs[j]? = some u → (w.alloc (.cells #[] 5)).cell? ((⟨b, o, none⟩ : Addr).add j) = some u := fun j u hu => by
  have hadd : (⟨b, o, none⟩ : Addr).add j = ⟨b, o + j, none⟩ := by unfold Addr.add; split <;> simp_all
  rw [hadd, World.cell?_alloc_past _ _ _ hb]; exact hc j u hu
 have HN := hid hnews
 have HL := hid hl
 clear hnews hl hc
 go_enter Try.func66, Try.ntmps66
 go_wp2_with (at_builtin; refine wpList_append_lies _ rfl _ _ 22 rfl w.heap.size 5 i0 (.int .u8 0) 1 1 Try.underlying22 hi hz0 hz1 hz2 rfl (by decide) _ _ _ rfl hown ⟨b, o, none⟩ n c xs rfl ?c9 HN.out ?c2 ?c0 ?c3 ?c4 ?c5 _ rfl ?_)
 case c9 => exact HL.out
 case c2 => exact h1
 case c0 => exact h0
 case c3 => unfold maxLen; omega
 case c4 => omega
 case c5 => simp
 intro g cap w1 hown' hgrow hgg hlt
 have H1 : Hid (w1.ownsRow w.heap.size 5 1 (.slice (some ⟨g, 0, none⟩) n cap) n xs ∧ Below w.heap.size w w1) := hid ⟨hown', ((Below.refl _ _).alloc (Nat.le_refl _) _).grown hgrow (by simp) (fun j hj => (hown.lt j hj).1)⟩
 clear hown' hgrow hgg hlt hown
 go_wp2
 go_ret
 exact ⟨_, by simp, H1.out.1, H1.out.2⟩
end Clone
end
section
namespace Wr2
open Go.RowKit Base Wr Clone
theorem bv_one (bs : List Int) : ∀ u ∈ bv bs, u.oneCell' = true := by
 intro u hu; unfold bv at hu; obtain ⟨y, _, rfl⟩ := List.mem_map.1 hu; rfl
theorem bytes_any (p : Nat) (v : Value) (bs : List Int) (w : World) (h : WrSt w p v bs) (hl : bs.length ≤ 400000000) :
  Calls Try.prog 36 #[.pointer (some ⟨p, 0, none⟩)] w (RowPost 5 1 bs.length (bv bs) w) := by
 have hcl : Calls Try.prog 66 #[v] w (RowPost 5 1 bs.length (bv bs) w) := by
  rcases h.own.2 with ⟨rfl, h0⟩ | ⟨g, cap, cur, rfl, _, hg, _⟩
  ·have e0 : bs = [] := List.length_eq_zero_iff.1 h0
   subst e0
   exact (bytes_nil 0 0 w).mono fun e w' ⟨he, hw⟩ => ⟨_, he, hw ▸ World.ownsRow_nil _ _ _ _, hw ▸ Below.refl _ _⟩
  by_cases h0 : bs.length = 0
  ·have e0 : bs = [] := List.length_eq_zero_iff.1 h0
   subst e0
   exact bytes_zero _ cap w
  refine bytes_some g 0 bs.length cap (bv bs) w (by omega) (by rw [qCK]; omega) (bv_one bs) (fun j u hu => ?_) (Array.getElem?_eq_some_iff.1 hg).1 hl
  have hc := h.own.cells rfl j u hu
  have hadd : (⟨g, 0, none⟩ : Addr).add j = ⟨g, j, none⟩ := by unfold Addr.add; split <;> simp_all
  rw [hadd] at hc
  rw [Nat.zero_add]; exact hc
 have HC := hid hcl
 have hc := h.cell
 clear hcl h
 go_enter Try.func36, Try.ntmps36
 go_wp2_with fail
 refine HC.out.mono ?_
 rintro e w2 ⟨x, rfl, h2, h3⟩
 have H2 := hid h2
 have H3 := hid h3
 clear h2 h3
 go_wp2
 go_ret
 exact ⟨x, rfl, H2.out, H3.out⟩
end Wr2
end
section
namespace Q
open Go.RowKit PA PB PC
open Val Ins Wr Enc
structure WK (wd : World) (p : Nat) (W : World) (v : Value) (bs : List Int) : Prop where
 st : WrSt W p v bs
 below : Below wd.heap.size wd W
 hp : wd.heap.size ≤ p
 hv : ∀ k, v.ownBlock = some k → wd.heap.size ≤ k
theorem WK.step {wd W W' : World} {p : Nat} {v v' : Value} {bs bs' : List Int} (h : WK wd p W v bs) (h1 : WrSt W' p v' bs') (h2 : qAP p W v W' v') : WK wd p W' v' bs' :=
 ⟨h1, h.below.trans (h2.below h.hp h.below.size h.hv), h.hp, fun k hk => by
   rcases h2.row k hk with e | e
   · exact h.hv k e
   · exact Nat.le_trans h.below.size e⟩
theorem WK.below' {wd W W' : World} {p : Nat} {v : Value} {bs : List Int} (h : WK wd p W v bs) (hb : Below W.heap.size W W') : WK wd p W' v bs :=
 h.step (h.st.below hb) (qAP.of_below hb)
theorem WK.plt {wd W : World} {p : Nat} {v : Value} {bs : List Int} (h : WK wd p W v bs) : p < W.heap.size := World.block_lt_of_cell? W _ h.st.cell
theorem WK.vlt {wd W : World} {p : Nat} {v : Value} {bs : List Int} (h : WK wd p W v bs) : ∀ k, v.ownBlock = some k → k < W.heap.size := fun k hk => (h.st.own.lt k hk).2
theorem WK.cell {wd W W' : World} {p : Nat} {v v' : Value} {bs : List Int} (h : WK wd p W v bs) (h2 : qAP p W v W' v') {a : Addr} (ha : a.block < W.heap.size) (hp : a.block ≠ p) (hv : some a.block ≠ v.ownBlock) : W'.cell? a = W.cell? a := h2.cell ha hp hv
theorem enc_zero (A : Option Addr) (c : Nat) (w : World) : Calls Try.prog 57 #[.slice A 0 c] w fun e w' => e = .returned (.tuple #[.slice none 0 0, .int .i64 0]) ∧ w' = w := by
 go_enter Try.func57, Try.ntmps57
 go_wp2
 go_loopw [4, 12] (fun v i wr => v = .slice none 0 0 ∧ i = .int .i64 0 ∧ wr = w) (fun _ _ _ => 0)
 case atStart => exact ⟨rfl, rfl, rfl⟩
 case round =>
  obtain ⟨rfl, rfl, rfl⟩ := hrel
  go_wp2
  go_ret2
  exact ⟨rfl, rfl⟩
def toD (x : S115) : InsD := ⟨x.f0, x.f1, x.f2.f0, x.f2.f1⟩
theorem enc_ok (A : Option Addr) (c : Nat) (l : List S115) (w : World) (hr : Kd.C k115 w A l.length l) (hl : l.length ≤ 4096) (hok : l.all okS = true) (hu : l.all u64S = true) :
  Calls Try.prog 57 #[.slice A l.length c] w fun e w' => Below w.heap.size w w' ∧ ∃ r, e = .returned (.tuple #[r, .int .i64 0]) ∧ Out w.heap.size w' r (encB (l.map toD)) := by
 rcases Nat.eq_zero_or_pos l.length with h0 | hp
 ·obtain rfl := List.length_eq_zero_iff.1 h0
  exact (enc_zero A c w).mono fun e w' ⟨he, hw⟩ => ⟨hw ▸ Below.refl _ _, _, he, by simpa [encB, Out, bv] using World.ownsRow_nil _ _ _ _⟩
 ·obtain ⟨ad, had, hcell⟩ := hr.2.2 hp
  subst had
  obtain ⟨b, o, s⟩ := ad
  have hat : ∀ j x, l[j]? = some x → ∀ i u, [Value.int .i64 x.f0, .int .i64 x.f1, .int .i64 x.f2.f0, .int .u64 x.f2.f1][i]? = some u → w.cell? (Addr.add ⟨b, o, s⟩ (j * 4 + i)) = some u := fun j x hj i u hu => by
   obtain ⟨cs, _, hK, hcc⟩ := hcell j x hj
   obtain rfl := k115_open hK
   exact hcc i u hu
  obtain ⟨x0, hx0⟩ : ∃ x, l[0]? = some x := ⟨l[0], List.getElem?_eq_getElem hp⟩
  have hz := hat 0 x0 hx0 0 _ rfl
  have hlt := World.block_lt_of_cell? w _ hz
  obtain rfl : s = none := by
   cases s with
   | none => rfl
   | some k =>
    simp only [Addr.add, World.cell?] at hz
    split at hz <;> simp at hz
  have hadd : ∀ j, Addr.add ⟨b, o, none⟩ j = ⟨b, o + j, none⟩ := fun j => by by_cases hj : j = 0 <;> simp [Addr.add, hj]
  have hrow : InsRow w (.slice (some ⟨b, o, none⟩) l.length c) (l.map toD) := .inr ⟨b, o, c, by rw [List.length_map], by rw [hadd] at hlt; exact hlt, fun k x hx => by
    rw [List.getElem?_map] at hx
    obtain ⟨y, hy, rfl⟩ := Option.map_eq_some_iff.1 hx
    have g := hat k y hy
    refine ⟨?_, ?_, ?_, ?_⟩
    · have := g 0 _ rfl; rwa [hadd] at this
    · have := g 1 _ rfl; rwa [hadd, ← Nat.add_assoc] at this
    · have := g 2 _ rfl; rwa [hadd, ← Nat.add_assoc] at this
    · have := g 3 _ rfl; rwa [hadd, ← Nat.add_assoc] at this⟩
  refine (encode_any _ (l.map toD) w hrow (fun x hx => by
    obtain ⟨y, hy, rfl⟩ := List.mem_map.1 hx
    exact u64S_U (List.all_eq_true.1 hu y hy))).mono ?_
  rintro e w' ⟨hb, h⟩
  refine ⟨hb, ?_⟩
  rcases h with ⟨h, _⟩ | ⟨_, ⟨_, r, he, ho⟩ | ⟨⟨x, hx, hf⟩, _⟩⟩
  ·rw [List.length_map] at h; omega
  ·exact ⟨r, he, ho⟩
  ·obtain ⟨y, hy, rfl⟩ := List.mem_map.1 hx
   have h1 := List.all_eq_true.1 hok y hy
   have h2 : okS y = false := hf
   rw [h1] at h2; cases h2
theorem raw_out (p N0 : Nat) (r : Value) (ys : List Int) (v : Value) (bs : List Int) (w : World) (h : WrSt w p v bs) (ho : Out N0 w r ys) (hp : p < N0) (hv : ∀ k, v.ownBlock = some k → k < N0) (hl : bs.length ≤ 400000000) (hl2 : ys.length ≤ 400000000) :
  Calls Try.prog 58 #[.pointer (some ⟨p, 0, none⟩), r] w (qBJ p (bs ++ rawB ys) w v) := by
 have ho' := ho
 obtain ⟨_, ho⟩ := ho
 rcases ho with ⟨rfl, h0⟩ | ⟨g, cap, cur, rfl, hb, hh, _, _, _, hcur⟩
 ·obtain rfl : ys = [] := List.length_eq_zero_iff.1 h0
  exact raw_none p none 0 v bs w h hl
 ·rcases Nat.eq_zero_or_pos ys.length with h0 | hpos
  ·obtain rfl : ys = [] := List.length_eq_zero_iff.1 h0
   exact raw_none p _ cap v bs w h hl
  ·refine raw_some p g 0 cap ys v bs w h (qAw hh) (by omega) (fun e => by have := hv g e.symm; omega) hpos (fun j y hj => ?_) hl hl2
   have hx : cur[0 + j]? = some (Value.int .u8 y) := by
    have h1 : (bv ys)[j]? = some (Value.int .u8 y) := by unfold bv; rw [List.getElem?_map, hj]; rfl
    rw [← hcur, List.getElem?_take] at h1
    split at h1
    ·rw [Nat.zero_add, ← Array.getElem?_toList]; exact h1
    cases h1
   rw [qAb hh]; exact hx
def byB (l : List Int) : List Int := l.map (· % 256)
def fnB (l0 : List Int) (a1 : Int) (l2 : List Int) (l3 : List S115) : List Int :=
 [(l0.length : Int) % 256] ++ byB l0 ++ [a1 % 256] ++ [(l2.length : Int) % 256] ++ byB l2 ++ rawB (encB (l3.map toD))
theorem byB_take (l : List Int) (k : Nat) (x : Int) (h : l[k]? = some x) : byB (l.take (k + 1)) = byB (l.take k) ++ [x % 256] := by
 obtain ⟨hk, he⟩ := List.getElem?_eq_some_iff.1 h
 unfold byB
 rw [List.take_succ_eq_append_getElem hk, List.map_append, he]; rfl
theorem encB_len (l : List InsD) : (encB l).length ≤ l.length * 10 := by
 induction l with
 | nil => simp [encB]
 | cons x l ih =>
  have h1 : (insB x).length ≤ 10 := by
   unfold insB
   have := widN_le x.op
   split <;> simp [be_len] <;> omega
  have h2 : encB (x :: l) = insB x ++ encB l := by simp [encB]
  rw [h2, List.length_append, List.length_cons]; omega
theorem u8w (x : Int) : IntKind.u8.wrap x = x % 256 := by simp [IntKind.wrap, IntKind.signed, IntKind.bits]
theorem fn_any (p : Nat) (A0 : Option Addr) (c0 : Nat) (l0 : List Int) (a1 : Int) (A2 : Option Addr) (c2 : Nat) (l2 : List Int) (A3 : Option Addr) (c3 : Nat) (l3 : List S115) (v : Value) (bs : List Int) (wd w : World) (hk : WK wd p w v bs)
  (hr0 : Kd.C (Kd.int .i64) wd A0 l0.length l0) (hr2 : Kd.C (Kd.int .i64) wd A2 l2.length l2) (hr3 : Kd.C k115 wd A3 l3.length l3) (h0 : l0.length ≤ 8) (h2 : l2.length ≤ 64) (h3 : l3.length ≤ 4096) (hok : l3.all okS = true) (hu : l3.all u64S = true) (hl : bs.length ≤ 300000000) :
  Calls Try.prog 79 #[.pointer (some ⟨p, 0, none⟩), .agg #[.slice A0 l0.length c0, .int .i64 a1, .slice A2 l2.length c2, .slice A3 l3.length c3]] w (qBJ p (bs ++ fnB l0 a1 l2 l3) w v) := by
 obtain ⟨n0, hn0⟩ : ∃ n, n = l0.length := ⟨_, rfl⟩
 obtain ⟨n2, hn2⟩ : ∃ n, n = l2.length := ⟨_, rfl⟩
 obtain ⟨n3, hn3⟩ : ∃ n, n = l3.length := ⟨_, rfl⟩
 rw [← hn0] at hr0 h0 ⊢
 rw [← hn2] at hr2 h2 ⊢
 rw [← hn3] at h3 ⊢
 obtain ⟨WA, hWA⟩ : ∃ WA, WA = w.alloc (.cells #[.slice A0 n0 c0, .int .i64 a1, .slice A2 n2 c2, .slice A3 n3 c3] 77) := ⟨_, rfl⟩
 have hKA : WK wd p WA v bs := hk.below' (hWA ▸ (Below.refl _ _).alloc (Nat.le_refl _) _)
 have hSA : qAP p w v WA v := qAP.of_below (hWA ▸ (Below.refl _ _).alloc (Nat.le_refl _) _)
 have hgA : w.heap.size < WA.heap.size := by rw [hWA]; simp
 have hgp : w.heap.size ≠ p := Nat.ne_of_gt hk.plt
 have hgv : some w.heap.size ≠ v.ownBlock := fun e => by have := hk.vlt _ e.symm; omega
 have k0 : WA.cell? ⟨w.heap.size, 0, none⟩ = some (.slice A0 n0 c0) := by rw [hWA, World.cell?_alloc_at _ _ _ _ rfl]; rfl
 have k1 : WA.cell? ⟨w.heap.size, 1, none⟩ = some (.int .i64 a1) := by rw [hWA, World.cell?_alloc_at _ _ _ _ rfl]; rfl
 have k2 : WA.cell? ⟨w.heap.size, 2, none⟩ = some (.slice A2 n2 c2) := by rw [hWA, World.cell?_alloc_at _ _ _ _ rfl]; rfl
 have k3 : WA.cell? ⟨w.heap.size, 3, none⟩ = some (.slice A3 n3 c3) := by rw [hWA, World.cell?_alloc_at _ _ _ _ rfl]; rfl
 have HB : qAa (∀ W' v', qAP p WA v W' v' → W'.cell? ⟨w.heap.size, 0, none⟩ = some (.slice A0 n0 c0) ∧ W'.cell? ⟨w.heap.size, 1, none⟩ = some (.int .i64 a1) ∧ W'.cell? ⟨w.heap.size, 2, none⟩ = some (.slice A2 n2 c2) ∧ W'.cell? ⟨w.heap.size, 3, none⟩ = some (.slice A3 n3 c3)) := ⟨fun W' v' hs =>
   ⟨(hKA.cell hs (a := ⟨w.heap.size, 0, none⟩) hgA hgp hgv).trans k0, (hKA.cell hs (a := ⟨w.heap.size, 1, none⟩) hgA hgp hgv).trans k1, (hKA.cell hs (a := ⟨w.heap.size, 2, none⟩) hgA hgp hgv).trans k2, (hKA.cell hs (a := ⟨w.heap.size, 3, none⟩) hgA hgp hgv).trans k3⟩⟩
 have HWA := am hWA
 have HKA := am hKA
 have HSA := am hSA
 have HR0 := am hr0
 have HR2 := am hr2
 have HE : qAa (∀ W, Below wd.heap.size wd W → Calls Try.prog 57 #[.slice A3 n3 c3] W fun e w' => Below W.heap.size W w' ∧ ∃ r, e = .returned (.tuple #[r, .int .i64 0]) ∧ Out W.heap.size w' r (encB (l3.map toD))) := ⟨fun W hW => hn3 ▸ enc_ok A3 c3 l3 W (Kd.C_below hr3 hW) (hn3 ▸ h3) hok hu⟩
 have HEL : qAa ((encB (l3.map toD)).length ≤ 40960) := ⟨by have := encB_len (l3.map toD); rw [List.length_map] at this; omega⟩
 have HN0 := am hn0
 have HN2 := am hn2
 have HL := am hl
 have HFB : qAa (fnB l0 a1 l2 l3 = [(n0 : Int) % 256] ++ byB l0 ++ [a1 % 256] ++ [(n2 : Int) % 256] ++ byB l2 ++ rawB (encB (l3.map toD))) := ⟨by unfold fnB; rw [hn0, hn2]⟩
 clear hk hr0 hr2 hr3 hok hu hl hKA hSA hgp hgv hn0 hn2 hn3 hWA h3
 go_enter Try.func79, Try.ntmps79
 go_wp2_with fail
 rw [← HWA.out]
 go_wp2_with fail
 refine (qBE p _ v bs WA HKA.out.st (by have := HL.out; omega)).mono ?_
 rintro e w1 ⟨v1, rfl, hst, hs⟩
 have HK1 := am (HKA.out.step hst hs)
 have HS1 := am hs
 obtain ⟨q0, q1, q2, q3⟩ := HB.out w1 v1 hs
 clear hst hs k0 k1 k2 k3
 go_wp2_with fail
 go_loopg [5, 21] n0 (fun gg _ s21 wr => ∃ (kk : Nat) (v' : Value), kk ≤ n0 ∧ n0 - kk ≤ gg ∧ s21 = .int .i64 kk ∧ qAa (WK wd p wr v' (bs ++ [(n0 : Int)] ++ byB (l0.take kk))) ∧ qAa (qAP p WA v wr v'))
 case atStart => exact ⟨0, v1, Nat.zero_le _, by omega, rfl, ⟨by rw [List.take_zero]; show WK wd p w1 v1 (bs ++ [(n0 : Int)] ++ []); rw [List.append_nil]; exact HK1.out⟩, HS1⟩
 case round =>
  clear q0 q1 q2 q3 HK1 HS1
  obtain ⟨kk, v', hkk, hg, rfl, HK, HS⟩ := hrel
  by_cases hlt : kk < n0
  ·have hltz : (kk : Int) < (n0 : Int) := by omega
   have h0' : (0 : Int) ≤ (kk : Int) := by omega
   obtain ⟨ad, ea, hx⟩ := Kd.at_int HR0.out (kk : Int) h0' hltz
   subst ea
   rw [Int.toNat_natCast] at hx
   replace hx := (HK.out.below.cell (World.block_lt_of_cell? wd _ hx)).trans hx
   obtain ⟨x, hx0⟩ : ∃ x, x = rd l0 (kk : Int) := ⟨_, rfl⟩
   rw [← hx0] at hx
   have HX : qAa (l0[kk]? = some x) := ⟨by rw [hx0]; exact qCu l0 0 kk (by have := HN0.out; omega)⟩
   have HLB : qAa ((bs ++ [(n0 : Int)] ++ byB (l0.take kk)).length ≤ 1000000000) := ⟨by have := HL.out; have := HN0.out; simp [byB]; omega⟩
   clear hx0
   go_wp2_with fail
   refine (qBE p _ v' _ wr HK.out.st HLB.out).mono ?_
   rintro e w2 ⟨v2, rfl, hst, hs⟩
   have HK2 : qAa (WK wd p w2 v2 (bs ++ [(n0 : Int)] ++ byB (l0.take (kk + 1)))) := ⟨by
     rw [byB_take l0 kk x HX.out, ← List.append_assoc, ← u8w]; exact HK.out.step hst hs⟩
   have HS2 := am (HS.out.trans hs)
   clear hst hs
   go_wp2
   go_roundg (n0 - (kk + 1))
   case measure => omega
   case rel => exact ⟨kk + 1, v2, by omega, by omega, by go_num, HK2, HS2⟩
  have hltz : ¬ (kk : Int) < (n0 : Int) := by omega
  have hkn : kk = n0 := by omega
  rw [show l0.take kk = l0 from List.take_of_length_le (by have := HN0.out; omega)] at HK
  obtain ⟨q0, q1, q2, q3⟩ := HB.out wr v' HS.out
  go_wp2_with fail
  clear hlt hg hkk HR0
  have HL3 : qAa ((bs ++ [(n0 : Int)] ++ byB l0).length ≤ 300000100) := ⟨by have := HL.out; have := HN0.out; simp [byB]; omega⟩
  refine (qBE p _ v' _ wr HK.out.st (by have := HL3.out; omega)).mono ?_
  rintro e w3 ⟨v3, rfl, hst, hs⟩
  have HK3 := am (HK.out.step hst hs)
  have HS3 := am (HS.out.trans hs)
  clear hst hs q0 q1 q2 q3 HK HS
  obtain ⟨q0, q1, q2, q3⟩ := HB.out w3 v3 HS3.out
  go_wp2_with fail
  refine (qBE p _ v3 _ w3 HK3.out.st (by have := HL3.out; rw [List.length_append]; simp only [List.length_cons, List.length_nil]; omega)).mono ?_
  rintro e w4 ⟨v4, rfl, hst, hs⟩
  have HK4 := am (HK3.out.step hst hs)
  have HS4 := am (HS3.out.trans hs)
  clear hst hs q0 q1 q2 q3 HK3 HS3
  obtain ⟨q0, q1, q2, q3⟩ := HB.out w4 v4 HS4.out
  obtain ⟨b4, hb4⟩ : ∃ b, b = bs ++ [(n0 : Int)] ++ byB l0 ++ [a1 % 256] ++ [(n2 : Int)] := ⟨_, rfl⟩
  rw [← hb4] at HK4
  have HB4 := am hb4
  have HL4 : qAa (b4.length ≤ 300000200) := ⟨by have := HL3.out; rw [hb4, List.length_append, List.length_append]; simp only [List.length_cons, List.length_nil]; omega⟩
  clear hb4
  go_wp2_with fail
  go_loopg [7, 45] n2 (fun gg _ s21 wr => ∃ (kk : Nat) (v' : Value), kk ≤ n2 ∧ n2 - kk ≤ gg ∧ s21 = .int .i64 kk ∧ qAa (WK wd p wr v' (b4 ++ byB (l2.take kk))) ∧ qAa (qAP p WA v wr v'))
  case atStart => exact ⟨0, v4, Nat.zero_le _, by omega, rfl, ⟨by rw [List.take_zero]; show WK wd p w4 v4 (b4 ++ []); rw [List.append_nil]; exact HK4.out⟩, HS4⟩
  case round =>
   clear q0 q1 q2 q3 HK4 HS4 hkn hltz
   obtain ⟨kk, v', hkk, hg, rfl, HK, HS⟩ := hrel
   by_cases hlt : kk < n2
   ·have hltz : (kk : Int) < (n2 : Int) := by omega
    have h0' : (0 : Int) ≤ (kk : Int) := by omega
    obtain ⟨ad, ea, hx⟩ := Kd.at_int HR2.out (kk : Int) h0' hltz
    subst ea
    rw [Int.toNat_natCast] at hx
    replace hx := (HK.out.below.cell (World.block_lt_of_cell? wd _ hx)).trans hx
    obtain ⟨x, hx0⟩ : ∃ x, x = rd l2 (kk : Int) := ⟨_, rfl⟩
    rw [← hx0] at hx
    have HX : qAa (l2[kk]? = some x) := ⟨by rw [hx0]; exact qCu l2 0 kk (by have := HN2.out; omega)⟩
    have HLB : qAa ((b4 ++ byB (l2.take kk)).length ≤ 1000000000) := ⟨by have := HL4.out; have := HN2.out; simp [byB]; omega⟩
    clear hx0
    go_wp2_with fail
    refine (qBE p _ v' _ wr HK.out.st HLB.out).mono ?_
    rintro e w2 ⟨v2, rfl, hst, hs⟩
    have HK2 : qAa (WK wd p w2 v2 (b4 ++ byB (l2.take (kk + 1)))) := ⟨by
      rw [byB_take l2 kk x HX.out, ← List.append_assoc, ← u8w]; exact HK.out.step hst hs⟩
    have HS2 := am (HS.out.trans hs)
    clear hst hs
    go_wp2
    go_roundg (n2 - (kk + 1))
    case measure => omega
    case rel => exact ⟨kk + 1, v2, by omega, by omega, by go_num, HK2, HS2⟩
   have hltz : ¬ (kk : Int) < (n2 : Int) := by omega
   rw [show l2.take kk = l2 from List.take_of_length_le (by have := HN2.out; omega)] at HK
   obtain ⟨q0, q1, q2, q3⟩ := HB.out wr v' HS.out
   have HL5 : qAa ((b4 ++ byB l2).length ≤ 300000300) := ⟨by have := HL4.out; have := HN2.out; simp [byB]; omega⟩
   clear hlt hg hkk HR2
   go_wp2_with fail
   refine (HE.out wr HK.out.below).mono ?_
   rintro e w5 ⟨hb, rr, rfl, ho⟩
   have HK5 := am (HK.out.below' hb)
   have HS5 := am (HS.out.trans (qAP.of_below hb))
   have HO := am ho
   have HPL := am HK.out.plt
   have HVL := am HK.out.vlt
   clear hb ho q0 q1 q2 q3 HK HS
   go_wp2_with fail
   refine (raw_out p wr.heap.size rr _ v' _ w5 HK5.out.st HO.out HPL.out HVL.out (by have := HL5.out; omega) (by have := HEL.out; omega)).mono ?_
   rintro e w6 ⟨v6, rfl, hst, hs⟩
   have HS6 := am (HSA.out.trans (HS5.out.trans hs))
   have HST : qAa (WrSt w6 p v6 (bs ++ fnB l0 a1 l2 l3)) := ⟨by
     have e : bs ++ fnB l0 a1 l2 l3 = b4 ++ byB l2 ++ rawB (encB (l3.map toD)) := by
       rw [HFB.out, HB4.out, Int.emod_eq_of_lt (by omega) (by omega : (n0 : Int) < 256), Int.emod_eq_of_lt (by omega) (by omega : (n2 : Int) < 256)]
       simp only [List.append_assoc]
     rw [e]; exact hst⟩
   clear hst hs
   go_wp2
   go_end0
   exact ⟨v6, rfl, HST.out, HS6.out⟩
end Q
end
end Go.Proofs.Ytfjpnjbinbhcfaa
