/- What the document's object.Unpack and the program's tell of any bytes is the same: Rows.ObjectReadsSaid. Part 11 of 11. -/
import Derived.Test.YtfjpnjbinbhcfaaGreatM10
import Derived.SizedLaws
import Derived.ChangeSlices
import Derived.Test.YtfjpnjbinbhcfaaGreatRows
import Derived.WalkKit
import Derived.ProofKit
import Derived.OpenShut
import Derived.ShutString
import Derived.ChangeOld
import Derived.Below
set_option maxHeartbeats 8000000
set_option maxRecDepth 100000
set_option linter.unusedVariables false
set_option linter.unusedSimpArgs false
namespace Go.Proofs.YtfjpnjbinbhcfaaGreat
section
namespace Q
open Go.RowKit PA PC PB
open DecLaw
def qCV : Nat → List Int → Ps (List Int)
 | 0, acc => fun r => some (acc, r)
 | n + 1, acc => fun r => (qCU r).bind fun a => qCV n (acc ++ [a.1]) a.2
def qCX : Ps (List Int) := fun r => (qCU r).bind fun a => qCV a.1.toNat [] a.2
def decP (c : List Int) : List Enc.InsD × Int := decL (c.length + 1) [] c
def qDt : Ps (List S144) := fun r => (rawP 16384 r).bind fun a => if (decP a.1).2 = 0 then some ((decP a.1).1.map toS, a.2) else none
abbrev Fn4 := List Int × Int × List Int × List S144
def fnP : Ps Fn4 := fun r => (qCX r).bind fun a => (qCU a.2).bind fun b => (qCX b.2).bind fun c => (qDt c.2).bind fun d => some ((a.1, b.1, c.1, d.1), d.2)
def varP : Ps S85 := fun r => (qDH 32 r).bind fun a => (qCU a.2).bind fun b => (numP 8 b.2).bind fun c => some (⟨a.1, ⟨b.1, c.1⟩⟩, c.2)
def nfnP : Ps S92 := fun r => (qDH 32 r).bind fun a => (fnP a.2).bind fun b => some (⟨a.1, ⟨⟨b.1.1, b.1.2.1⟩, b.1.2.2.1, b.1.2.2.2⟩⟩, b.2)
def relP : Ps S104 := fun r => (numP 2 r).bind fun a => (numP 2 a.2).bind fun b => (qCU b.2).bind fun c => (qDH 32 c.2).bind fun d => (qDH 32 d.2).bind fun e => some (⟨a.1, b.1, c.1, d.1, e.1⟩, e.2)
abbrev Obj4 := ByteArray × List S85 × List S92 × List S104
def endO (o : Obj4) (r : List Int) : Option Obj4 := if r = [] then some o else none
def qFj : Nat → ByteArray → List S85 → List S92 → List S104 → List Int → Option Obj4
 | 0, m, vs, fs, acc, r => endO (m, vs, fs, acc) r
 | n + 1, m, vs, fs, acc, r => (relP r).bind fun a => qFj n m vs fs (acc ++ [a.1]) a.2
def relsI (m : ByteArray) (vs : List S85) (fs : List S92) (r : List Int) : Option Obj4 := (intP r).bind fun a => qFj a.1.toNat m vs fs [] a.2
def fnsC : Nat → ByteArray → List S85 → List S92 → List Int → Option Obj4
 | 0, m, vs, acc, r => relsI m vs acc r
 | n + 1, m, vs, acc, r => (nfnP r).bind fun a => fnsC n m vs (acc ++ [a.1]) a.2
def fnsI (m : ByteArray) (vs : List S85) (r : List Int) : Option Obj4 := (intP r).bind fun a => fnsC a.1.toNat m vs [] a.2
def qEY : Nat → ByteArray → List S85 → List Int → Option Obj4
 | 0, m, acc, r => fnsI m acc r
 | n + 1, m, acc, r => (varP r).bind fun a => qEY n m (acc ++ [a.1]) a.2
def objC (r : List Int) : Option Obj4 := (qDH 32 r).bind fun a => (intP a.2).bind fun b => qEY b.1.toNat a.1 [] b.2
structure Fin {σ γ : Type} (tail : σ → Nat → Option γ) (err : γ) (s : Option σ) (R : γ) : Prop where
 yes : ∀ o, s = some o → Ev (tail o) R
 no : s = none → R = err
theorem Rd.fin {α σ γ : Type} {f0 : List Int} {g : Nat → Option (α × Int × Int)} {s : Option (α × List Int)} {h : Nat → α × Int × Int → Option γ} {t : α × List Int → Option σ} {tail : σ → Nat → Option γ} {err R : γ} (hg : Rd f0 g s) (hF : Fin tail err (s.bind t) R)
  (good : ∀ x p, Pl f0 p → s = some (x, f0.drop p.toNat) → Fin tail err (t (x, f0.drop p.toNat)) R → Ev (fun k => h k (x, p, 0)) R) (bad : ∀ x p e, e ≠ 0 → R = err → Ev (fun k => h k (x, p, e)) R) : Ev (fun k => (g k).bind (h k)) R := by
 obtain ⟨v, p, e, hv, hs⟩ := hg
 cases s with
 | none => exact Ev.bind hv (bad v p e hs (hF.no rfl))
 | some a =>
  obtain ⟨x, r⟩ := a
  obtain ⟨rfl, rfl, h0, h1, rfl⟩ := hs
  exact Ev.bind hv (good v p ⟨h0, h1⟩ rfl ⟨fun o ho => hF.yes o ho, fun hn => hF.no hn⟩)
theorem qB1 {r : List Int} (hb : qBn r) {a : Int × List Int} (h : qCU r = some a) : 0 ≤ a.1 ∧ a.1 < 256 := by
 cases r with
 | nil => cases h
 | cons x r => obtain rfl := Option.some.inj h; exact hb x List.mem_cons_self
theorem qBR {x : Int} (h : 0 ≤ x ∧ x < 256) : wrap64 x = x := by unfold wrap64; omega
section
variable (f0 : List Int) (hb : qBn f0) (hl : f0.length ≤ 4294967296)
theorem kinds_bad (n : Int) (hn : 0 ≤ n ∧ n < 256) (p e : Int) (he : e ≠ 0) : ∀ (d : Nat) (i : Int) (acc : List Int), 0 ≤ i → n - i = d → acc.length + d ≤ 512 → ∃ l, Ev (fun k => qAB.l0 k acc n i f0 p e) (l, p, e) := by
 intro d
 induction d with
 | zero =>
  intro i acc h0 hd ha
  refine ⟨acc, Ev.step (f := fun _ => some (acc, p, e)) (fun k => ?_) (Ev.now _)⟩
  simp only [qAB.l0]; rw [if_neg (by omega)]
 | succ d ih =>
  intro i acc h0 hd ha
  obtain ⟨l, hl⟩ := ih (i + 1) (acc ++ [wrap64 0]) (by omega) (by omega) (by simp; omega)
  refine ⟨l, Ev.step (fun k => ?_) hl⟩
  simp only [qAB.l0]
  rw [if_pos (by omega), show qAu.f f0 p e = some (0, p, e) from by simp [qAu.f, he]]
  simp only [Option.bind_some]
  rw [if_pos (by omega), show wrap64 (i + 1) = i + 1 from by unfold wrap64; omega]
theorem kinds_loop (hb : qBn f0) (n : Int) (hn : 0 ≤ n ∧ n < 256) : ∀ (d : Nat) (i : Int) (acc : List Int) (p : Int), 0 ≤ i → n - i = d → acc.length + d ≤ 512 → Pl f0 p → Rd f0 (fun k => qAB.l0 k acc n i f0 p 0) (qCV d acc (f0.drop p.toNat)) := by
 intro d
 induction d with
 | zero =>
  intro i acc p h0 hd ha hp
  refine Rd.ok (Ev.step (f := fun _ => some (acc, p, 0)) (fun k => ?_) (Ev.now _)) hp
  simp only [qAB.l0]; rw [if_neg (by omega)]
 | succ d ih =>
  intro i acc p h0 hd ha hp
  have hw : wrap64 (i + 1) = i + 1 := by unfold wrap64; omega
  have hstep : Rd f0 (fun k => (qAu.f f0 p 0).bind fun b => (if acc.length < 17592186044416 then qAB.l0 k (acc ++ [wrap64 b.1]) n (wrap64 (i + 1)) f0 b.2.1 b.2.2 else none)) ((qCU (f0.drop p.toNat)).bind fun a => qCV d (acc ++ [a.1]) a.2) := by
   refine Rd.bind (qD7 f0 hb p hp) (h := fun k b => (if acc.length < 17592186044416 then qAB.l0 k (acc ++ [wrap64 b.1]) n (wrap64 (i + 1)) f0 b.2.1 b.2.2 else none)) (fun x p2 hp2 hs => ?_) (fun x p2 e he => ?_)
   ·have hx := qB1 (qBu hb _) hs
    simp only [show acc.length < 17592186044416 from by omega, if_true, hw, qBR hx]
    exact ih (i + 1) _ p2 (by omega) (by omega) (by simp; omega) hp2
   simp only [show acc.length < 17592186044416 from by omega, if_true, hw]
   obtain ⟨l, hl⟩ := kinds_bad f0 n hn p2 e he d (i + 1) (acc ++ [wrap64 x]) (by omega) (by omega) (by simp; omega)
   exact Rd.no hl he
  obtain ⟨v, p', e', hev, hs⟩ := hstep
  refine ⟨v, p', e', Ev.step (fun k => ?_) hev, hs⟩
  simp only [qAB.l0]
  rw [if_pos (by omega)]
theorem kinds_good (hb : qBn f0) (p : Int) (hp : Pl f0 p) : Rd f0 (fun k => qAB.f k f0 p 0) (qCX (f0.drop p.toNat)) := by
 cases hs : qCU (f0.drop p.toNat) with
 | none =>
  have hlt : ¬ p < f0.length := by
   intro hlt
   have hc : (f0.drop p.toNat).length ≠ 0 := by rw [List.length_drop]; have := hp.1; omega
   cases hd : f0.drop p.toNat with
   | nil => rw [hd] at hc; exact hc rfl
   | cons x r => rw [hd] at hs; cases hs
  have e : qCX (f0.drop p.toNat) = none := by unfold qCX; rw [hs]; rfl
  rw [e]
  refine Rd.no (x := []) (p := p) (e := 40) (Ev.congr (f := fun k => qAB.l0 k [] 0 0 f0 p 40) (fun k => ?_) (Ev.step (f := fun _ => some ([], p, 40)) (fun k => ?_) (Ev.now _))) (by decide)
  ·unfold qAB.f
   rw [show qAu.f f0 p 0 = some (0, p, 40) from by simp [qAu.f, hlt]]
   simp only [Option.bind_some]
   rw [show wrap64 0 = 0 from by unfold wrap64; omega]
  simp only [qAB.l0]; rw [if_neg (by omega)]
 | some a =>
  obtain ⟨x, r⟩ := a
  have hx := qB1 (qBu hb _) hs
  obtain ⟨v, q, e, hev, hq⟩ := qD7 f0 hb p hp
  rw [hs] at hq
  obtain ⟨rfl, rfl, q0, q1, rfl⟩ := hq
  have e : qCX (f0.drop p.toNat) = qCV v.toNat [] (f0.drop q.toNat) := by unfold qCX; rw [hs]; rfl
  rw [e]
  obtain ⟨v2, p2, e2, h2, hs2⟩ := kinds_loop f0 hb v hx v.toNat 0 [] q (by omega) (by have := hx.1; simp only at this; omega) (by have := hx.2; simp only at this; simp; omega) ⟨q0, q1⟩
  refine ⟨v2, p2, e2, ?_, hs2⟩
  refine Ev.congr (f := fun k => (qAu.f f0 p 0).bind fun b => qAB.l0 k [] (wrap64 b.1) 0 f0 b.2.1 b.2.2) (fun k => rfl) (Ev.bind hev ?_)
  simp only [qBR hx]
  exact h2
theorem kinds_badF (p e : Int) (he : e ≠ 0) : Ev (fun k => qAB.f k f0 p e) ([], p, e) := by
 refine Ev.congr (f := fun k => qAB.l0 k [] 0 0 f0 p e) (fun k => ?_) (Ev.step (f := fun _ => some ([], p, e)) (fun k => ?_) (Ev.now _))
 ·unfold qAB.f
  rw [show qAu.f f0 p e = some (0, p, e) from by simp [qAu.f, he]]
  simp only [Option.bind_some]
  rw [show wrap64 0 = 0 from by unfold wrap64; omega]
 simp only [qAB.l0]; rw [if_neg (by omega)]
def RdF (g : Nat → Option (List Int × Int × List Int × List S144 × Int × Int)) (s : Option (Fn4 × List Int)) : Prop :=
 ∃ a b c d p e, Ev g (a, b, c, d, p, e) ∧ match s with
  | some (x, r) => x = (a, b, c, d) ∧ e = 0 ∧ 0 ≤ p ∧ p ≤ f0.length ∧ r = f0.drop p.toNat
  | none => e ≠ 0
theorem qDv (c : List Int) (hb : qBn c) : qBz.f c = some ((decP c).1.map toS, (decP c).2) := by
 unfold qBz.f
 rw [if_pos (List.all_eq_true.2 fun x hx => decide_eq_true (hb x hx))]; rfl
theorem qE5 {most : Int} {r : List Int} (hb : qBn r) {a : List Int × List Int} (h : rawP most r = some a) : qBn a.1 := by
 unfold rawP at h
 cases hi : intP r with
 | none => rw [hi] at h; cases h
 | some b =>
  rw [hi] at h
  simp only [Option.bind_some] at h
  split at h
  ·obtain rfl := Option.some.inj h
   refine qCs ?_ _
   unfold intP at hi
   split at hi
   ·split at hi
    ·obtain rfl := Option.some.inj hi
     exact qBu hb 4
    cases hi
   cases hi
  cases h
theorem raw_empty (most p : Int) (v : List Int) (q e : Int) (h : qAC.f f0 p 0 most = some (v, q, e)) (he : e ≠ 0) : v = [] := by
 unfold qAC.f at h
 replace h := Option.some.inj h
 rw [if_neg (by simp)] at h
 (repeat' split at h) <;> (simp only [Prod.mk.injEq] at h; first | exact h.1.symm | exact absurd h.2.2.symm he)
theorem readFn_bad (p e : Int) (he : e ≠ 0) : ∃ a b c d, Ev (fun k => qBF.f k f0 p e) (a, b, c, d, p, e) := by
 have h1 := kinds_badF f0 p e he
 refine ⟨[], wrap64 0, [], (decP []).1.map toS, ?_⟩
 refine Ev.congr (f := fun k => (qAB.f k f0 p e).bind fun b1 => ((qAu.f f0 b1.2.1 b1.2.2).bind fun b2 => ((qAB.f k f0 b2.2.1 b2.2.2).bind fun b3 => ((qAC.f f0 b3.2.1 b3.2.2 16384).bind fun b4 => ((qBz.f b4.1).bind fun b5 => (if b5.2 = 0 then (some (b1.1, wrap64 (b2.1), b3.1, b5.1, b4.2.1, b4.2.2)) else ((qAP.f f0 b4.2.1 b4.2.2 52).bind fun b6 => (some (b1.1, wrap64 (b2.1), b3.1, b5.1, b6.1, b6.2))))))))) (fun k => rfl) (Ev.bind h1 ?_)
 simp only [show qAu.f f0 p e = some (0, p, e) from by simp [qAu.f, he], Option.bind_some]
 refine Ev.bind h1 ?_
 have hr : qAC.f f0 p e 16384 = some ([], p, e) := by unfold qAC.f; rw [if_pos he]
 simp only [hr, Option.bind_some, qDv [] (by intro x hx; cases hx)]
 have hz : (decP []).2 = 0 := rfl
 simp only [hz, if_true]
 exact Ev.now _
theorem readFn_good (hb : qBn f0) (p : Int) (hp : Pl f0 p) : RdF f0 (fun k => qBF.f k f0 p 0) (fnP (f0.drop p.toNat)) := by
 have hun : ∀ k, qBF.f k f0 p 0 = (qAB.f k f0 p 0).bind fun b1 => ((qAu.f f0 b1.2.1 b1.2.2).bind fun b2 => ((qAB.f k f0 b2.2.1 b2.2.2).bind fun b3 => ((qAC.f f0 b3.2.1 b3.2.2 16384).bind fun b4 => ((qBz.f b4.1).bind fun b5 => (if b5.2 = 0 then (some (b1.1, wrap64 (b2.1), b3.1, b5.1, b4.2.1, b4.2.2)) else ((qAP.f f0 b4.2.1 b4.2.2 52).bind fun b6 => (some (b1.1, wrap64 (b2.1), b3.1, b5.1, b6.1, b6.2)))))))) := fun k => rfl
 have tail4 : ∀ (q1 : List Int) (q2 : Int) (q3 : List Int) (p e : Int), e ≠ 0 → Ev (fun _ => (qAC.f f0 p e 16384).bind fun b4 => ((qBz.f b4.1).bind fun b5 => (if b5.2 = 0 then (some (q1, q2, q3, b5.1, b4.2.1, b4.2.2)) else ((qAP.f f0 b4.2.1 b4.2.2 52).bind fun b6 => (some (q1, q2, q3, b5.1, b6.1, b6.2)))))) (q1, q2, q3, (decP []).1.map toS, p, e) := fun q1 q2 q3 p e he => by
  have hr : qAC.f f0 p e 16384 = some ([], p, e) := by unfold qAC.f; rw [if_pos he]
  simp only [hr, Option.bind_some, qDv [] (by intro x hx; cases hx)]
  have hz : (decP []).2 = 0 := rfl
  simp only [hz, if_true]
  exact Ev.now _
 have tail3 : ∀ (q1 : List Int) (q2 : Int) (p e : Int), e ≠ 0 → ∃ l, Ev (fun k => (qAB.f k f0 p e).bind fun b3 => ((qAC.f f0 b3.2.1 b3.2.2 16384).bind fun b4 => ((qBz.f b4.1).bind fun b5 => (if b5.2 = 0 then (some (q1, q2, b3.1, b5.1, b4.2.1, b4.2.2)) else ((qAP.f f0 b4.2.1 b4.2.2 52).bind fun b6 => (some (q1, q2, b3.1, b5.1, b6.1, b6.2))))))) (q1, q2, [], l, p, e) := fun q1 q2 p e he =>
  ⟨_, Ev.bind (kinds_badF f0 p e he) (tail4 q1 q2 [] p e he)⟩
 obtain ⟨v1, p1, e1, h1, s1⟩ := kinds_good f0 hb p hp
 unfold fnP
 cases hk1 : qCX (f0.drop p.toNat) with
 | none =>
  rw [hk1] at s1
  obtain ⟨l, hl⟩ := tail3 v1 (wrap64 0) p1 e1 s1
  refine ⟨v1, wrap64 0, [], l, p1, e1, Ev.congr hun (Ev.bind h1 ?_), s1⟩
  simp only [show qAu.f f0 p1 e1 = some (0, p1, e1) from by simp [qAu.f, show e1 ≠ 0 from s1], Option.bind_some]
  exact hl
 | some a1 =>
  obtain ⟨x1, r1⟩ := a1
  rw [hk1] at s1
  obtain ⟨rfl, rfl, g0, g1, rfl⟩ := s1
  simp only [Option.bind_some]
  obtain ⟨v2, p2, e2, h2, s2⟩ := qD7 f0 hb p1 ⟨g0, g1⟩
  cases hk2 : qCU (f0.drop p1.toNat) with
  | none =>
   rw [hk2] at s2
   obtain ⟨l, hl⟩ := tail3 v1 (wrap64 v2) p2 e2 s2
   exact ⟨v1, wrap64 v2, [], l, p2, e2, Ev.congr hun (Ev.bind h1 (Ev.bind h2 hl)), s2⟩
  | some a2 =>
   obtain ⟨x2, r2⟩ := a2
   have hx2 := qB1 (qBu hb _) hk2
   rw [hk2] at s2
   obtain ⟨rfl, rfl, g0, g1, rfl⟩ := s2
   simp only [Option.bind_some]
   obtain ⟨v3, p3, e3, h3, s3⟩ := kinds_good f0 hb p2 ⟨g0, g1⟩
   cases hk3 : qCX (f0.drop p2.toNat) with
   | none =>
    rw [hk3] at s3
    exact ⟨v1, wrap64 v2, v3, _, p3, e3, Ev.congr hun (Ev.bind h1 (Ev.bind h2 (Ev.bind h3 (tail4 _ _ _ p3 e3 s3)))), s3⟩
   | some a3 =>
    obtain ⟨x3, r3⟩ := a3
    rw [hk3] at s3
    obtain ⟨rfl, rfl, g0, g1, rfl⟩ := s3
    simp only [Option.bind_some]
    obtain ⟨v4, p4, e4, h4, s4⟩ := raw_good f0 hb 16384 (by decide) p3 ⟨g0, g1⟩
    cases hk4 : rawP 16384 (f0.drop p3.toNat) with
    | none =>
     rw [hk4] at s4
     have he : qDt (f0.drop p3.toNat) = none := by unfold qDt; rw [hk4]; rfl
     rw [he]
     have hv4 : v4 = [] := by
      obtain ⟨k, hk⟩ := h4.rounds
      exact raw_empty f0 16384 p3 _ _ _ hk s4
     subst hv4
     by_cases hz : (decP []).2 = 0
     rotate_left
     ·exact absurd rfl hz
     refine ⟨v1, wrap64 v2, v3, (decP []).1.map toS, p4, e4, Ev.congr hun (Ev.bind h1 (Ev.bind h2 (Ev.bind h3 (Ev.bind h4 ?_)))), s4⟩
     simp only [qDv [] (by intro x hx; cases hx), Option.bind_some, hz, if_true]
     exact Ev.now _
    | some a4 =>
     obtain ⟨x4, r4⟩ := a4
     have hb4 := qE5 (qBu hb _) hk4
     rw [hk4] at s4
     obtain ⟨rfl, rfl, g0, g1, rfl⟩ := s4
     have he : qDt (f0.drop p3.toNat) = (if (decP v4).2 = 0 then some ((decP v4).1.map toS, f0.drop p4.toNat) else none) := by unfold qDt; rw [hk4]; rfl
     rw [he]
     by_cases hz : (decP v4).2 = 0
     ·rw [if_pos hz]
      refine ⟨v1, v2, v3, (decP v4).1.map toS, p4, 0, Ev.congr hun (Ev.bind h1 (Ev.bind h2 (Ev.bind h3 (Ev.bind h4 ?_)))), rfl, rfl, g0, g1, rfl⟩
      simp only [qDv v4 hb4, Option.bind_some, hz, if_true, qBR hx2]
      exact Ev.now _
     rw [if_neg hz]
     refine ⟨v1, v2, v3, (decP v4).1.map toS, p4, 52, Ev.congr hun (Ev.bind h1 (Ev.bind h2 (Ev.bind h3 (Ev.bind h4 ?_)))), (by show (52 : Int) ≠ 0; decide)⟩
     simp only [qDv v4 hb4, Option.bind_some, hz, if_false, qBR hx2, qAP.f, if_true]
     exact Ev.now _
theorem qEV (p e : Int) (he : e ≠ 0) : qAu.f f0 p e = some (0, p, e) := by simp [qAu.f, he]
theorem short_err (p e : Int) (he : e ≠ 0) : qAU.f f0 p e = some (0, p, e) := by simp [qAU.f, he]
theorem long_err (p e : Int) (he : e ≠ 0) : qBj.f f0 p e = some (0, p, e) := by simp [qBj.f, he]
theorem int_err (p e : Int) (he : e ≠ 0) : qAT.f f0 p e = some (0, p, e) := by simp [qAT.f, he]
theorem raw_err (most p e : Int) (he : e ≠ 0) : qAC.f f0 p e most = some ([], p, e) := by unfold qAC.f; rw [if_pos he]
theorem qDT (most p e : Int) (he : e ≠ 0) : qAA.f f0 p e most = some (strOfNums [], p, e) := by unfold qAA.f; rw [raw_err f0 most p e he]; rfl
theorem done_err (p e : Int) (he : e ≠ 0) : qBi.f f0 p e = some (e, p, e) := by
 unfold qBi.f qB3.f qAL.f
 simp [he]
abbrev Res := ByteArray × List S85 × List S92 × List S104 × Int
def errP : Res := (⟨#[]⟩, [], [], [], 52)
def tailP (x0 : List Int) (o : Obj4) (k : Nat) : Option Res := (qBw.f o.1 o.2.1 o.2.2.1 o.2.2.2).bind fun b => (if b.2 = 0 then ((qA8.f k x0 b.1).bind fun t => (if t = true then some (o.1, o.2.1, o.2.2.1, o.2.2.2, 0) else some errP)) else some errP)
theorem j6_bad (x0 : List Int) (n p e : Int) (he : e ≠ 0) (m : ByteArray) (vs : List S85) (fs : List S92) (acc : List S104) : Ev (fun k => qAd.j6 k x0 n false f0 p e m vs fs acc) errP := by
 refine Ev.step (f := fun _ => some errP) (fun k => ?_) (Ev.now _)
 simp only [qAd.j6]
 rw [if_neg (by decide), done_err f0 p e he]
 simp only [Option.bind_some]
 rw [if_neg he]; rfl
theorem l3_bad (x0 : List Int) (n p e : Int) (he : e ≠ 0) (m : ByteArray) (vs : List S85) (fs : List S92) (acc : List S104) : Ev (fun k => qAd.l3 k x0 n f0 p e m vs fs acc) errP := by
 refine Ev.step (fun k => ?_) (j6_bad f0 x0 n p e he m vs fs acc)
 simp only [qAd.l3, qAL.f, Option.bind_some, beq_eq_false_iff_ne.mpr he, ite_self]
theorem j4_bad (x0 : List Int) (n p e : Int) (he : e ≠ 0) (m : ByteArray) (vs : List S85) (fs : List S92) : Ev (fun k => qAd.j4 k x0 n false f0 p e m vs fs) errP := by
 refine Ev.step (fun k => ?_) (l3_bad f0 x0 0 p e he m vs fs [])
 simp only [qAd.j4]
 rw [if_neg (by decide), int_err f0 p e he]; rfl
theorem l2_bad (x0 : List Int) (n p e : Int) (he : e ≠ 0) (m : ByteArray) (vs : List S85) (fs : List S92) : Ev (fun k => qAd.l2 k x0 n f0 p e m vs fs) errP := by
 refine Ev.step (fun k => ?_) (j4_bad f0 x0 n p e he m vs fs)
 simp only [qAd.l2, qAL.f, Option.bind_some, beq_eq_false_iff_ne.mpr he, ite_self]
theorem j2_bad (x0 : List Int) (n p e : Int) (he : e ≠ 0) (m : ByteArray) (vs : List S85) : Ev (fun k => qAd.j2 k x0 n false f0 p e m vs) errP := by
 refine Ev.step (fun k => ?_) (l2_bad f0 x0 0 p e he m vs [])
 simp only [qAd.j2]
 rw [if_neg (by decide), int_err f0 p e he]; rfl
theorem l1_bad (x0 : List Int) (n p e : Int) (he : e ≠ 0) (m : ByteArray) (vs : List S85) : Ev (fun k => qAd.l1 k x0 n f0 p e m vs) errP := by
 refine Ev.step (fun k => ?_) (j2_bad f0 x0 n p e he m vs)
 simp only [qAd.l1, qAL.f, Option.bind_some, beq_eq_false_iff_ne.mpr he, ite_self]
theorem done_end (p : Int) (hp : Pl f0 p) (h : f0.drop p.toNat = []) : qBi.f f0 p 0 = some (0, p, 0) := by
 have h1 := hp.1; have h2 := hp.2
 have h3 := congrArg List.length h
 rw [List.length_drop] at h3
 simp only [List.length_nil] at h3
 unfold qBi.f qB3.f qAL.f
 simp only [Option.bind_some, if_true]
 rw [if_neg (by omega)]
theorem done_more (p : Int) (hp : Pl f0 p) (h : f0.drop p.toNat ≠ []) : qBi.f f0 p 0 = some (41, p, 0) := by
 have h1 := hp.1; have h2 := hp.2
 have h3 : 0 < (f0.drop p.toNat).length := List.length_pos_iff.2 h
 rw [List.length_drop] at h3
 unfold qBi.f qB3.f qAL.f
 simp only [Option.bind_some, if_true]
 rw [if_pos (by omega)]
theorem l3_good (hb : qBn f0) (x0 : List Int) (m : ByteArray) (vs : List S85) (fs : List S92) (R : Res) : ∀ (n : Nat) (p : Int) (acc : List S104), Pl f0 p → acc.length + n ≤ 2147483647 → Fin (tailP x0) errP (qFj n m vs fs acc (f0.drop p.toNat)) R →
  Ev (fun k => qAd.l3 k x0 (n : Int) f0 p 0 m vs fs acc) R := by
 intro n
 induction n with
 | zero =>
  intro p acc hp hn hF
  refine Ev.step (f := fun k => qAd.j6 k x0 0 false f0 p 0 m vs fs acc) (fun k => ?_) ?_
  ·simp only [qAd.l3]; rw [if_neg (by decide)]; rfl
  simp only [qFj, endO] at hF
  by_cases hr : f0.drop p.toNat = []
  ·rw [if_pos hr] at hF
   refine Ev.step (f := tailP x0 (m, vs, fs, acc)) (fun k => ?_) (hF.yes _ rfl)
   simp only [qAd.j6]
   rw [if_neg (by decide), done_end f0 p hp hr]; rfl
  rw [if_neg hr] at hF
  rw [hF.no rfl]
  refine Ev.step (f := fun _ => some errP) (fun k => ?_) (Ev.now _)
  simp only [qAd.j6]
  rw [if_neg (by decide), done_more f0 p hp hr]; rfl
 | succ n ih =>
  intro p acc hp hn hF
  simp only [qFj, relP, Option.bind_assoc, Option.bind_some] at hF
  have hw : wrap64 (((n + 1 : Nat) : Int) - 1) = (n : Int) := by unfold wrap64; omega
  have hlen : acc.length < 2513169434916 := by omega
  refine Ev.step (f := fun k => qAd.j6 k x0 ((n + 1 : Nat) : Int) true f0 p 0 m vs fs acc) (fun k => ?_) (Ev.step (f := fun k => (qAU.f f0 p 0).bind fun b1 => ((qAU.f f0 b1.2.1 b1.2.2).bind fun b2 => ((qAu.f f0 b2.2.1 b2.2.2).bind fun b3 => ((qAA.f f0 b3.2.1 b3.2.2 32).bind fun b4 => ((qAA.f f0 b4.2.1 b4.2.2 32).bind fun b5 => qAd.l3 k x0 (n : Int) f0 b5.2.1 b5.2.2 m vs fs (acc ++ [⟨b1.1, b2.1, wrap64 b3.1, b4.1, b5.1⟩])))))) (fun k => ?_) ?_)
  ·simp only [qAd.l3, qAL.f, Option.bind_some]; rw [if_pos (by omega)]; rfl
  ·simp only [qAd.j6, if_true, hw]
   simp only [hlen, if_true]
  have bad : ∀ (x : List S104) (p e : Int), e ≠ 0 → R = errP → Ev (fun k => qAd.l3 k x0 (n : Int) f0 p e m vs fs x) R := fun x p e he hR => hR ▸ l3_bad f0 x0 n p e he m vs fs x
  refine Rd.fin (short_good f0 hb p hp) hF (fun x1 p1 hp1 hs1 hF1 => ?_) (fun x1 p1 e he hR => ?_)
  ·refine Rd.fin (short_good f0 hb p1 hp1) hF1 (fun x2 p2 hp2 hs2 hF2 => ?_) (fun x2 p2 e he hR => ?_)
   ·refine Rd.fin (qD7 f0 hb p2 hp2) hF2 (fun x3 p3 hp3 hs3 hF3 => ?_) (fun x3 p3 e he hR => ?_)
    ·refine Rd.fin (qD8 f0 hb 32 (by decide) p3 hp3) hF3 (fun x4 p4 hp4 hs4 hF4 => ?_) (fun x4 p4 e he hR => ?_)
     ·refine Rd.fin (qD8 f0 hb 32 (by decide) p4 hp4) hF4 (fun x5 p5 hp5 hs5 hF5 => ?_) (fun x5 p5 e he hR => ?_)
      ·simp only [qBR (qB1 (qBu hb _) hs3)]
       exact ih p5 _ hp5 (by simp; omega) hF5
      exact bad _ _ _ he hR
     simp only [qDT f0 _ _ _ he, Option.bind_some]; exact bad _ _ _ he hR
    simp only [qDT f0 _ _ _ he, Option.bind_some]; exact bad _ _ _ he hR
   simp only [qEV f0 _ _ he, qDT f0 _ _ _ he, Option.bind_some]; exact bad _ _ _ he hR
  simp only [short_err f0 _ _ he, qEV f0 _ _ he, qDT f0 _ _ _ he, Option.bind_some]; exact bad _ _ _ he hR
theorem RdF.fin {σ γ : Type} {g : Nat → Option (List Int × Int × List Int × List S144 × Int × Int)} {s : Option (Fn4 × List Int)} {h : Nat → List Int × Int × List Int × List S144 × Int × Int → Option γ} {t : Fn4 × List Int → Option σ} {tail : σ → Nat → Option γ} {err R : γ} (hg : RdF f0 g s) (hF : Fin tail err (s.bind t) R)
  (good : ∀ a b c d p, Pl f0 p → s = some ((a, b, c, d), f0.drop p.toNat) → Fin tail err (t ((a, b, c, d), f0.drop p.toNat)) R → Ev (fun k => h k (a, b, c, d, p, 0)) R) (bad : ∀ a b c d p e, e ≠ 0 → R = err → Ev (fun k => h k (a, b, c, d, p, e)) R) : Ev (fun k => (g k).bind (h k)) R := by
 obtain ⟨a, b, c, d, p, e, hv, hs⟩ := hg
 cases s with
 | none => exact Ev.bind hv (bad a b c d p e hs (hF.no rfl))
 | some x =>
  obtain ⟨x, r⟩ := x
  obtain ⟨rfl, rfl, h0, h1, rfl⟩ := hs
  exact Ev.bind hv (good a b c d p ⟨h0, h1⟩ rfl ⟨fun o ho => hF.yes o ho, fun hn => hF.no hn⟩)
theorem l2_good (hb : qBn f0) (x0 : List Int) (m : ByteArray) (vs : List S85) (R : Res) : ∀ (n : Nat) (p : Int) (acc : List S92), Pl f0 p → acc.length + n ≤ 2147483647 → Fin (tailP x0) errP (fnsC n m vs acc (f0.drop p.toNat)) R →
  Ev (fun k => qAd.l2 k x0 (n : Int) f0 p 0 m vs acc) R := by
 intro n
 induction n with
 | zero =>
  intro p acc hp hn hF
  refine Ev.step (f := fun k => qAd.j4 k x0 0 false f0 p 0 m vs acc) (fun k => ?_) (Ev.step (f := fun k => (qAT.f f0 p 0).bind fun b => qAd.l3 k x0 b.1 f0 b.2.1 b.2.2 m vs acc []) (fun k => ?_) ?_)
  ·simp only [qAd.l2]; rw [if_neg (by decide)]; rfl
  ·simp only [qAd.j4]; rw [if_neg (by decide)]
  simp only [fnsC, relsI] at hF
  refine Rd.fin (int_good f0 hb p hp) hF (fun x1 p1 hp1 hs1 hF1 => ?_) (fun x1 p1 e he hR => ?_)
  ·have hx := qBS _ (qBu hb _) _ hs1
   obtain ⟨q, rfl⟩ := Int.eq_ofNat_of_zero_le hx.1
   exact l3_good f0 hb x0 m vs acc R q p1 [] hp1 (by have := hx.2; simp only at this; simp; omega) hF1
  exact hR ▸ l3_bad f0 x0 x1 p1 e he m vs acc []
 | succ n ih =>
  intro p acc hp hn hF
  simp only [fnsC, nfnP, Option.bind_assoc, Option.bind_some] at hF
  have hw : wrap64 (((n + 1 : Nat) : Int) - 1) = (n : Int) := by unfold wrap64; omega
  have hlen : acc.length < 1466015503701 := by omega
  refine Ev.step (f := fun k => qAd.j4 k x0 ((n + 1 : Nat) : Int) true f0 p 0 m vs acc) (fun k => ?_) (Ev.step (f := fun k => (qAA.f f0 p 0 32).bind fun b1 => ((qBF.f k f0 b1.2.1 b1.2.2).bind fun b2 => qAd.l2 k x0 (n : Int) f0 b2.2.2.2.2.1 b2.2.2.2.2.2 m vs (acc ++ [⟨b1.1, ⟨⟨b2.1, b2.2.1⟩, b2.2.2.1, b2.2.2.2.1⟩⟩]))) (fun k => ?_) ?_)
  ·simp only [qAd.l2, qAL.f, Option.bind_some]; rw [if_pos (by omega)]; rfl
  ·simp only [qAd.j4, if_true, hw]
   simp only [hlen, if_true]
  have bad : ∀ (x : List S92) (p e : Int), e ≠ 0 → R = errP → Ev (fun k => qAd.l2 k x0 (n : Int) f0 p e m vs x) R := fun x p e he hR => hR ▸ l2_bad f0 x0 n p e he m vs x
  refine Rd.fin (qD8 f0 hb 32 (by decide) p hp) hF (fun x1 p1 hp1 hs1 hF1 => ?_) (fun x1 p1 e he hR => ?_)
  ·refine RdF.fin f0 (readFn_good f0 hb p1 hp1) hF1 (fun a b c d p2 hp2 hs2 hF2 => ?_) (fun a b c d p2 e he hR => ?_)
   ·exact ih p2 _ hp2 (by simp; omega) hF2
   exact bad _ _ _ he hR
  obtain ⟨a, b, c, d, hrf⟩ := readFn_bad f0 p1 e he
  exact Ev.bind hrf (bad _ _ _ he hR)
theorem l1_good (hb : qBn f0) (x0 : List Int) (m : ByteArray) (R : Res) : ∀ (n : Nat) (p : Int) (acc : List S85), Pl f0 p → acc.length + n ≤ 2147483647 → Fin (tailP x0) errP (qEY n m acc (f0.drop p.toNat)) R →
  Ev (fun k => qAd.l1 k x0 (n : Int) f0 p 0 m acc) R := by
 intro n
 induction n with
 | zero =>
  intro p acc hp hn hF
  refine Ev.step (f := fun k => qAd.j2 k x0 0 false f0 p 0 m acc) (fun k => ?_) (Ev.step (f := fun k => (qAT.f f0 p 0).bind fun b => qAd.l2 k x0 b.1 f0 b.2.1 b.2.2 m acc []) (fun k => ?_) ?_)
  ·simp only [qAd.l1]; rw [if_neg (by decide)]; rfl
  ·simp only [qAd.j2]; rw [if_neg (by decide)]
  simp only [qEY, fnsI] at hF
  refine Rd.fin (int_good f0 hb p hp) hF (fun x1 p1 hp1 hs1 hF1 => ?_) (fun x1 p1 e he hR => ?_)
  ·have hx := qBS _ (qBu hb _) _ hs1
   obtain ⟨q, rfl⟩ := Int.eq_ofNat_of_zero_le hx.1
   exact l2_good f0 hb x0 m acc R q p1 [] hp1 (by have := hx.2; simp only at this; simp; omega) hF1
  exact hR ▸ l2_bad f0 x0 x1 p1 e he m acc []
 | succ n ih =>
  intro p acc hp hn hF
  simp only [qEY, varP, Option.bind_assoc, Option.bind_some] at hF
  have hw : wrap64 (((n + 1 : Nat) : Int) - 1) = (n : Int) := by unfold wrap64; omega
  have hlen : acc.length < 4398046511104 := by omega
  refine Ev.step (f := fun k => qAd.j2 k x0 ((n + 1 : Nat) : Int) true f0 p 0 m acc) (fun k => ?_) (Ev.step (f := fun k => (qAA.f f0 p 0 32).bind fun b1 => ((qAu.f f0 b1.2.1 b1.2.2).bind fun b2 => ((qBj.f f0 b2.2.1 b2.2.2).bind fun b3 => qAd.l1 k x0 (n : Int) f0 b3.2.1 b3.2.2 m (acc ++ [⟨b1.1, ⟨wrap64 b2.1, b3.1⟩⟩])))) (fun k => ?_) ?_)
  ·simp only [qAd.l1, qAL.f, Option.bind_some]; rw [if_pos (by omega)]; rfl
  ·simp only [qAd.j2, if_true, hw]
   simp only [hlen, if_true]
  have bad : ∀ (x : List S85) (p e : Int), e ≠ 0 → R = errP → Ev (fun k => qAd.l1 k x0 (n : Int) f0 p e m x) R := fun x p e he hR => hR ▸ l1_bad f0 x0 n p e he m x
  refine Rd.fin (qD8 f0 hb 32 (by decide) p hp) hF (fun x1 p1 hp1 hs1 hF1 => ?_) (fun x1 p1 e he hR => ?_)
  ·refine Rd.fin (qD7 f0 hb p1 hp1) hF1 (fun x2 p2 hp2 hs2 hF2 => ?_) (fun x2 p2 e he hR => ?_)
   ·refine Rd.fin (long_good f0 hb p2 hp2) hF2 (fun x3 p3 hp3 hs3 hF3 => ?_) (fun x3 p3 e he hR => ?_)
    ·simp only [qBR (qB1 (qBu hb _) hs2)]
     exact ih p3 _ hp3 (by simp; omega) hF3
    exact bad _ _ _ he hR
   simp only [long_err f0 _ _ he, Option.bind_some]; exact bad _ _ _ he hR
  simp only [qEV f0 _ _ he, long_err f0 _ _ he, Option.bind_some]; exact bad _ _ _ he hR
def MK : List Int := [102, 111, 98, 106]
theorem mk_rd (i : Int) (h0 : 0 ≤ i) (h : i < 4) : rd MK i ≠ 0 ∧ rd MK i = MK.getD i.toNat 0 := by
 refine ⟨?_, rfl⟩
 have hc : i = 0 ∨ i = 1 ∨ i = 2 ∨ i = 3 := by omega
 rcases hc with rfl | rfl | rfl | rfl <;> decide
theorem l0_bad (x0 : List Int) (p e : Int) (he : e ≠ 0) : ∀ (d : Nat) (i : Int), 0 ≤ i → 4 - i = d → Ev (fun k => qAd.l0 k x0 MK 4 i f0 p e) errP := by
 intro d
 induction d with
 | zero =>
  intro i h0 hd
  refine Ev.step (fun k => ?_) (l1_bad f0 x0 0 p e he (strOfNums []) [])
  simp only [qAd.l0]
  rw [if_neg (by omega), qDT f0 32 p e he]
  simp only [Option.bind_some, int_err f0 p e he]
 | succ d ih =>
  intro i h0 hd
  refine Ev.step (fun k => ?_) (ih (i + 1) (by omega) (by omega))
  simp only [qAd.l0]
  rw [if_pos (by omega), if_pos h0, if_pos (by show i < 4; omega), qEV f0 p e he]
  simp only [Option.bind_some]
  rw [if_neg (fun hh => (mk_rd i h0 (by omega)).1 hh.symm), show wrap64 (i + 1) = i + 1 from by unfold wrap64; omega]
  simp only [qAP.f, if_neg he, Option.bind_some]
theorem l0_good (hb : qBn f0) (x0 : List Int) (R : Res) : ∀ (d : Nat) (i : Int), 0 ≤ i → 4 - i = d → i ≤ f0.length → Fin (tailP x0) errP (if (f0.drop i.toNat).take d = MK.drop i.toNat then objC (f0.drop 4) else none) R →
  Ev (fun k => qAd.l0 k x0 MK 4 i f0 i 0) R := by
 intro d
 induction d with
 | zero =>
  intro i h0 hd hl hF
  have hi : i = 4 := by omega
  subst hi
  rw [if_pos (by rfl)] at hF
  have hp : Pl f0 4 := ⟨by omega, hl⟩
  refine Ev.step (f := fun k => (qAA.f f0 4 0 32).bind fun b1 => ((qAT.f f0 b1.2.1 b1.2.2).bind fun b2 => qAd.l1 k x0 b2.1 f0 b2.2.1 b2.2.2 b1.1 [])) (fun k => ?_) ?_
  ·simp only [qAd.l0]; rw [if_neg (by omega)]
  unfold objC at hF
  refine Rd.fin (qD8 f0 hb 32 (by decide) 4 hp) hF (fun x1 p1 hp1 hs1 hF1 => ?_) (fun x1 p1 e he hR => ?_)
  ·refine Rd.fin (int_good f0 hb p1 hp1) hF1 (fun x2 p2 hp2 hs2 hF2 => ?_) (fun x2 p2 e he hR => ?_)
   ·have hx := qBS _ (qBu hb _) _ hs2
    obtain ⟨q, rfl⟩ := Int.eq_ofNat_of_zero_le hx.1
    exact l1_good f0 hb x0 x1 R q p2 [] hp2 (by have := hx.2; simp only at this; simp; omega) hF2
   exact hR ▸ l1_bad f0 x0 x2 p2 e he x1 []
  simp only [int_err f0 _ _ he, Option.bind_some]
  exact hR ▸ l1_bad f0 x0 0 p1 e he x1 []
 | succ d ih =>
  intro i h0 hd hl hF
  have hi4 : i < 4 := by omega
  obtain ⟨m1, m2⟩ := mk_rd i h0 hi4
  have hmk := qC2 MK 0 i h0 (by show i < 4; omega)
  rw [← m2] at hmk
  have hw : wrap64 (i + 1) = i + 1 := by unfold wrap64; omega
  by_cases hlt : i < f0.length
  rotate_left
  ·have hnil : f0.drop i.toNat = [] := List.drop_eq_nil_of_le (by omega)
   rw [hnil, hmk] at hF
   rw [if_neg (by simp)] at hF
   rw [hF.no rfl]
   refine Ev.step (fun k => ?_) (l0_bad f0 x0 i 40 (by decide) d (i + 1) (by omega) (by omega))
   simp only [qAd.l0]
   rw [if_pos hi4, if_pos h0, if_pos (by show i < 4; omega), show qAu.f f0 i 0 = some (0, i, 40) from by simp [qAu.f, hlt]]
   simp only [Option.bind_some]
   rw [if_neg (fun hh => m1 hh.symm), hw]
   simp only [qAP.f, Option.bind_some]; rfl
  have hc := qC2 f0 0 i h0 hlt
  rw [hc, hmk, List.take_succ_cons] at hF
  have hby : qAu.f f0 i 0 = some (f0.getD i.toNat 0, i + 1, 0) := by simp [qAu.f, hlt]
  by_cases he : f0.getD i.toNat 0 = rd MK i
  ·refine Ev.step (fun k => ?_) (ih (i + 1) (by omega) (by omega) (by omega) ?_)
   ·simp only [qAd.l0]
    rw [if_pos hi4, if_pos h0, if_pos (by show i < 4; omega), hby]
    simp only [Option.bind_some]
    rw [if_pos he, hw]
   rw [he] at hF
   simpa using hF
  have hne : ¬ (f0.getD i.toNat 0 :: (f0.drop (i + 1).toNat).take d = rd MK i :: MK.drop (i + 1).toNat) := fun hh => he (List.cons.inj hh).1
  rw [if_neg hne] at hF
  rw [hF.no rfl]
  refine Ev.step (fun k => ?_) (l0_bad f0 x0 (i + 1) 52 (by decide) d (i + 1) (by omega) (by omega))
  simp only [qAd.l0]
  rw [if_pos hi4, if_pos h0, if_pos (by show i < 4; omega), hby]
  simp only [Option.bind_some]
  rw [if_neg he, hw]
  simp only [qAP.f, if_true, Option.bind_some]
def qF0 (b : List Int) : Option Obj4 := if b.take 4 = MK then objC (b.drop 4) else none
theorem qFo (hb : qBn f0) (R : Res) (h4 : ¬ 16384 < f0.length) (hF : Fin (tailP f0) errP (qF0 f0) R) : Ev (fun k => qAd.f k f0) R := by
 refine Ev.congr (f := fun k => qAd.l0 k f0 MK 4 0 f0 0 0) (fun k => ?_) (l0_good f0 hb f0 R 4 0 (by omega) (by omega) (by omega) hF)
 unfold qAd.f qCQ.f
 rw [if_neg (by omega), if_pos (by omega)]; rfl
theorem unpack_big (h4 : 16384 < f0.length) : Ev (fun k => qAd.f k f0) ((⟨#[]⟩, [], [], [], 3) : Res) := by
 refine Ev.congr (f := fun _ => some ((⟨#[]⟩, [], [], [], 3) : Res)) (fun k => ?_) (Ev.now _)
 unfold qAd.f
 rw [if_pos (by omega)]
end
end Q
end
section
namespace Q
open Go.RowKit PA PC PB
open DecLaw Wr Enc Val
theorem qEl {r : List Int} {a : Int × List Int} (h : qCU r = some a) : r = [a.1] ++ a.2 := by
 cases r with
 | nil => cases h
 | cons x r => obtain rfl := Option.some.inj h; rfl
theorem numP_eq {m : Nat} {r : List Int} (hb : qBn r) {a : Int × List Int} (h : numP m r = some a) : r = be a.1 m m ++ a.2 := by
 unfold numP at h
 split at h
 ·rename_i hl
  obtain rfl := Option.some.inj h
  rw [qFm m _ (by rw [List.length_take]; omega) (qCs hb m), List.take_append_drop]
 cases h
theorem intP_wr {r : List Int} (hb : qBn r) {a : Int × List Int} (h : intP r = some a) : r = be a.1 4 4 ++ a.2 := by
 rw [intP_eq] at h
 cases hn : numP 4 r with
 | none => rw [hn] at h; cases h
 | some b =>
  rw [hn] at h
  simp only [Option.bind_some] at h
  split at h
  ·obtain rfl := Option.some.inj h; exact numP_eq hb hn
  cases h
theorem qB5 {r a b : List Int} (hb : qBn r) (h : r = a ++ b) : qBn b := fun x hx => hb x (by rw [h]; exact List.mem_append_right _ hx)
theorem rawP_wr {most : Int} {r : List Int} (hb : qBn r) {a : List Int × List Int} (h : rawP most r = some a) : r = rawB a.1 ++ a.2 ∧ (a.1.length : Int) ≤ most := by
 unfold rawP at h
 cases hi : intP r with
 | none => rw [hi] at h; cases h
 | some b =>
  rw [hi] at h
  simp only [Option.bind_some] at h
  split at h
  ·rename_i hq
   obtain rfl := Option.some.inj h
   have hn := qBS r hb b hi
   have hw := intP_wr hb hi
   have hlen : (b.2.take b.1.toNat).length = b.1.toNat := by rw [List.length_take]; omega
   refine ⟨?_, by simp only; rw [hlen]; omega⟩
   unfold rawB
   simp only
   rw [hlen, show ((b.1.toNat : Nat) : Int) = b.1 from by omega, List.append_assoc, List.take_append_drop]
   exact hw
  cases h
theorem qED (l : List Int) (hb : qBn l) : qCm (strOfNums l) = l := by
 unfold qCm
 rw [strOfNums_data, List.map_map]
 conv => rhs; rw [← List.map_id l]
 refine List.map_congr_left fun x hx => ?_
 have := hb x hx
 simp only [Function.comp, id]
 rw [UInt8.toNat_ofNat']
 omega
theorem qEq {most : Int} {r : List Int} (hb : qBn r) {a : ByteArray × List Int} (h : qDH most r = some a) : r = rawB (qCm a.1) ++ a.2 ∧ (a.1.size : Int) ≤ most := by
 unfold qDH at h
 cases hr : rawP most r with
 | none => rw [hr] at h; cases h
 | some b =>
  rw [hr] at h
  simp only [Option.map_some, Option.some.injEq] at h
  subst h
  obtain ⟨h1, h2⟩ := rawP_wr hb hr
  have hbb := qE5 hb hr
  simp only
  rw [qED _ hbb, strOfNums_size]
  exact ⟨h1, h2⟩
theorem bytesP_wr : ∀ (n : Nat) (acc : List Int) (r : List Int) (a : List Int × List Int), qBn r → qCV n acc r = some a → ∃ l, a.1 = acc ++ l ∧ l.length = n ∧ qBn l ∧ r = l ++ a.2
 | 0, acc, r, a, hb, h => by
  simp only [qCV, Option.some.injEq] at h
  subst h
  exact ⟨[], by simp, rfl, (fun y hy => by cases hy), rfl⟩
 | n + 1, acc, r, a, hb, h => by
  simp only [qCV] at h
  cases hx : qCU r with
  | none => rw [hx] at h; cases h
  | some b =>
   rw [hx] at h
   simp only [Option.bind_some] at h
   have e := qEl hx
   obtain ⟨l, h1, h2, h3, h4⟩ := bytesP_wr n _ _ a (qB5 hb e) h
   refine ⟨b.1 :: l, by rw [h1]; simp, by simp [h2], fun y hy => ?_, by rw [e, h4]; rfl⟩
   rcases List.mem_cons.1 hy with e2 | hy
   ·rw [e2]; exact qB1 hb hx
   exact h3 y hy
theorem byB_id {l : List Int} (hb : qBn l) : byB l = l := by
 unfold byB
 conv => rhs; rw [← List.map_id l]
 exact List.map_congr_left fun x hx => by have := hb x hx; simp only [id]; omega
theorem kindsP_wr {r : List Int} (hb : qBn r) {a : List Int × List Int} (h : qCX r = some a) : r = ([(a.1.length : Int) % 256] ++ byB a.1) ++ a.2 ∧ a.1.length ≤ 255 := by
 unfold qCX at h
 cases hx : qCU r with
 | none => rw [hx] at h; cases h
 | some b =>
  rw [hx] at h
  simp only [Option.bind_some] at h
  have e := qEl hx
  have hbd := qB1 hb hx
  obtain ⟨l, h1, h2, h3, h4⟩ := bytesP_wr b.1.toNat [] _ a (qB5 hb e) h
  rw [List.nil_append] at h1
  rw [h1, byB_id h3, h2]
  refine ⟨?_, by omega⟩
  rw [show (((b.1.toNat : Nat) : Int)) % 256 = b.1 from by omega, List.append_assoc, ← h4]
  exact e
theorem map_toD_toS (l : List InsD) : (l.map toS).map toD = l := by
 rw [List.map_map]
 conv => rhs; rw [← List.map_id l]
 exact List.map_congr_left fun x _ => rfl
theorem decP_ok {c : List Int} (h : (decP c).2 = 0) : DecOk c (decP c).1 := by
 unfold decP at h ⊢
 rcases decL_spec c (c.length + 1) [] c (by omega) (by simp) (by simp) (by simp [encB]) with ⟨m, hm, hok⟩ | ⟨hm, _⟩ | ⟨hm, _⟩
 ·rw [hm]; exact hok
 ·rw [hm] at h; cases h
 rw [hm] at h; cases h
theorem codeP_wr {r : List Int} (hb : qBn r) {a : List S144 × List Int} (h : qDt r = some a) : r = rawB (encB (a.1.map toD)) ++ a.2 ∧ a.1.length ≤ 4096 ∧ a.1.all u64S = true := by
 unfold qDt at h
 cases hr : rawP 16384 r with
 | none => rw [hr] at h; cases h
 | some b =>
  rw [hr] at h
  simp only [Option.bind_some] at h
  split at h
  ·rename_i hz
   obtain rfl := Option.some.inj h
   obtain ⟨h1, h2, h3⟩ := decP_ok hz
   have e : ((decP b.1).1.map toS).map toD = (decP b.1).1 := map_toD_toS _
   refine ⟨?_, by simpa using h2, List.all_eq_true.2 fun x hx => ?_⟩
   ·simp only; rw [e, ← h3]; exact (rawP_wr hb hr).1
   obtain ⟨y, hy, rfl⟩ := List.mem_map.1 hx
   exact decide_eq_true ((h1 y hy).2)
  cases h
theorem fnP_wr {r : List Int} (hb : qBn r) {a : Fn4 × List Int} (h : fnP r = some a) : r = fnB a.1.1 a.1.2.1 a.1.2.2.1 a.1.2.2.2 ++ a.2 ∧ a.1.1.length ≤ 255 ∧ a.1.2.2.1.length ≤ 255 ∧ a.1.2.2.2.length ≤ 4096 ∧ a.1.2.2.2.all u64S = true := by
 unfold fnP at h
 cases h1 : qCX r with
 | none => rw [h1] at h; cases h
 | some b1 =>
  rw [h1] at h; simp only [Option.bind_some] at h
  obtain ⟨e1, l1⟩ := kindsP_wr hb h1
  have hb1 := qB5 hb e1
  cases h2 : qCU b1.2 with
  | none => rw [h2] at h; cases h
  | some b2 =>
   rw [h2] at h; simp only [Option.bind_some] at h
   have e2 := qEl h2
   have hx2 := qB1 hb1 h2
   have hb2 := qB5 hb1 e2
   cases h3 : qCX b2.2 with
   | none => rw [h3] at h; cases h
   | some b3 =>
    rw [h3] at h; simp only [Option.bind_some] at h
    obtain ⟨e3, l3⟩ := kindsP_wr hb2 h3
    have hb3 := qB5 hb2 e3
    cases h4 : qDt b3.2 with
    | none => rw [h4] at h; cases h
    | some b4 =>
     rw [h4] at h; simp only [Option.bind_some, Option.some.injEq] at h
     subst h
     obtain ⟨e4, l4, u4⟩ := codeP_wr hb3 h4
     refine ⟨?_, l1, l3, l4, u4⟩
     unfold fnB
     simp only
     rw [show b2.1 % 256 = b2.1 from by omega]
     rw [e1, e2, e3, e4]
     simp only [List.append_assoc, List.cons_append, List.nil_append]
theorem varP_wr {r : List Int} (hb : qBn r) {a : S85 × List Int} (h : varP r = some a) : r = varB a.1 ++ a.2 ∧ (qBP a.1.f0 ∧ 0 ≤ a.1.f1.f1 ∧ a.1.f1.f1 < 18446744073709551616) := by
 unfold varP at h
 cases h1 : qDH 32 r with
 | none => rw [h1] at h; cases h
 | some b1 =>
  rw [h1] at h; simp only [Option.bind_some] at h
  obtain ⟨e1, l1⟩ := qEq hb h1
  have hb1 := qB5 hb e1
  cases h2 : qCU b1.2 with
  | none => rw [h2] at h; cases h
  | some b2 =>
   rw [h2] at h; simp only [Option.bind_some] at h
   have e2 := qEl h2
   have hx2 := qB1 hb1 h2
   have hb2 := qB5 hb1 e2
   cases h3 : numP 8 b2.2 with
   | none => rw [h3] at h; cases h
   | some b3 =>
    rw [h3] at h; simp only [Option.bind_some, Option.some.injEq] at h
    subst h
    have e3 := numP_eq hb2 h3
    have hx3 := qE0 8 _ hb2 _ h3
    have e8 : (256 : Int) ^ 8 = 18446744073709551616 := by decide
    refine ⟨?_, by unfold qBP; simp only; omega, hx3.1, by rw [e8] at hx3; exact hx3.2⟩
    unfold varB
    simp only
    rw [show b2.1 % 256 = b2.1 from by omega]
    rw [e1, e2, e3]
    simp only [List.append_assoc, List.cons_append, List.nil_append]
theorem nfnP_wr {r : List Int} (hb : qBn r) {a : S92 × List Int} (h : nfnP r = some a) : r = nfnB a.1 ++ a.2 ∧ (qBP a.1.f0 ∧ a.1.f1.f0.f0.length ≤ 4611686018427387904 ∧ a.1.f1.f1.length ≤ 4611686018427387904 ∧ a.1.f1.f2.length ≤ 4611686018427387904 ∧ a.1.f1.f2.all u64S = true) := by
 unfold nfnP at h
 cases h1 : qDH 32 r with
 | none => rw [h1] at h; cases h
 | some b1 =>
  rw [h1] at h; simp only [Option.bind_some] at h
  obtain ⟨e1, l1⟩ := qEq hb h1
  have hb1 := qB5 hb e1
  cases h2 : fnP b1.2 with
  | none => rw [h2] at h; cases h
  | some b2 =>
   rw [h2] at h; simp only [Option.bind_some, Option.some.injEq] at h
   subst h
   obtain ⟨e2, g1, g2, g3, g4⟩ := fnP_wr hb1 h2
   refine ⟨?_, by unfold qBP; simp only; omega, by simp only; omega, by simp only; omega, by simp only; omega, g4⟩
   unfold nfnB
   simp only
   rw [List.append_assoc, ← e2]; exact e1
theorem relP_wr {r : List Int} (hb : qBn r) {a : S104 × List Int} (h : relP r = some a) : r = relB a.1 ++ a.2 ∧ (qBP a.1.f3 ∧ qBP a.1.f4) := by
 unfold relP at h
 cases h1 : numP 2 r with
 | none => rw [h1] at h; cases h
 | some b1 =>
  rw [h1] at h; simp only [Option.bind_some] at h
  have e1 := numP_eq hb h1
  have hb1 := qB5 hb e1
  cases h2 : numP 2 b1.2 with
  | none => rw [h2] at h; cases h
  | some b2 =>
   rw [h2] at h; simp only [Option.bind_some] at h
   have e2 := numP_eq hb1 h2
   have hb2 := qB5 hb1 e2
   cases h3 : qCU b2.2 with
   | none => rw [h3] at h; cases h
   | some b3 =>
    rw [h3] at h; simp only [Option.bind_some] at h
    have e3 := qEl h3
    have hx3 := qB1 hb2 h3
    have hb3 := qB5 hb2 e3
    cases h4 : qDH 32 b3.2 with
    | none => rw [h4] at h; cases h
    | some b4 =>
     rw [h4] at h; simp only [Option.bind_some] at h
     obtain ⟨e4, l4⟩ := qEq hb3 h4
     have hb4 := qB5 hb3 e4
     cases h5 : qDH 32 b4.2 with
     | none => rw [h5] at h; cases h
     | some b5 =>
      rw [h5] at h; simp only [Option.bind_some, Option.some.injEq] at h
      subst h
      obtain ⟨e5, l5⟩ := qEq hb4 h5
      refine ⟨?_, by unfold qBP; simp only; omega, by unfold qBP; simp only; omega⟩
      unfold relB
      simp only
      rw [show b3.1 % 256 = b3.1 from by omega]
      rw [e1, e2, e3, e4, e5]
      simp only [List.append_assoc, List.cons_append, List.nil_append]
theorem relsC_wr : ∀ (n : Nat) (m : ByteArray) (vs : List S85) (fs : List S92) (acc : List S104) (r : List Int) (o : Obj4), qBn r → qFj n m vs fs acc r = some o →
  ∃ l, o = (m, vs, fs, acc ++ l) ∧ l.length = n ∧ r = l.flatMap relB ∧ ∀ x ∈ l, qBP x.f3 ∧ qBP x.f4
 | 0, m, vs, fs, acc, r, o, hb, h => by
  simp only [qFj, endO] at h
  split at h
  ·rename_i hr
   obtain rfl := Option.some.inj h
   exact ⟨[], by simp, rfl, by simpa using hr, by simp⟩
  cases h
 | n + 1, m, vs, fs, acc, r, o, hb, h => by
  simp only [qFj] at h
  cases h1 : relP r with
  | none => rw [h1] at h; cases h
  | some b =>
   rw [h1] at h; simp only [Option.bind_some] at h
   obtain ⟨e1, g1⟩ := relP_wr hb h1
   obtain ⟨l, h2, h3, h4, h5⟩ := relsC_wr n m vs fs _ _ o (qB5 hb e1) h
   refine ⟨b.1 :: l, by rw [h2]; simp, by simp [h3], by rw [List.flatMap_cons, ← h4]; exact e1, fun x hx => ?_⟩
   rcases List.mem_cons.1 hx with e | hx
   ·rw [e]; exact g1
   exact h5 x hx
theorem fnsC_wr : ∀ (n : Nat) (m : ByteArray) (vs : List S85) (acc : List S92) (r : List Int) (o : Obj4), qBn r → fnsC n m vs acc r = some o →
  ∃ l rs, o = (m, vs, acc ++ l, rs) ∧ l.length = n ∧ r = l.flatMap nfnB ++ (be rs.length 4 4 ++ rs.flatMap relB) ∧ rs.length ≤ 2147483647 ∧ (∀ x ∈ l, qBP x.f0 ∧ x.f1.f0.f0.length ≤ 4611686018427387904 ∧ x.f1.f1.length ≤ 4611686018427387904 ∧ x.f1.f2.length ≤ 4611686018427387904 ∧ x.f1.f2.all u64S = true) ∧ ∀ x ∈ rs, qBP x.f3 ∧ qBP x.f4
 | 0, m, vs, acc, r, o, hb, h => by
  simp only [fnsC, relsI] at h
  cases h1 : intP r with
  | none => rw [h1] at h; cases h
  | some b =>
   rw [h1] at h; simp only [Option.bind_some] at h
   have e1 := intP_wr hb h1
   have hx := qBS r hb _ h1
   obtain ⟨l, h2, h3, h4, h5⟩ := relsC_wr _ m vs acc [] _ o (qB5 hb e1) h
   rw [List.nil_append] at h2
   refine ⟨[], l, by rw [h2]; simp, rfl, ?_, by omega, by simp, h5⟩
   rw [h3, show ((b.1.toNat : Nat) : Int) = b.1 from by omega, ← h4]
   simpa using e1
 | n + 1, m, vs, acc, r, o, hb, h => by
  simp only [fnsC] at h
  cases h1 : nfnP r with
  | none => rw [h1] at h; cases h
  | some b =>
   rw [h1] at h; simp only [Option.bind_some] at h
   obtain ⟨e1, g1⟩ := nfnP_wr hb h1
   obtain ⟨l, rs, h2, h3, h4, h5, h6, h7⟩ := fnsC_wr n m vs _ _ o (qB5 hb e1) h
   refine ⟨b.1 :: l, rs, by rw [h2]; simp, by simp [h3], by rw [List.flatMap_cons, List.append_assoc, ← h4]; exact e1, h5, fun x hx => ?_, h7⟩
   rcases List.mem_cons.1 hx with e | hx
   ·rw [e]; exact g1
   exact h6 x hx
theorem varsC_wr : ∀ (n : Nat) (m : ByteArray) (acc : List S85) (r : List Int) (o : Obj4), qBn r → qEY n m acc r = some o →
  ∃ l fs rs, o = (m, acc ++ l, fs, rs) ∧ l.length = n ∧ r = l.flatMap varB ++ ((be fs.length 4 4 ++ fs.flatMap nfnB) ++ (be rs.length 4 4 ++ rs.flatMap relB)) ∧ fs.length ≤ 2147483647 ∧ rs.length ≤ 2147483647 ∧ (∀ x ∈ l, qBP x.f0 ∧ 0 ≤ x.f1.f1 ∧ x.f1.f1 < 18446744073709551616) ∧ (∀ x ∈ fs, qBP x.f0 ∧ x.f1.f0.f0.length ≤ 4611686018427387904 ∧ x.f1.f1.length ≤ 4611686018427387904 ∧ x.f1.f2.length ≤ 4611686018427387904 ∧ x.f1.f2.all u64S = true) ∧ ∀ x ∈ rs, qBP x.f3 ∧ qBP x.f4
 | 0, m, acc, r, o, hb, h => by
  simp only [qEY, fnsI] at h
  cases h1 : intP r with
  | none => rw [h1] at h; cases h
  | some b =>
   rw [h1] at h; simp only [Option.bind_some] at h
   have e1 := intP_wr hb h1
   have hx := qBS r hb _ h1
   obtain ⟨l, rs, h2, h3, h4, h5, h6, h7⟩ := fnsC_wr _ m acc [] _ o (qB5 hb e1) h
   rw [List.nil_append] at h2
   refine ⟨[], l, rs, by rw [h2]; simp, rfl, ?_, by omega, h5, by simp, h6, h7⟩
   rw [h3, show ((b.1.toNat : Nat) : Int) = b.1 from by omega, List.append_assoc, ← h4]
   simpa using e1
 | n + 1, m, acc, r, o, hb, h => by
  simp only [qEY] at h
  cases h1 : varP r with
  | none => rw [h1] at h; cases h
  | some b =>
   rw [h1] at h; simp only [Option.bind_some] at h
   obtain ⟨e1, g1⟩ := varP_wr hb h1
   obtain ⟨l, fs, rs, h2, h3, h4, h5, h5', h6, h7, h8⟩ := varsC_wr n m _ _ o (qB5 hb e1) h
   refine ⟨b.1 :: l, fs, rs, by rw [h2]; simp, by simp [h3], by rw [List.flatMap_cons, List.append_assoc, ← h4]; exact e1, h5, h5', fun x hx => ?_, h7, h8⟩
   rcases List.mem_cons.1 hx with e | hx
   ·rw [e]; exact g1
   exact h6 x hx
theorem whole_wr {b : List Int} (hb : qBn b) {o : Obj4} (h : qF0 b = some o) : b = qDp o.1 o.2.1 o.2.2.1 o.2.2.2 ∧ qD2 o.1 o.2.1 o.2.2.1 o.2.2.2 := by
 unfold qF0 at h
 split at h
 ·rename_i hmk
  unfold objC at h
  have hbd := qBu hb 4
  cases h1 : qDH 32 (b.drop 4) with
  | none => rw [h1] at h; cases h
  | some b1 =>
   rw [h1] at h; simp only [Option.bind_some] at h
   obtain ⟨e1, l1⟩ := qEq hbd h1
   have hb1 := qB5 hbd e1
   cases h2 : intP b1.2 with
   | none => rw [h2] at h; cases h
   | some b2 =>
    rw [h2] at h; simp only [Option.bind_some] at h
    have e2 := intP_wr hb1 h2
    have hx := qBS _ hb1 _ h2
    obtain ⟨l, fs, rs, h3, h4, h5, h6, h6', h7, h8, h9⟩ := varsC_wr _ b1.1 [] _ o (qB5 hb1 e2) h
    rw [List.nil_append] at h3
    subst h3
    refine ⟨?_, by unfold qBP; simp only; omega, by simp only; omega, h7, by simp only; omega, h8, by simp only; omega, h9⟩
    rw [← List.take_append_drop 4 b, hmk, e1, e2, h5]
    unfold qDp MK
    simp only
    rw [h4, show ((b2.1.toNat : Nat) : Int) = b2.1 from by omega]
    simp only [List.append_assoc]
 cases h
end Q
end
section
namespace Q
open Go.RowKit PA PC PB
open DecLaw Wr Enc Val Ins
def toSR (x : InsD) : S172 := ⟨x.op, x.n, ⟨x.ty, x.b⟩⟩
theorem i64_or_nat (a b : Nat) (ha : a < 9223372036854775808) (hb : b < 9223372036854775808) : bits .or .i64 (a : Int) (b : Int) = ((a ||| b : Nat) : Int) := by
 have hx : a ||| b < 2 ^ 63 := Nat.or_lt_two_pow (by omega) (by omega)
 show IntKind.i64.wrap ((BitVec.ofInt 64 (a : Int) ||| BitVec.ofInt 64 (b : Int)).toNat : Int) = _
 rw [BitVec.toNat_or, ofInt_u64 a (by omega), ofInt_u64 b (by omega)]
 simp [IntKind.wrap, IntKind.bits, IntKind.signed]
 omega
theorem or_low64 (v x : Int) (hv : 0 ≤ v) (hv2 : v < 1099511627776) (hx : 0 ≤ x) (hx2 : x < 256) : Go.bits .or .i64 (wrap64 (v * 256)) (wrap64 x) = v * 256 + x := by
 rw [show wrap64 (v * 256) = v * 256 from by unfold wrap64; omega, show wrap64 x = x from by unfold wrap64; omega]
 obtain ⟨n, rfl⟩ := Int.eq_ofNat_of_zero_le hv
 obtain ⟨y, rfl⟩ := Int.eq_ofNat_of_zero_le hx
 have hy : y < 2 ^ 8 := by omega
 rw [show (n : Int) * 256 = ((n * 256 : Nat) : Int) from by omega, i64_or_nat _ _ (by omega) (by omega)]
 have := Nat.shiftLeft_add_eq_or_of_lt hy n
 rw [Nat.shiftLeft_eq] at this
 rw [← this]
 omega
theorem take_succ' (l : List Int) (j : Nat) (h : j < l.length) : l.take (j + 1) = l.take j ++ [l.getD j 0] := by
 rw [List.take_succ_eq_append_getElem h, List.getD_eq_getElem?_getD, List.getElem?_eq_getElem h]; rfl
theorem bits_loop (r : List Int) (hb : qBn r) (acc : List S172) (sz op n ty : Int) (h10 : 10 ≤ r.length) (R : List S172 × Int) (hR : Ev (fun k => qAf.j4 k r acc sz op n ty (valB ((r.drop 2).take 8))) R) :
  ∀ (d j : Nat), 8 - j = d → j ≤ 8 → Ev (fun k => qAf.l1 k r acc sz ((2 + j : Nat) : Int) op n ty (valB ((r.drop 2).take j))) R := by
 intro d
 induction d with
 | zero =>
  intro j hd hj
  obtain rfl : j = 8 := by omega
  refine Ev.step (fun k => ?_) hR
  simp only [qAf.l1]; rw [if_neg (by decide)]
 | succ d ih =>
  intro j hd hj
  have hlt : j < (r.drop 2).length := by rw [List.length_drop]; omega
  have hx : (r.drop 2).getD j 0 = rd r ((2 + j : Nat) : Int) := by
   unfold rd
   rw [List.getD_eq_getElem?_getD, List.getElem?_drop, List.getD_eq_getElem?_getD]; rfl
  have hxb : 0 ≤ rd r ((2 + j : Nat) : Int) ∧ rd r ((2 + j : Nat) : Int) < 256 := by
   rw [← hx, List.getD_eq_getElem?_getD, List.getElem?_eq_getElem hlt]
   exact qBu hb 2 _ (List.getElem_mem _)
  have hvb := qC4 ((r.drop 2).take j) (qCs (qBu hb 2) j)
  have hlen : ((r.drop 2).take j).length = j := by rw [List.length_take]; omega
  rw [hlen] at hvb
  have hpw : ∀ j : Nat, j < 8 → (256 : Int) ^ j ≤ 72057594037927936 := by decide
  have hpj := hpw j (by omega)
  have hst := numStep_eq (valB ((r.drop 2).take j)) (rd r ((2 + j : Nat) : Int)) hvb.1 (by omega) hxb.1 hxb.2
  have hnext : valB ((r.drop 2).take (j + 1)) = valB ((r.drop 2).take j) * 256 + rd r ((2 + j : Nat) : Int) := by
   rw [take_succ' _ j hlt, qDe, hx]
  have hrec := ih (j + 1) (by omega) (by omega)
  rw [hnext, ← hst] at hrec
  refine Ev.step (fun k => ?_) hrec
  simp only [qAf.l1]
  rw [if_pos (by omega), if_pos (by omega), if_pos (by omega), show wrap64 (((2 + j : Nat) : Int) + 1) = ((2 + (j + 1) : Nat) : Int) from by unfold wrap64; omega]
  rfl
theorem num_loop (r : List Int) (hb : qBn r) (acc : List S172) (w : Nat) (hw : w ≤ 2) (op ty b : Int) (hl : 1 + w ≤ r.length) (R : List S172 × Int) (hR : Ev (fun k => qAf.j4 k r acc ((1 + w : Nat) : Int) op (valB ((r.drop 1).take w)) ty b) R) :
  ∀ (d j : Nat), w - j = d → j ≤ w → Ev (fun k => qAf.l2 k r acc ((1 + w : Nat) : Int) ((1 + j : Nat) : Int) op (valB ((r.drop 1).take j)) ty b) R := by
 intro d
 induction d with
 | zero =>
  intro j hd hj
  obtain rfl : j = w := by omega
  refine Ev.step (fun k => ?_) hR
  simp only [qAf.l2]; rw [if_neg (by omega)]
 | succ d ih =>
  intro j hd hj
  have hlt : j < (r.drop 1).length := by rw [List.length_drop]; omega
  have hx : (r.drop 1).getD j 0 = rd r ((1 + j : Nat) : Int) := by
   unfold rd
   rw [List.getD_eq_getElem?_getD, List.getElem?_drop, List.getD_eq_getElem?_getD]; rfl
  have hxb : 0 ≤ rd r ((1 + j : Nat) : Int) ∧ rd r ((1 + j : Nat) : Int) < 256 := by
   rw [← hx, List.getD_eq_getElem?_getD, List.getElem?_eq_getElem hlt]
   exact qBu hb 1 _ (List.getElem_mem _)
  have hvb := qC4 ((r.drop 1).take j) (qCs (qBu hb 1) j)
  have hlen : ((r.drop 1).take j).length = j := by rw [List.length_take]; omega
  rw [hlen] at hvb
  have hpw : ∀ j : Nat, j < 2 → (256 : Int) ^ j ≤ 256 := by decide
  have hpj := hpw j (by omega)
  have hst := or_low64 (valB ((r.drop 1).take j)) (rd r ((1 + j : Nat) : Int)) hvb.1 (by omega) hxb.1 hxb.2
  have hnext : valB ((r.drop 1).take (j + 1)) = valB ((r.drop 1).take j) * 256 + rd r ((1 + j : Nat) : Int) := by
   rw [take_succ' _ j hlt, qDe, hx]
  have hrec := ih (j + 1) (by omega) (by omega)
  rw [hnext, ← hst] at hrec
  refine Ev.step (fun k => ?_) hrec
  simp only [qAf.l2]
  rw [if_pos (by omega), if_pos (by omega), if_pos (by omega), show wrap64 (((1 + j : Nat) : Int) + 1) = ((1 + (j + 1) : Nat) : Int) from by unfold wrap64; omega]
theorem size_wid {op : Int} (h : sizeI op ≠ 0) : sizeI op = 1 + wid op ∧ 0 ≤ wid op ∧ (op = 1 → wid op = 9) ∧ (op ≠ 1 → wid op ≤ 2) := by
 have h1 : sizeI op = 1 + wid op := by
  unfold sizeI at h ⊢
  split at h
  ·exact absurd rfl h
  rename_i hh; rw [if_neg hh]
 refine ⟨h1, ?_, ?_, ?_⟩
 ·unfold wid; (repeat' split) <;> omega
 ·intro e; unfold wid; rw [if_pos e]
 intro e; unfold wid; rw [if_neg e]; (repeat' split) <;> omega
theorem rdec_ev (c : List Int) (hc : c.length ≤ 4294967296) : ∀ (d : Nat) (r : List Int) (l : List InsD), r.length < d → qBn r → r.length ≤ c.length → l.length ≤ 4096 →
  Ev (fun k => qAf.l0 k r (l.map toSR)) ((decL d l r).1.map toSR, (decL d l r).2) := by
 intro d
 induction d with
 | zero => intro r l h; omega
 | succ d ih =>
  intro r l hd hb hrc hl
  unfold decL
  by_cases hr : r = []
  ·subst hr
   rw [if_pos rfl]
   refine Ev.step (f := fun _ => some (l.map toSR, 0)) (fun k => ?_) (Ev.now _)
   simp only [qAf.l0]; rw [if_neg (by simp)]
  rw [if_neg hr]
  have hpos : 0 < r.length := List.length_pos_iff.2 hr
  have hop0 : 0 ≤ r.getD 0 0 ∧ r.getD 0 0 < 256 := by
   rw [List.getD_eq_getElem?_getD, List.getElem?_eq_getElem hpos]
   exact hb _ (List.getElem_mem _)
  have hrd : rd r 0 = r.getD 0 0 := rfl
  have hwop : wrap64 (rd r 0) = r.getD 0 0 := by rw [hrd]; unfold wrap64; omega
  have hl0 : ∀ k, qAf.l0 (k + 1) r (l.map toSR) = (if sizeI (r.getD 0 0) = 0 then qAf.j1 k r (l.map toSR) (sizeI (r.getD 0 0)) true (r.getD 0 0) 0 0 0 else qAf.j1 k r (l.map toSR) (sizeI (r.getD 0 0)) (decide (sizeI (r.getD 0 0) > (r.length : Int))) (r.getD 0 0) 0 0 0) := fun k => by
   simp only [qAf.l0, qBL.f, Option.bind_some]
   rw [if_pos (by omega), if_pos (by omega), hwop]
  have hbad : ∀ sz, Ev (fun k => qAf.j1 k r (l.map toSR) sz true (r.getD 0 0) 0 0 0) ((([] : List InsD).map toSR, 51) : List S172 × Int) := fun sz =>
   Ev.step (f := fun _ => some ([], 51)) (fun k => by simp only [qAf.j1]; rfl) (Ev.now _)
  have hno : (sizeI (r.getD 0 0) = 0 ∨ (r.length : Int) < sizeI (r.getD 0 0)) → ¬ ((qBx r).ok = true ∧ 0 ≤ (qBx r).b ∧ (qBx r).b < 18446744073709551616 ∧ r = insB (qBx r) ++ r.drop (insB (qBx r)).length) := by
   rintro h ⟨h1, _, _, h4⟩
   have e1 := insB_len h1
   have e2 : (qBx r).op = r.getD 0 0 := by
    unfold qBx
    split
    ·rename_i hh; exact hh.symm
    rfl
   rw [e2] at e1
   have e3 := congrArg List.length h4
   rw [List.length_append] at e3
   have : 0 < (insB (qBx r)).length := by unfold insB; simp
   rcases h with h | h <;> omega
  by_cases hs0 : sizeI (r.getD 0 0) = 0
  ·rw [if_neg (hno (.inl hs0))]
   exact Ev.step (fun k => (hl0 k).trans (if_pos hs0)) (hbad _)
  by_cases hsl : (r.length : Int) < sizeI (r.getD 0 0)
  ·rw [if_neg (hno (.inr hsl))]
   refine Ev.step (fun k => (hl0 k).trans ?_) (hbad (sizeI (r.getD 0 0)))
   rw [if_neg hs0, decide_eq_true (by omega)]
  obtain ⟨w1, w2, w3, w4⟩ := size_wid hs0
  have hstep : ∀ k, qAf.l0 (k + 1) r (l.map toSR) = qAf.j1 k r (l.map toSR) (sizeI (r.getD 0 0)) false (r.getD 0 0) 0 0 0 := fun k => by
   rw [hl0 k, if_neg hs0, decide_eq_false (by omega)]
  have hip := qDE r hb hs0 (by omega) hr
  have hpb : 0 ≤ (qBx r).b ∧ (qBx r).b < 18446744073709551616 := by
   unfold qBx
   split
   ·have := qC4 ((r.drop 2).take 8) (qCs (qBu hb 2) 8)
    have hle : ((r.drop 2).take 8).length ≤ 8 := by rw [List.length_take]; omega
    have hpw : ∀ j : Nat, j < 9 → (256 : Int) ^ j ≤ 18446744073709551616 := by decide
    have := hpw _ (show ((r.drop 2).take 8).length < 9 by omega)
    simp only; omega
   simp
  have hlenI : (qBx r).ok = true → (insB (qBx r)).length = (sizeI (r.getD 0 0)).toNat := by
   intro h1
   have e1 := insB_len h1
   have e2 : (qBx r).op = r.getD 0 0 := by
    unfold qBx
    split
    ·rename_i hh; exact hh.symm
    rfl
   rw [e2] at e1; omega
  have hj4 : Ev (fun k => qAf.j4 k r (l.map toSR) (sizeI (r.getD 0 0)) (qBx r).op (qBx r).n (qBx r).ty (qBx r).b)
    (((if (qBx r).ok = true ∧ 0 ≤ (qBx r).b ∧ (qBx r).b < 18446744073709551616 ∧ r = insB (qBx r) ++ r.drop (insB (qBx r)).length then (if l.length = 4096 then (([] : List InsD), (3 : Int)) else decL d (l ++ [qBx r]) (r.drop (insB (qBx r)).length)) else ([], 51)).1.map toSR, (if (qBx r).ok = true ∧ 0 ≤ (qBx r).b ∧ (qBx r).b < 18446744073709551616 ∧ r = insB (qBx r) ++ r.drop (insB (qBx r)).length then (if l.length = 4096 then (([] : List InsD), (3 : Int)) else decL d (l ++ [qBx r]) (r.drop (insB (qBx r)).length)) else ([], 51)).2)) := by
   have hrt : qBa.f (qBx r).op (qBx r).n (qBx r).ty (qBx r).b = some (qBx r).ok := if_pos hpb
   cases hok : (qBx r).ok with
   | false =>
    rw [if_neg (by simp)]
    refine Ev.step (f := fun _ => some ([], 51)) (fun k => ?_) (Ev.now _)
    simp only [qAf.j4, hrt, hok, Option.bind_some]
    rw [if_neg (by simp)]
   | true =>
    have hln := hlenI hok
    rw [if_pos ⟨rfl, hpb.1, hpb.2, by rw [hln]; exact hip.symm⟩]
    by_cases h4096 : l.length = 4096
    ·rw [if_pos h4096]
     refine Ev.step (f := fun _ => some ([], 3)) (fun k => ?_) (Ev.now _)
     simp only [qAf.j4, hrt, hok, Option.bind_some]
     rw [if_pos trivial, if_pos (by rw [List.length_map]; omega)]
    rw [if_neg h4096, hln]
    have hrec := ih (r.drop (sizeI (r.getD 0 0)).toNat) (l ++ [qBx r]) (by rw [List.length_drop]; omega) (qBu hb _) (by rw [List.length_drop]; omega) (by simp; omega)
    refine Ev.step (fun k => ?_) hrec
    simp only [qAf.j4, hrt, hok, Option.bind_some]
    rw [if_pos trivial, if_neg (by rw [List.length_map]; omega), if_pos (by rw [List.length_map]; omega), if_pos (by omega), if_pos (by omega), List.map_append]
    rfl
  by_cases h1 : r.getD 0 0 = 1
  rotate_left
  ·have h2 := w4 h1
   have hwN : ((widN (r.getD 0 0) : Nat) : Int) = wid (r.getD 0 0) := by unfold widN; omega
   have hp : qBx r = ⟨r.getD 0 0, valB ((r.drop 1).take (widN (r.getD 0 0))), 0, 0⟩ := by unfold qBx; rw [if_neg h1]
   rw [hp] at hj4 ⊢
   simp only at hj4 ⊢
   have hsz : sizeI (r.getD 0 0) = ((1 + widN (r.getD 0 0) : Nat) : Int) := by omega
   rw [hsz] at hj4
   have hlp := num_loop r hb (l.map toSR) (widN (r.getD 0 0)) (by omega) (r.getD 0 0) 0 0 (by omega) _ hj4 (widN (r.getD 0 0)) 0 (by omega) (by omega)
   refine Ev.step hstep (Ev.step (fun k => ?_) hlp)
   simp only [qAf.j1]
   rw [if_neg (by decide), if_neg h1, hsz]
   rfl
  have h9 := w3 h1
  have h10 : 10 ≤ r.length := by omega
  have hp : qBx r = ⟨1, 0, r.getD 1 0, valB ((r.drop 2).take 8)⟩ := by unfold qBx; rw [if_pos h1]
  have hx1 : 0 ≤ r.getD 1 0 ∧ r.getD 1 0 < 256 := by
   rw [List.getD_eq_getElem?_getD, List.getElem?_eq_getElem (by omega)]
   exact hb _ (List.getElem_mem _)
  rw [hp] at hj4 ⊢
  simp only at hj4 ⊢
  have hlp := bits_loop r hb (l.map toSR) (sizeI (r.getD 0 0)) 1 0 (r.getD 1 0) h10 _ hj4 8 0 rfl (by omega)
  refine Ev.step hstep (Ev.step (fun k => ?_) hlp)
  simp only [qAf.j1]
  rw [if_neg (by decide), if_pos h1, if_pos (by omega), show wrap64 (rd r 1) = r.getD 1 0 from by show wrap64 (r.getD 1 0) = _; unfold wrap64; omega, h1]
  rfl
theorem rdecode_ev (c : List Int) (hb : qBn c) (hc : c.length ≤ 4294967296) : Ev (fun k => qAf.f k c) ((decL (c.length + 1) [] c).1.map toSR, (decL (c.length + 1) [] c).2) :=
 rdec_ev c hc (c.length + 1) c [] (by omega) hb (Nat.le_refl _) (by simp)
end Q
end
section
namespace Q
open Go.RowKit PA PC PB
open DecLaw
def toRI (x : S144) : S172 := ⟨x.f0, x.f1, x.f2⟩
def toRV (x : S85) : S95 := ⟨x.f0, x.f1⟩
def toRN (x : S92) : S100 := ⟨x.f0, ⟨⟨x.f1.f0.f0, x.f1.f0.f1⟩, x.f1.f1, x.f1.f2.map toRI⟩⟩
def toRR (x : S104) : S103 := ⟨x.f0, x.f1, x.f2, x.f3, x.f4⟩
theorem map_toRI (l : List Enc.InsD) : (l.map toS).map toRI = l.map toSR := by rw [List.map_map]; exact List.map_congr_left fun x _ => rfl
section
variable (f0 : List Int)
abbrev Fn6R := List Int × Int × List Int × List S172 × Int × Int
def RdG (g : Nat → Option Fn6R) (s : Option (Fn4 × List Int)) : Prop :=
 ∃ a b c d p e, Ev g (a, b, c, d, p, e) ∧ match s with
  | some (x, r) => x.1 = a ∧ x.2.1 = b ∧ x.2.2.1 = c ∧ x.2.2.2.map toRI = d ∧ e = 0 ∧ 0 ≤ p ∧ p ≤ f0.length ∧ r = f0.drop p.toNat
  | none => e ≠ 0
theorem Rd.bindG {α : Type} {g : Nat → Option (α × Int × Int)} {s : Option (α × List Int)} {h : Nat → α × Int × Int → Option Fn6R} {t : α × List Int → Option (Fn4 × List Int)} (hg : Rd f0 g s)
  (good : ∀ x p, Pl f0 p → s = some (x, f0.drop p.toNat) → RdG f0 (fun k => h k (x, p, 0)) (t (x, f0.drop p.toNat))) (bad : ∀ x p e, e ≠ 0 → RdG f0 (fun k => h k (x, p, e)) none) : RdG f0 (fun k => (g k).bind (h k)) (s.bind t) := by
 obtain ⟨v, p, e, hv, hs⟩ := hg
 cases s with
 | none =>
  obtain ⟨a, b, c, d, p2, e2, h2, hs2⟩ := bad v p e hs
  exact ⟨a, b, c, d, p2, e2, Ev.bind hv h2, hs2⟩
 | some x =>
  obtain ⟨x, r⟩ := x
  obtain ⟨rfl, rfl, h0, h1, rfl⟩ := hs
  obtain ⟨a, b, c, d, p2, e2, h2, hs2⟩ := good v p ⟨h0, h1⟩ rfl
  exact ⟨a, b, c, d, p2, e2, Ev.bind hv h2, hs2⟩
theorem RdG.step {g f : Nat → Option Fn6R} {s : Option (Fn4 × List Int)} (h : ∀ k, g (k + 1) = f k) (hf : RdG f0 f s) : RdG f0 g s := by
 obtain ⟨a, b, c, d, p, e, hv, hs⟩ := hf
 exact ⟨a, b, c, d, p, e, Ev.step h hv, hs⟩
theorem RdG.congr {g f : Nat → Option Fn6R} {s t : Option (Fn4 × List Int)} (hf : RdG f0 f s) (h : ∀ k, g k = f k) (e : t = s) : RdG f0 g t := by
 subst e
 obtain ⟨a, b, c, d, p, e, hv, hs⟩ := hf
 exact ⟨a, b, c, d, p, e, Ev.congr h hv, hs⟩
def rtail (q1 : List Int) (q2 : Int) (q3 : List Int) (p e : Int) (k : Nat) : Option Fn6R := (qAF.f k f0 p e 1048576).bind fun b => ((qAf.f k b.1).bind fun c => ((qAl.f f0 b.2.1 b.2.2 c.2).bind fun d => some (q1, q2, q3, c.1, d.1, d.2)))
theorem rdec_nil : Ev (fun k => qAf.f k []) (([] : List S172), (0 : Int)) := rdecode_ev [] (by intro x hx; cases hx) (by simp)
theorem rtail_bad (q1 : List Int) (q2 : Int) (q3 : List Int) (p e : Int) (he : e ≠ 0) : RdG f0 (rtail f0 q1 q2 q3 p e) none := by
 refine ⟨q1, q2, q3, [], p, e, ?_, he⟩
 refine Ev.congr (f := fun k => (qAf.f k []).bind fun c => ((qAl.f f0 p e c.2).bind fun d => some (q1, q2, q3, c.1, d.1, d.2))) (fun k => by unfold rtail; rw [rraw_bad f0 1048576 p e (by decide) he k]; rfl) (Ev.bind rdec_nil ?_)
 refine Ev.congr (f := fun _ => some (q1, q2, q3, ([] : List S172), p, e)) (fun k => ?_) (Ev.now _)
 simp [qAl.f, he]
theorem rawP_most (r : List Int) (h : r.length ≤ 16384) : rawP 1048576 r = rawP 16384 r := by
 unfold rawP intP
 by_cases h4 : 4 ≤ r.length
 rotate_left
 ·rw [if_neg h4]; rfl
 rw [if_pos h4]
 by_cases hv : valB (r.take 4) ≤ 2147483647
 rotate_left
 ·rw [if_neg hv]; rfl
 rw [if_pos hv]
 simp only [Option.bind_some]
 have hl : (r.drop 4).length ≤ 16384 := by rw [List.length_drop]; omega
 by_cases hq : valB (r.take 4) ≤ (r.drop 4).length
 ·rw [if_pos ⟨by omega, hq⟩, if_pos ⟨by omega, hq⟩]
 rw [if_neg (fun hh => hq hh.2), if_neg (fun hh => hq hh.2)]
theorem rraw_empty (most p : Int) (v : List Int) (q e : Int) (k : Nat) (h : qAF.f k f0 p 0 most = some (v, q, e)) (he : e ≠ 0) : v = [] := by
 unfold qAF.f at h
 cases hm : qAJ.f k f0 p 0 most with
 | none => rw [hm] at h; cases h
 | some b =>
  rw [hm] at h
  simp only [Option.bind_some] at h
  (repeat' split at h) <;> first | (cases h; done) | (simp only [Option.some.injEq, Prod.mk.injEq] at h; first | exact h.1.symm | exact absurd h.2.2.symm he)
theorem rtail_good (hb : qBn f0) (hl : f0.length ≤ 16384) (q1 : List Int) (q2 : Int) (q3 : List Int) (p : Int) (hp : Pl f0 p) : RdG f0 (rtail f0 q1 q2 q3 p 0) ((qDt (f0.drop p.toNat)).bind fun d => some ((q1, q2, q3, d.1), d.2)) := by
 have hrw := rawP_most (f0.drop p.toNat) (by rw [List.length_drop]; omega)
 obtain ⟨v, q, e, hev, hs⟩ := rraw_good f0 hb (by omega) 1048576 (by decide) p hp
 rw [hrw] at hs
 unfold qDt
 cases hr : rawP 16384 (f0.drop p.toNat) with
 | none =>
  rw [hr] at hs
  have hv : v = [] := by
   obtain ⟨K, hK⟩ := hev
   exact rraw_empty f0 1048576 p v q e K (hK K (Nat.le_refl _)) hs
  subst hv
  refine ⟨q1, q2, q3, [], q, e, Ev.bind hev (Ev.bind rdec_nil (Ev.congr (f := fun _ => some (q1, q2, q3, ([] : List S172), q, e)) (fun k => ?_) (Ev.now _))), hs⟩
  have he : e ≠ 0 := hs
  simp [qAl.f, he]
 | some a =>
  obtain ⟨x, r⟩ := a
  have hbx := qE5 (qBu hb _) hr
  rw [hr] at hs
  obtain ⟨rfl, rfl, h0, h1, rfl⟩ := hs
  have hvl : v.length ≤ 4294967296 := by
   have hh : rawP 16384 (f0.drop p.toNat) = some (v, f0.drop q.toNat) := hr
   unfold rawP at hh
   cases hi : intP (f0.drop p.toNat) with
   | none => rw [hi] at hh; cases hh
   | some b =>
    rw [hi] at hh
    simp only [Option.bind_some] at hh
    split at hh
    ·rename_i hq
     have := (Prod.mk.inj (Option.some.inj hh)).1
     rw [← this, List.length_take]; omega
    cases hh
  have hd := rdecode_ev v hbx hvl
  simp only [Option.bind_some]
  by_cases hz : (decP v).2 = 0
  rotate_left
  ·rw [if_neg hz]
   refine ⟨q1, q2, q3, (decP v).1.map toSR, q, (decP v).2, Ev.bind hev (Ev.bind hd (Ev.congr (f := fun _ => some (q1, q2, q3, (decP v).1.map toSR, q, (decP v).2)) (fun k => ?_) (Ev.now _))), hz⟩
   simp only [qAl.f, if_true, Option.bind_some]; rfl
  rw [if_pos hz]
  refine ⟨q1, q2, q3, _, q, 0, Ev.bind hev (Ev.bind hd (Ev.congr (f := fun _ => some (q1, q2, q3, (decP v).1.map toSR, q, 0)) (fun k => ?_) (Ev.now _))), rfl, rfl, rfl, ?_, rfl, h0, h1, rfl⟩
  ·have hz' : (decL (v.length + 1) [] v).2 = 0 := hz
   simp only [qAl.f, hz', if_true, Option.bind_some]; rfl
  exact map_toRI _
theorem rl1_bad (n i : Int) (p e : Int) (he : e ≠ 0) (q1 : List Int) (q2 : Int) (acc : List Int) : RdG f0 (fun k => qAj.l1 k n i f0 p e q1 q2 acc) none := by
 refine RdG.step f0 (fun k => ?_) (rtail_bad f0 q1 q2 acc p e he)
 simp only [qAj.l1]
 by_cases h : i < n
 ·rw [if_pos h, if_neg he]; rfl
 rw [if_neg h]; rfl
theorem rl1_good (hb : qBn f0) (hl : f0.length ≤ 16384) (n : Int) (hn : n < 256) (q1 : List Int) (q2 : Int) : ∀ (d : Nat) (i p : Int) (acc : List Int), 0 ≤ i → n - i = d → acc.length + d ≤ 512 → Pl f0 p →
  RdG f0 (fun k => qAj.l1 k n i f0 p 0 q1 q2 acc) ((qCV d acc (f0.drop p.toNat)).bind fun l => (qDt l.2).bind fun d => some ((q1, q2, l.1, d.1), d.2)) := by
 intro d
 induction d with
 | zero =>
  intro i p acc h0 hd ha hp
  refine RdG.step f0 (fun k => ?_) (rtail_good f0 hb hl q1 q2 acc p hp)
  simp only [qAj.l1]; rw [if_neg (by omega)]; rfl
 | succ d ih =>
  intro i p acc h0 hd ha hp
  simp only [qCV, Option.bind_assoc]
  have hw : wrap64 (i + 1) = i + 1 := by unfold wrap64; omega
  have hlen : acc.length < 17592186044416 := by omega
  refine RdG.step f0 (f := fun k => (qAt.f k f0 p 0).bind fun b => qAj.l1 k n (i + 1) f0 b.2.1 b.2.2 q1 q2 (acc ++ [wrap64 b.1])) (fun k => ?_) ?_
  ·simp only [qAj.l1]
   rw [if_pos (by omega)]
   simp only [hlen, if_true, hw]
  refine Rd.bindG f0 (qC1 f0 hb (by omega) p hp) (fun x p2 hp2 hs => ?_) (fun x p2 e he => ?_)
  ·simp only [qBR (qB1 (qBu hb _) hs)]
   exact ih (i + 1) p2 _ (by omega) (by omega) (by simp; omega) hp2
  exact rl1_bad f0 n (i + 1) p2 e he q1 q2 _
def j1S (q1 : List Int) (r : List Int) : Option (Fn4 × List Int) := (qCU r).bind fun b => (qCU b.2).bind fun c => (qCV c.1.toNat [] c.2).bind fun l => (qDt l.2).bind fun d => some ((q1, b.1, l.1, d.1), d.2)
theorem rj1_bad (p e : Int) (he : e ≠ 0) (q1 : List Int) (q2 : Int) : RdG f0 (fun k => qAj.j1 k f0 p e q1 q2) none := by
 refine RdG.step f0 (fun k => ?_) (rl1_bad f0 (wrap64 0) 0 p e he q1 (wrap64 0) [])
 simp only [qAj.j1, qDi f0 p e he k, Option.bind_some]
theorem rj1_good (hb : qBn f0) (hl : f0.length ≤ 16384) (q1 : List Int) (q2 p : Int) (hp : Pl f0 p) : RdG f0 (fun k => qAj.j1 k f0 p 0 q1 q2) (j1S q1 (f0.drop p.toNat)) := by
 unfold j1S
 refine RdG.step f0 (fun k => rfl) (Rd.bindG f0 (qC1 f0 hb (by omega) p hp) (h := fun k b => (qAt.f k f0 b.2.1 b.2.2).bind fun c => qAj.l1 k (wrap64 c.1) 0 f0 c.2.1 c.2.2 q1 (wrap64 b.1) []) (fun x p2 hp2 hs => ?_) (fun x p2 e he => ?_))
 ·have hx := qB1 (qBu hb _) hs
  refine Rd.bindG f0 (qC1 f0 hb (by omega) p2 hp2) (fun y p3 hp3 hs3 => ?_) (fun y p3 e he => ?_)
  ·have hy := qB1 (qBu hb _) hs3
   simp only [qBR hx, qBR hy]
   exact rl1_good f0 hb hl y hy.2 q1 x y.toNat 0 p3 [] (by omega) (by have := hy.1; simp only at this; omega) (by have := hy.2; simp only at this; simp; omega) hp3
  exact rl1_bad f0 _ 0 p3 e he q1 _ []
 simp only [qDi f0 _ _ he, Option.bind_some]
 exact rl1_bad f0 _ 0 p2 e he q1 _ []
theorem rl0_bad (n i : Int) (p e : Int) (he : e ≠ 0) (acc : List Int) (q2 : Int) : RdG f0 (fun k => qAj.l0 k n i f0 p e acc q2) none := by
 refine RdG.step f0 (fun k => ?_) (rj1_bad f0 p e he acc q2)
 simp only [qAj.l0]
 by_cases h : i < n
 ·rw [if_pos h, if_neg he]
 rw [if_neg h]
theorem rl0_good (hb : qBn f0) (hl : f0.length ≤ 16384) (n : Int) (hn : n < 256) (q2 : Int) : ∀ (d : Nat) (i p : Int) (acc : List Int), 0 ≤ i → n - i = d → acc.length + d ≤ 512 → Pl f0 p →
  RdG f0 (fun k => qAj.l0 k n i f0 p 0 acc q2) ((qCV d acc (f0.drop p.toNat)).bind fun l => j1S l.1 l.2) := by
 intro d
 induction d with
 | zero =>
  intro i p acc h0 hd ha hp
  refine RdG.step f0 (fun k => ?_) (rj1_good f0 hb hl acc q2 p hp)
  simp only [qAj.l0]; rw [if_neg (by omega)]
 | succ d ih =>
  intro i p acc h0 hd ha hp
  simp only [qCV, Option.bind_assoc]
  have hw : wrap64 (i + 1) = i + 1 := by unfold wrap64; omega
  have hlen : acc.length < 17592186044416 := by omega
  refine RdG.step f0 (f := fun k => (qAt.f k f0 p 0).bind fun b => qAj.l0 k n (i + 1) f0 b.2.1 b.2.2 (acc ++ [wrap64 b.1]) q2) (fun k => ?_) ?_
  ·simp only [qAj.l0]
   rw [if_pos (by omega)]
   simp only [hlen, if_true, hw]
  refine Rd.bindG f0 (qC1 f0 hb (by omega) p hp) (fun x p2 hp2 hs => ?_) (fun x p2 e he => ?_)
  ·simp only [qBR (qB1 (qBu hb _) hs)]
   exact ih (i + 1) p2 _ (by omega) (by omega) (by simp; omega) hp2
  exact rl0_bad f0 n (i + 1) p2 e he _ q2
theorem rfn_good (hb : qBn f0) (hl : f0.length ≤ 16384) (p : Int) (hp : Pl f0 p) : RdG f0 (fun k => qAj.f k f0 p 0) (fnP (f0.drop p.toNat)) := by
 refine RdG.congr f0 (f := fun k => (qAt.f k f0 p 0).bind fun b => qAj.l0 k (wrap64 b.1) 0 f0 b.2.1 b.2.2 [] 0) (s := (qCU (f0.drop p.toNat)).bind fun a => (qCV a.1.toNat [] a.2).bind fun l => j1S l.1 l.2) (Rd.bindG f0 (qC1 f0 hb (by omega) p hp) (fun x p2 hp2 hs => ?_) (fun x p2 e he => ?_)) (fun k => rfl) ?_
 ·have hx := qB1 (qBu hb _) hs
  simp only [qBR hx]
  exact rl0_good f0 hb hl x hx.2 0 x.toNat 0 p2 [] (by omega) (by have := hx.1; simp only at this; omega) (by have := hx.2; simp only at this; simp; omega) hp2
 ·exact rl0_bad f0 _ 0 p2 e he [] 0
 simp only [fnP, qCX, j1S, Option.bind_assoc]
theorem rfn_bad (p e : Int) (he : e ≠ 0) : RdG f0 (fun k => qAj.f k f0 p e) none := by
 refine RdG.congr f0 (f := fun k => qAj.l0 k (wrap64 0) 0 f0 p e [] 0) (rl0_bad f0 _ 0 p e he [] 0) (fun k => ?_) rfl
 unfold qAj.f
 rw [qDi f0 p e he k]; rfl
abbrev ResR := ByteArray × List S95 × List S100 × List S103 × Int
def errR : ResR := (⟨#[]⟩, [], [], [], 52)
def tailR (o : Obj4) (k : Nat) : Option ResR := (qAi.f k o.1 (o.2.1.map toRV) (o.2.2.1.map toRN) (o.2.2.2.map toRR)).bind fun t => (if t = 0 then some (o.1, o.2.1.map toRV, o.2.2.1.map toRN, o.2.2.2.map toRR, 0) else some errR)
theorem uj6_bad (n i p e : Int) (he : e ≠ 0) (m : ByteArray) (vs : List S95) (fs : List S100) (acc : List S103) : Ev (fun k => qAc.j6 k n i false f0 p e m vs fs acc) errR := by
 refine Ev.step (f := fun _ => some errR) (fun k => ?_) (Ev.now _)
 simp only [qAc.j6, qAY.f]
 rw [if_neg (by decide), if_neg he]
 simp only [Option.bind_some]
 rw [if_neg he]; rfl
theorem ul2_bad (n i p e : Int) (he : e ≠ 0) (m : ByteArray) (vs : List S95) (fs : List S100) (acc : List S103) : Ev (fun k => qAc.l2 k n i f0 p e m vs fs acc) errR := by
 refine Ev.step (fun k => ?_) (uj6_bad f0 n i p e he m vs fs acc)
 simp only [qAc.l2, beq_eq_false_iff_ne.mpr he, ite_self]
theorem uj4_bad (n i p e : Int) (he : e ≠ 0) (m : ByteArray) (vs : List S95) (fs : List S100) : Ev (fun k => qAc.j4 k n i false f0 p e m vs fs) errR := by
 refine Ev.step (fun k => ?_) (ul2_bad f0 0 0 p e he m vs fs [])
 simp only [qAc.j4]
 rw [if_neg (by decide), qEX f0 p e he k]; rfl
theorem ul1_bad (n i p e : Int) (he : e ≠ 0) (m : ByteArray) (vs : List S95) (fs : List S100) : Ev (fun k => qAc.l1 k n i f0 p e m vs fs) errR := by
 refine Ev.step (fun k => ?_) (uj4_bad f0 n i p e he m vs fs)
 simp only [qAc.l1, beq_eq_false_iff_ne.mpr he, ite_self]
theorem uj2_bad (n i p e : Int) (he : e ≠ 0) (m : ByteArray) (vs : List S95) : Ev (fun k => qAc.j2 k n i false f0 p e m vs) errR := by
 refine Ev.step (fun k => ?_) (ul1_bad f0 0 0 p e he m vs [])
 simp only [qAc.j2]
 rw [if_neg (by decide), qEX f0 p e he k]; rfl
theorem ul0_bad (n i p e : Int) (he : e ≠ 0) (m : ByteArray) (vs : List S95) : Ev (fun k => qAc.l0 k n i f0 p e m vs) errR := by
 refine Ev.step (fun k => ?_) (uj2_bad f0 n i p e he m vs)
 simp only [qAc.l0, beq_eq_false_iff_ne.mpr he, ite_self]
theorem ul2_good (hb : qBn f0) (hl : f0.length ≤ 16384) (m : ByteArray) (vs : List S85) (fs : List S92) (R : ResR) (n : Int) (hn : n ≤ 2147483647) : ∀ (d : Nat) (i p : Int) (acc : List S104), 0 ≤ i → n - i = d → Pl f0 p → acc.length + d ≤ 2147483647 → Fin tailR errR (qFj d m vs fs acc (f0.drop p.toNat)) R →
  Ev (fun k => qAc.l2 k n i f0 p 0 m (vs.map toRV) (fs.map toRN) (acc.map toRR)) R := by
 intro d
 induction d with
 | zero =>
  intro i p acc h0 hd hp ha hF
  refine Ev.step (f := fun k => qAc.j6 k n i false f0 p 0 m (vs.map toRV) (fs.map toRN) (acc.map toRR)) (fun k => ?_) ?_
  ·simp only [qAc.l2]; rw [if_neg (by omega)]
  have q0 := hp.1; have q1 := hp.2
  simp only [qFj, endO] at hF
  by_cases hr : f0.drop p.toNat = []
  ·rw [if_pos hr] at hF
   have h3 := congrArg List.length hr
   rw [List.length_drop] at h3
   simp only [List.length_nil] at h3
   refine Ev.step (f := tailR (m, vs, fs, acc)) (fun k => ?_) (hF.yes _ rfl)
   simp only [qAc.j6, qAY.f]
   rw [if_neg (by decide), if_pos trivial, if_neg (by omega)]; rfl
  rw [if_neg hr] at hF
  rw [hF.no rfl]
  have h3 : 0 < (f0.drop p.toNat).length := List.length_pos_iff.2 hr
  rw [List.length_drop] at h3
  refine Ev.step (f := fun _ => some errR) (fun k => ?_) (Ev.now _)
  simp only [qAc.j6, qAY.f]
  rw [if_neg (by decide), if_pos trivial, if_pos (by omega)]; rfl
 | succ d ih =>
  intro i p acc h0 hd hp ha hF
  simp only [qFj, relP, Option.bind_assoc, Option.bind_some] at hF
  have hw : wrap64 (i + 1) = i + 1 := by unfold wrap64; omega
  have hlen : (acc.map toRR).length < 2513169434916 := by rw [List.length_map]; omega
  refine Ev.step (f := fun k => qAc.j6 k n i true f0 p 0 m (vs.map toRV) (fs.map toRN) (acc.map toRR)) (fun k => ?_) (Ev.step (f := fun k => (qAK.f k f0 p 0).bind fun b1 => ((qAK.f k f0 b1.2.1 b1.2.2).bind fun b2 => ((qAt.f k f0 b2.2.1 b2.2.2).bind fun b3 => ((qAq.f k f0 b3.2.1 b3.2.2 32).bind fun b4 => ((qAq.f k f0 b4.2.1 b4.2.2 32).bind fun b5 => qAc.l2 k n (i + 1) f0 b5.2.1 b5.2.2 m (vs.map toRV) (fs.map toRN) (acc.map toRR ++ [⟨b1.1, b2.1, wrap64 b3.1, b4.1, b5.1⟩])))))) (fun k => ?_) ?_)
  ·simp only [qAc.l2]; rw [if_pos (by omega)]; rfl
  ·simp only [qAc.j6, if_true, hw]
   simp only [hlen, if_true]
  have hl4 : f0.length ≤ 4294967296 := by omega
  have bad : ∀ (x : List S103) (p e : Int), e ≠ 0 → R = errR → Ev (fun k => qAc.l2 k n (i + 1) f0 p e m (vs.map toRV) (fs.map toRN) x) R := fun x p e he hR => hR ▸ ul2_bad f0 n (i + 1) p e he m _ _ x
  refine Rd.fin (qF2 f0 hb hl4 p hp) hF (fun x1 p1 hp1 hs1 hF1 => ?_) (fun x1 p1 e he hR => ?_)
  ·refine Rd.fin (qF2 f0 hb hl4 p1 hp1) hF1 (fun x2 p2 hp2 hs2 hF2 => ?_) (fun x2 p2 e he hR => ?_)
   ·refine Rd.fin (qC1 f0 hb hl4 p2 hp2) hF2 (fun x3 p3 hp3 hs3 hF3 => ?_) (fun x3 p3 e he hR => ?_)
    ·refine Rd.fin (qDb f0 hb hl4 32 (by decide) p3 hp3) hF3 (fun x4 p4 hp4 hs4 hF4 => ?_) (fun x4 p4 e he hR => ?_)
     ·refine Rd.fin (qDb f0 hb hl4 32 (by decide) p4 hp4) hF4 (fun x5 p5 hp5 hs5 hF5 => ?_) (fun x5 p5 e he hR => ?_)
      ·simp only [qBR (qB1 (qBu hb _) hs3)]
       have := ih (i + 1) p5 _ (by omega) (by omega) hp5 (by simp; omega) hF5
       rw [List.map_append] at this
       exact this
      exact bad _ _ _ he hR
     simp only [qEg f0 32 _ _ (by decide) he, Option.bind_some]; exact bad _ _ _ he hR
    simp only [qEg f0 32 _ _ (by decide) he, Option.bind_some]; exact bad _ _ _ he hR
   simp only [qDi f0 _ _ he, qEg f0 32 _ _ (by decide) he, Option.bind_some]; exact bad _ _ _ he hR
  simp only [rshort_bad f0 _ _ he, qDi f0 _ _ he, qEg f0 32 _ _ (by decide) he, Option.bind_some]; exact bad _ _ _ he hR
theorem RdG.fin {σ γ : Type} {g : Nat → Option Fn6R} {s : Option (Fn4 × List Int)} {h : Nat → Fn6R → Option γ} {t : Fn4 × List Int → Option σ} {tail : σ → Nat → Option γ} {err R : γ} (hg : RdG f0 g s) (hF : Fin tail err (s.bind t) R)
  (good : ∀ a b c d p, Pl f0 p → s = some ((a, b, c, d), f0.drop p.toNat) → Fin tail err (t ((a, b, c, d), f0.drop p.toNat)) R → Ev (fun k => h k (a, b, c, d.map toRI, p, 0)) R) (bad : ∀ a b c d p e, e ≠ 0 → R = err → Ev (fun k => h k (a, b, c, d, p, e)) R) : Ev (fun k => (g k).bind (h k)) R := by
 obtain ⟨a, b, c, d, p, e, hv, hs⟩ := hg
 cases s with
 | none => exact Ev.bind hv (bad a b c d p e hs (hF.no rfl))
 | some x =>
  obtain ⟨⟨x1, x2, x3, x4⟩, r⟩ := x
  obtain ⟨rfl, rfl, rfl, rfl, rfl, h0, h1, rfl⟩ := hs
  exact Ev.bind hv (good x1 x2 x3 x4 p ⟨h0, h1⟩ rfl ⟨fun o ho => hF.yes o ho, fun hn => hF.no hn⟩)
theorem ul1_good (hb : qBn f0) (hl : f0.length ≤ 16384) (m : ByteArray) (vs : List S85) (R : ResR) (n : Int) (hn : n ≤ 2147483647) : ∀ (d : Nat) (i p : Int) (acc : List S92), 0 ≤ i → n - i = d → Pl f0 p → acc.length + d ≤ 2147483647 → Fin tailR errR (fnsC d m vs acc (f0.drop p.toNat)) R →
  Ev (fun k => qAc.l1 k n i f0 p 0 m (vs.map toRV) (acc.map toRN)) R := by
 have hl4 : f0.length ≤ 4294967296 := by omega
 intro d
 induction d with
 | zero =>
  intro i p acc h0 hd hp ha hF
  refine Ev.step (f := fun k => qAc.j4 k n i false f0 p 0 m (vs.map toRV) (acc.map toRN)) (fun k => ?_) (Ev.step (f := fun k => (qA1.f k f0 p 0).bind fun b => qAc.l2 k b.1 0 f0 b.2.1 b.2.2 m (vs.map toRV) (acc.map toRN) []) (fun k => ?_) ?_)
  ·simp only [qAc.l1]; rw [if_neg (by omega)]
  ·simp only [qAc.j4]; rw [if_neg (by decide)]
  simp only [fnsC, relsI] at hF
  refine Rd.fin (qDX f0 hb hl4 p hp) hF (fun x1 p1 hp1 hs1 hF1 => ?_) (fun x1 p1 e he hR => ?_)
  ·have hx := qBS _ (qBu hb _) _ hs1
   exact ul2_good f0 hb hl m vs acc R x1 hx.2 x1.toNat 0 p1 [] (by omega) (by have := hx.1; simp only at this; omega) hp1 (by have := hx.2; simp only at this; simp; omega) hF1
  exact hR ▸ ul2_bad f0 x1 0 p1 e he m _ _ []
 | succ d ih =>
  intro i p acc h0 hd hp ha hF
  simp only [fnsC, nfnP, Option.bind_assoc, Option.bind_some] at hF
  have hw : wrap64 (i + 1) = i + 1 := by unfold wrap64; omega
  have hlen : (acc.map toRN).length < 1466015503701 := by rw [List.length_map]; omega
  refine Ev.step (f := fun k => qAc.j4 k n i true f0 p 0 m (vs.map toRV) (acc.map toRN)) (fun k => ?_) (Ev.step (f := fun k => (qAq.f k f0 p 0 32).bind fun b1 => ((qAj.f k f0 b1.2.1 b1.2.2).bind fun b2 => qAc.l1 k n (i + 1) f0 b2.2.2.2.2.1 b2.2.2.2.2.2 m (vs.map toRV) (acc.map toRN ++ [⟨b1.1, ⟨⟨b2.1, b2.2.1⟩, b2.2.2.1, b2.2.2.2.1⟩⟩]))) (fun k => ?_) ?_)
  ·simp only [qAc.l1]; rw [if_pos (by omega)]; rfl
  ·simp only [qAc.j4, if_true, hw]
   simp only [hlen, if_true]
  have bad : ∀ (x : List S100) (p e : Int), e ≠ 0 → R = errR → Ev (fun k => qAc.l1 k n (i + 1) f0 p e m (vs.map toRV) x) R := fun x p e he hR => hR ▸ ul1_bad f0 n (i + 1) p e he m _ x
  refine Rd.fin (qDb f0 hb hl4 32 (by decide) p hp) hF (fun x1 p1 hp1 hs1 hF1 => ?_) (fun x1 p1 e he hR => ?_)
  ·refine RdG.fin f0 (rfn_good f0 hb hl p1 hp1) hF1 (fun a b c d p2 hp2 hs2 hF2 => ?_) (fun a b c d p2 e he hR => ?_)
   ·have := ih (i + 1) p2 _ (by omega) (by omega) hp2 (by simp; omega) hF2
    rw [List.map_append] at this
    exact this
   exact bad _ _ _ he hR
  obtain ⟨a, b, c, d, p2, e2, hrf, he2⟩ := rfn_bad f0 p1 e he
  exact Ev.bind hrf (bad _ _ _ he2 hR)
theorem ul0_good (hb : qBn f0) (hl : f0.length ≤ 16384) (m : ByteArray) (R : ResR) (n : Int) (hn : n ≤ 2147483647) : ∀ (d : Nat) (i p : Int) (acc : List S85), 0 ≤ i → n - i = d → Pl f0 p → acc.length + d ≤ 2147483647 → Fin tailR errR (qEY d m acc (f0.drop p.toNat)) R →
  Ev (fun k => qAc.l0 k n i f0 p 0 m (acc.map toRV)) R := by
 have hl4 : f0.length ≤ 4294967296 := by omega
 intro d
 induction d with
 | zero =>
  intro i p acc h0 hd hp ha hF
  refine Ev.step (f := fun k => qAc.j2 k n i false f0 p 0 m (acc.map toRV)) (fun k => ?_) (Ev.step (f := fun k => (qA1.f k f0 p 0).bind fun b => qAc.l1 k b.1 0 f0 b.2.1 b.2.2 m (acc.map toRV) []) (fun k => ?_) ?_)
  ·simp only [qAc.l0]; rw [if_neg (by omega)]
  ·simp only [qAc.j2]; rw [if_neg (by decide)]
  simp only [qEY, fnsI] at hF
  refine Rd.fin (qDX f0 hb hl4 p hp) hF (fun x1 p1 hp1 hs1 hF1 => ?_) (fun x1 p1 e he hR => ?_)
  ·have hx := qBS _ (qBu hb _) _ hs1
   exact ul1_good f0 hb hl m acc R x1 hx.2 x1.toNat 0 p1 [] (by omega) (by have := hx.1; simp only at this; omega) hp1 (by have := hx.2; simp only at this; simp; omega) hF1
  exact hR ▸ ul1_bad f0 x1 0 p1 e he m _ []
 | succ d ih =>
  intro i p acc h0 hd hp ha hF
  simp only [qEY, varP, Option.bind_assoc, Option.bind_some] at hF
  have hw : wrap64 (i + 1) = i + 1 := by unfold wrap64; omega
  have hlen : (acc.map toRV).length < 4398046511104 := by rw [List.length_map]; omega
  refine Ev.step (f := fun k => qAc.j2 k n i true f0 p 0 m (acc.map toRV)) (fun k => ?_) (Ev.step (f := fun k => (qAq.f k f0 p 0 32).bind fun b1 => ((qAt.f k f0 b1.2.1 b1.2.2).bind fun b2 => ((qAV.f k f0 b2.2.1 b2.2.2).bind fun b3 => qAc.l0 k n (i + 1) f0 b3.2.1 b3.2.2 m (acc.map toRV ++ [⟨b1.1, ⟨wrap64 b2.1, b3.1⟩⟩])))) (fun k => ?_) ?_)
  ·simp only [qAc.l0]; rw [if_pos (by omega)]; rfl
  ·simp only [qAc.j2, if_true, hw]
   simp only [hlen, if_true]
  have bad : ∀ (x : List S95) (p e : Int), e ≠ 0 → R = errR → Ev (fun k => qAc.l0 k n (i + 1) f0 p e m x) R := fun x p e he hR => hR ▸ ul0_bad f0 n (i + 1) p e he m x
  refine Rd.fin (qDb f0 hb hl4 32 (by decide) p hp) hF (fun x1 p1 hp1 hs1 hF1 => ?_) (fun x1 p1 e he hR => ?_)
  ·refine Rd.fin (qC1 f0 hb hl4 p1 hp1) hF1 (fun x2 p2 hp2 hs2 hF2 => ?_) (fun x2 p2 e he hR => ?_)
   ·refine Rd.fin (rlong_good f0 hb hl4 p2 hp2) hF2 (fun x3 p3 hp3 hs3 hF3 => ?_) (fun x3 p3 e he hR => ?_)
    ·simp only [qBR (qB1 (qBu hb _) hs2)]
     have := ih (i + 1) p3 _ (by omega) (by omega) hp3 (by simp; omega) hF3
     rw [List.map_append] at this
     exact this
    exact bad _ _ _ he hR
   simp only [rlong_bad f0 _ _ he, Option.bind_some]; exact bad _ _ _ he hR
  simp only [qDi f0 _ _ he, rlong_bad f0 _ _ he, Option.bind_some]; exact bad _ _ _ he hR
end
theorem strOf_mk (b : List Int) (hb : qBn b) : ((strOfNums (b.take 4)).toList != ([102, 111, 98, 106] : List UInt8)) = !decide (b.take 4 = MK) := by
 have h4 := qCs hb 4
 generalize b.take 4 = l at h4
 by_cases h : l = MK
 ·subst h
  rw [decide_eq_true rfl, Lib.toList_data]; rfl
 rw [decide_eq_false h]
 show _ = true
 rw [bne_iff_ne, Lib.toList_data]
 intro hh
 apply h
 have e := congrArg (fun l : List UInt8 => l.map fun b => (b.toNat : Int)) hh
 have h2 : (strOfNums l).data.toList.map (fun b => (b.toNat : Int)) = l := qED l h4
 exact h2.symm.trans e
theorem mark_ev (c : List Int) (hb : qBn c) (hl : c.length ≤ 16384) (R : ResR) (hF : Fin tailR errR (objC c) R) :
  Ev (fun k => (qAq.f k c 0 0 32).bind fun b1 => ((qA1.f k c b1.2.1 b1.2.2).bind fun b2 => qAc.l0 k b2.1 0 c b2.2.1 b2.2.2 b1.1 [])) R := by
 have hl4 : c.length ≤ 4294967296 := by omega
 have hp0 : Pl c 0 := ⟨Int.le_refl 0, by omega⟩
 have ht := qDb c hb hl4 32 (by decide) 0 hp0
 rw [show c.drop (0 : Int).toNat = c from rfl] at ht
 unfold objC at hF
 refine Rd.fin ht hF (fun x1 p1 hp1 hs1 hF1 => ?_) (fun x1 p1 e he hR => ?_)
 ·refine Rd.fin (qDX c hb hl4 p1 hp1) hF1 (fun x2 p2 hp2 hs2 hF2 => ?_) (fun x2 p2 e he hR => ?_)
  ·have hx := qBS _ (qBu hb _) _ hs2
   exact ul0_good c hb hl x1 R x2 hx.2 x2.toNat 0 p2 [] (Int.le_refl 0) (by have := hx.1; simp only at this; omega) hp2 (by have := hx.2; simp only at this; simp; omega) hF2
  ·exact hR ▸ ul0_bad c x2 0 p2 e he x1 []
 ·simp only [qEX c _ _ he, Option.bind_some]
  exact hR ▸ ul0_bad c 0 0 p1 e he x1 []
theorem bad_ev (b : List Int) : Ev (fun k => qAc.j0 k b true) errR :=
 Ev.step (f := fun _ => some errR) (fun k => by simp only [qAc.j0, if_true]; rfl) (Ev.now _)
theorem yes_ev (b : List Int) (hl : 4 ≤ b.length) (R : ResR) (h : Ev (fun k => (qAq.f k (b.drop 4) 0 0 32).bind fun b1 => ((qA1.f k (b.drop 4) b1.2.1 b1.2.2).bind fun b2 => qAc.l0 k b2.1 0 (b.drop 4) b2.2.1 b2.2.2 b1.1 [])) R) : Ev (fun k => qAc.j0 k b false) R := by
 refine Ev.step (fun k => ?_) h
 have h4 : (4 : Int) ≤ (b.length : Int) := Int.ofNat_le.2 hl
 have e : qAc.j0 (k + 1) b false = (if 4 ≤ (b.length : Int) then ((qBE.f (b.drop 4)).bind fun bt465 => ((qAq.f k bt465.1 bt465.2.1 bt465.2.2 32).bind fun bt469 => ((qA1.f k bt465.1 bt469.2.1 bt469.2.2).bind fun bt473 => (qAc.l0 k bt473.1 0 bt465.1 bt473.2.1 bt473.2.2 bt469.1 ([] : List S95))))) else none) := by
  simp only [qAc.j0, Bool.false_eq_true, if_false]
 rw [e, if_pos h4, show qBE.f (b.drop 4) = some (b.drop 4, 0, 0) from rfl, Option.bind_some]
theorem un_short (b : List Int) (h : b.length < 4) (k : Nat) : qAc.f k b = qAc.j0 k b true := by
 unfold qAc.f
 rw [if_neg (by omega), if_pos (by omega)]
theorem un_long (b : List Int) (hb : qBn b) (h : ¬ b.length < 4) (h4 : ¬ 16384 < b.length) (k : Nat) : qAc.f k b = qAc.j0 k b (!decide (b.take 4 = MK)) := by
 unfold qAc.f
 rw [if_neg (by omega), if_neg (by omega), if_pos (by omega), strOf_mk b hb]
theorem runpack_ev (b : List Int) (hb : qBn b) (R : ResR) (h4 : ¬ 16384 < b.length) (hF : Fin tailR errR (qF0 b) R) : Ev (fun k => qAc.f k b) R := by
 unfold qF0 at hF
 by_cases hlen : b.length < 4
 ·have hne : b.take 4 ≠ MK := fun hh => by
   have := congrArg List.length hh
   rw [List.length_take] at this
   have h2 : MK.length = 4 := rfl
   omega
  rw [if_neg hne] at hF
  have hR := hF.no rfl
  subst hR
  exact Ev.congr (un_short b hlen) (bad_ev b)
 refine Ev.congr (un_long b hb hlen h4) ?_
 by_cases hmk : b.take 4 = MK
 rotate_left
 ·rw [if_neg hmk] at hF
  have hR := hF.no rfl
  subst hR
  rw [decide_eq_false hmk]
  exact bad_ev b
 rw [if_pos hmk] at hF
 rw [decide_eq_true hmk]
 exact yes_ev b (Nat.le_of_not_lt hlen) R (mark_ev (b.drop 4) (qBu hb 4) (by rw [List.length_drop]; omega) R hF)
theorem runpack_big (b : List Int) (h4 : 16384 < b.length) : Ev (fun k => qAc.f k b) ((⟨#[]⟩, [], [], [], 3) : ResR) := by
 refine Ev.congr (f := fun _ => some ((⟨#[]⟩, [], [], [], 3) : ResR)) (fun k => ?_) (Ev.now _)
 unfold qAc.f
 rw [if_pos (by omega)]
end Q
end
section
namespace Q
open Go.RowKit PA PC PB
open Val Ins
theorem find_ev (l : List ByteArray) (s : ByteArray) (hl : l.length ≤ 4611686018427387904) : ∀ (d : Nat) (i : Int), 0 ≤ i → (l.length : Int) - i = d →
  ∃ r, Ev (fun k => qAS.l0 k l s i) (r, hasB (l.drop i.toNat) s) := by
 intro d
 induction d with
 | zero =>
  intro i h0 hd
  refine ⟨0, Ev.step (f := fun _ => some (0, false)) (fun k => ?_) (by rw [List.drop_eq_nil_of_le (by omega)]; exact Ev.now _)⟩
  simp only [qAS.l0]; rw [if_neg (by omega)]
 | succ d ih =>
  intro i h0 hd
  have hc := qBg l ByteArray.empty i h0 (by omega)
  rw [hc]
  have hr : rdOf ByteArray.empty l i = l.getD i.toNat ByteArray.empty := rfl
  rw [← hr]
  by_cases he : (rdOf ByteArray.empty l i).toList = s.toList
  ·refine ⟨i, Ev.step (f := fun _ => some (i, true)) (fun k => ?_) (by
     have : hasB (rdOf ByteArray.empty l i :: l.drop (i + 1).toNat) s = true := by unfold hasB; rw [List.any_cons, beq_iff_eq.mpr he.symm, Bool.true_or]
     rw [this]; exact Ev.now _)⟩
   simp only [qAS.l0]; rw [if_pos (by omega), if_pos h0, if_pos he]
  obtain ⟨r, hrec⟩ := ih (i + 1) (by omega) (by omega)
  refine ⟨r, Ev.step (f := fun k => qAS.l0 k l s (i + 1)) (fun k => ?_) (by
    have : hasB (rdOf ByteArray.empty l i :: l.drop (i + 1).toNat) s = hasB (l.drop (i + 1).toNat) s := by unfold hasB; rw [List.any_cons, beq_eq_false_iff_ne.mpr (fun e => he e.symm), Bool.false_or]
    rw [this]; exact hrec)⟩
  simp only [qAS.l0]; rw [if_pos (by omega), if_pos h0, if_neg he, qBD (n := l.length) h0 (by omega) hl]
theorem has_ev (l : List ByteArray) (s : ByteArray) (hl : l.length ≤ 4611686018427387904) : Ev (fun k => qB7.f k l s) (hasB l s) := by
 obtain ⟨r, h⟩ := find_ev l s hl l.length 0 (by omega) (by omega)
 exact Ev.congr (f := fun k => (qAS.l0 k l s 0).bind fun b => some b.2) (fun k => rfl) (Ev.bind h (Ev.now _))
theorem qDf (t : Int) : qAW.f t = some (okT t) := by
 unfold qAW.f
 by_cases h1 : t = 1
 ·subst h1; rfl
 by_cases h2 : t = 2
 ·subst h2; rfl
 rw [if_neg h1, if_neg h2]
 by_cases h3 : t = 3
 ·subst h3; rfl
 rw [qD4 (by omega), beq_eq_false_iff_ne.mpr h3]
theorem qDJ {α β : Type} (f : α → β) (l : List α) (d : α) (e : β) (i : Int) (h0 : 0 ≤ i) (h : i < l.length) : (l.map f).getD i.toNat e = f (l.getD i.toNat d) := by
 rw [List.getD_eq_getElem?_getD, List.getD_eq_getElem?_getD, List.getElem?_map, List.getElem?_eq_getElem (by omega)]; rfl
section
variable (l0 : List Int) (a1 : Int) (l2 : List Int) (l3 : List S144)
theorem sh2_ev (h3 : l3.length ≤ 4611686018427387904) (hu : l3.all u64S = true) : ∀ (d : Nat) (i : Int), 0 ≤ i → (l3.length : Int) - i = d → Ev (fun k => qAh.l2 k i l0 a1 l2 (l3.map toRI)) ((l3.drop i.toNat).all okS) := by
 intro d
 induction d with
 | zero =>
  intro i g0 hd
  rw [List.drop_eq_nil_of_le (by omega)]
  refine Ev.step (f := fun _ => some true) (fun k => ?_) (Ev.now _)
  simp only [qAh.l2]; rw [if_neg (by rw [List.length_map]; omega)]
 | succ d ih =>
  intro i g0 hd
  rw [qBg l3 z144 i g0 (by omega), List.all_cons]
  have hx : qAQ (l3.map toRI) i = toRI (l3.getD i.toNat z144) := qDJ toRI l3 _ _ i g0 (by omega)
  have hm := qDm l3 z144 i g0 (by omega)
  have hux := u64S_U (List.all_eq_true.1 hu _ hm)
  generalize l3.getD i.toNat z144 = x at hx hux hm
  have hr : qBa.f x.f0 x.f1 x.f2.f0 x.f2.f1 = some (okS x) := if_pos hux
  have hw := qBD (n := l3.length) g0 (by omega) h3
  cases hq : okS x with
  | false =>
   rw [Bool.false_and]
   refine Ev.step (f := fun _ => some false) (fun k => ?_) (Ev.now _)
   simp only [qAh.l2, hx]
   rw [if_pos (by rw [List.length_map]; omega), if_pos g0]
   show (qBa.f x.f0 x.f1 x.f2.f0 x.f2.f1).bind _ = _
   rw [hr, hq, Option.bind_some]; rfl
  | true =>
   rw [Bool.true_and]
   refine Ev.step (fun k => ?_) (ih (i + 1) (by omega) (by omega))
   simp only [qAh.l2, hx]
   rw [if_pos (by rw [List.length_map]; omega), if_pos g0]
   show (qBa.f x.f0 x.f1 x.f2.f0 x.f2.f1).bind _ = _
   rw [hr, hq, Option.bind_some, hw]; rfl
theorem sh1_ev (h2 : l2.length ≤ 4611686018427387904) (h3 : l3.length ≤ 4611686018427387904) (hu : l3.all u64S = true) : ∀ (d : Nat) (i : Int), 0 ≤ i → (l2.length : Int) - i = d → Ev (fun k => qAh.l1 k i l0 a1 l2 (l3.map toRI)) ((l2.drop i.toNat).all okT && l3.all okS) := by
 intro d
 induction d with
 | zero =>
  intro i g0 hd
  rw [List.drop_eq_nil_of_le (by omega)]
  refine Ev.step (fun k => ?_) (sh2_ev l0 a1 l2 l3 h3 hu l3.length 0 (by omega) (by omega))
  simp only [qAh.l1]; rw [if_neg (by omega)]
 | succ d ih =>
  intro i g0 hd
  rw [qBg l2 0 i g0 (by omega), List.all_cons, Bool.and_assoc]
  have hx : rd l2 i = l2.getD i.toNat 0 := rfl
  rw [← hx]
  have hw := qBD (n := l2.length) g0 (by omega) h2
  cases hq : okT (rd l2 i) with
  | false =>
   rw [Bool.false_and]
   refine Ev.step (f := fun _ => some false) (fun k => ?_) (Ev.now _)
   simp only [qAh.l1]
   rw [if_pos (by omega), if_pos g0, qDf, hq, Option.bind_some]; rfl
  | true =>
   rw [Bool.true_and]
   refine Ev.step (fun k => ?_) (ih (i + 1) (by omega) (by omega))
   simp only [qAh.l1]
   rw [if_pos (by omega), if_pos g0, qDf, hq, Option.bind_some, hw]; rfl
theorem sh0_ev (h0 : l0.length ≤ 4611686018427387904) (h2 : l2.length ≤ 4611686018427387904) (h3 : l3.length ≤ 4611686018427387904) (hu : l3.all u64S = true) : ∀ (d : Nat) (i : Int), 0 ≤ i → (l0.length : Int) - i = d → Ev (fun k => qAh.l0 k i l0 a1 l2 (l3.map toRI)) ((l0.drop i.toNat).all okT && (l2.all okT && l3.all okS)) := by
 intro d
 induction d with
 | zero =>
  intro i g0 hd
  rw [List.drop_eq_nil_of_le (by omega)]
  refine Ev.step (fun k => ?_) (sh1_ev l0 a1 l2 l3 h2 h3 hu l2.length 0 (by omega) (by omega))
  simp only [qAh.l0]; rw [if_neg (by omega)]
 | succ d ih =>
  intro i g0 hd
  rw [qBg l0 0 i g0 (by omega), List.all_cons, Bool.and_assoc]
  have hx : rd l0 i = l0.getD i.toNat 0 := rfl
  rw [← hx]
  have hw := qBD (n := l0.length) g0 (by omega) h0
  cases hq : okT (rd l0 i) with
  | false =>
   rw [Bool.false_and]
   refine Ev.step (f := fun _ => some false) (fun k => ?_) (Ev.now _)
   simp only [qAh.l0]
   rw [if_pos (by omega), if_pos g0, qDf, hq, Option.bind_some]; rfl
  | true =>
   rw [Bool.true_and]
   refine Ev.step (fun k => ?_) (ih (i + 1) (by omega) (by omega))
   simp only [qAh.l0]
   rw [if_pos (by omega), if_pos g0, qDf, hq, Option.bind_some, hw]; rfl
theorem sh_no : Ev (fun k => qAh.j0 k true l0 a1 l2 (l3.map toRI)) false :=
 Ev.step (f := fun _ => some false) (fun k => by simp only [qAh.j0, if_true]) (Ev.now _)
theorem shaped_ev (h0 : l0.length ≤ 4611686018427387904) (h2 : l2.length ≤ 4611686018427387904) (h3 : l3.length ≤ 4611686018427387904) (hu : l3.all u64S = true) : Ev (fun k => qAh.f k l0 a1 l2 (l3.map toRI)) (okFn l0 a1 l2 l3) := by
 have hyes : Ev (fun k => qAh.j0 k false l0 a1 l2 (l3.map toRI)) (l0.all okT && (l2.all okT && l3.all okS)) :=
  Ev.step (fun k => by simp only [qAh.j0]; rw [if_neg (by decide)]) (sh0_ev l0 a1 l2 l3 h0 h2 h3 hu l0.length 0 (by omega) (by omega))
 have hno := sh_no l0 a1 l2 l3
 unfold okFn
 by_cases c0 : l0.length ≤ 8
 rotate_left
 ·rw [decide_eq_false c0]
  simp only [Bool.false_and]
  exact Ev.congr (fun k => by unfold qAh.f; rw [if_pos (by omega)]) hno
 by_cases c2 : l2.length ≤ 64
 rotate_left
 ·rw [decide_eq_false c2]
  simp only [Bool.and_false, Bool.false_and]
  exact Ev.congr (fun k => by unfold qAh.f; rw [if_neg (by omega), if_pos (by omega)]) hno
 by_cases c3 : l3.length ≤ 4096
 rotate_left
 ·rw [decide_eq_false c3]
  simp only [Bool.and_false, Bool.false_and]
  exact Ev.congr (fun k => by unfold qAh.f; rw [if_neg (by omega), if_neg (by omega), if_pos (by rw [List.length_map]; omega)]) hno
 rw [decide_eq_true c0, decide_eq_true c2, decide_eq_true c3]
 cases ha : okT a1 with
 | true =>
  refine Ev.congr (f := fun k => qAh.j0 k false l0 a1 l2 (l3.map toRI)) (fun k => ?_) ?_
  ·unfold qAh.f
   rw [if_neg (by omega), if_neg (by omega), if_neg (by rw [List.length_map]; omega), qDf, ha, Option.bind_some]; rfl
  have e : (true && l0.all okT && (a1 == 0 || true) && true && l2.all okT && true && l3.all okS) = (l0.all okT && (l2.all okT && l3.all okS)) := by simp [Bool.and_assoc]
  rw [e]; exact hyes
 | false =>
  have hun : ∀ k, qAh.f k l0 a1 l2 (l3.map toRI) = qAh.j0 k (a1 != 0) l0 a1 l2 (l3.map toRI) := fun k => by
   unfold qAh.f
   rw [if_neg (by omega), if_neg (by omega), if_neg (by rw [List.length_map]; omega), qDf, ha, Option.bind_some]; rfl
  refine Ev.congr hun ?_
  by_cases hz : a1 = 0
  rotate_left
  ·rw [beq_eq_false_iff_ne.mpr hz, bne_iff_ne.mpr hz]
   have e : (true && l0.all okT && (false || false) && true && l2.all okT && true && l3.all okS) = false := by simp
   rw [e]; exact hno
  rw [beq_iff_eq.mpr hz, bne_eq_false_iff_eq.mpr hz]
  have e : (true && l0.all okT && (true || false) && true && l2.all okT && true && l3.all okS) = (l0.all okT && (l2.all okT && l3.all okS)) := by simp [Bool.and_assoc]
  rw [e]; exact hyes
end
def qCT (x : S144) : Int := if x.f0 = 4 ∨ x.f0 = 5 then 1 else if x.f0 = 10 then 2 else 0
theorem open_ev (x : S144) (a b c : Int) : Ev (fun k => qAG.f k x.f0 a b c) (qCT x) := by
 unfold qCT
 by_cases h4 : x.f0 = 4
 ·rw [if_pos (.inl h4)]
  refine Ev.congr (f := fun k => qAG.j0 k x.f0 true) (fun k => ?_) (Ev.step (f := fun _ => some 1) (fun k => by simp only [qAG.j0, if_true]) (Ev.now _))
  unfold qAG.f; rw [if_pos h4, beq_iff_eq.mpr h4]
 by_cases h5 : x.f0 = 5
 ·rw [if_pos (.inr h5)]
  refine Ev.congr (f := fun k => qAG.j0 k x.f0 true) (fun k => ?_) (Ev.step (f := fun _ => some 1) (fun k => by simp only [qAG.j0, if_true]) (Ev.now _))
  unfold qAG.f; rw [if_neg h4, beq_iff_eq.mpr h5]
 rw [if_neg (by omega)]
 have hun : ∀ k, qAG.f k x.f0 a b c = qAG.j0 k x.f0 false := fun k => by
  unfold qAG.f; rw [if_neg h4, beq_eq_false_iff_ne.mpr h5]
 by_cases h10 : x.f0 = 10
 ·rw [if_pos h10]
  exact Ev.congr hun (Ev.step (f := fun _ => some 2) (fun k => by simp only [qAG.j0]; rw [if_neg (by decide), if_pos h10]) (Ev.now _))
 rw [if_neg h10]
 exact Ev.congr hun (Ev.step (f := fun _ => some 0) (fun k => by simp only [qAG.j0]; rw [if_neg (by decide), if_neg h10]) (Ev.now _))
def qCK (f : Int) : Int → List S144 → List S104 → Option (List S104)
 | _, [], rs => some rs
 | i, x :: xs, rs => if qCT x = 0 then qCK f (i + 1) xs rs else if x.f1 ≠ 0 then none else match rs with
  | [] => none
  | r :: rs => if r.f0 = f ∧ r.f1 = i ∧ r.f2 = qCT x then qCK f (i + 1) xs rs else none
def qDr : Int → List S92 → List S104 → Bool
 | _, [], rs => rs.isEmpty
 | f, x :: xs, rs => match qCK f 0 x.f1.f2 rs with
  | none => false
  | some rs => qDr (f + 1) xs rs
def zOk (x : S144) : Bool := qCT x == 0 || x.f1 == 0
theorem placeOf_eq (f i : Int) (x : S144) : qC6 f i x = if qCT x = 0 then [] else [⟨f, i, qCT x, ⟨#[]⟩, ⟨#[]⟩⟩] := by
 unfold qC6 qCT
 by_cases h : x.f0 = 4 ∨ x.f0 = 5
 ·rw [if_pos h, if_pos h, if_neg (by decide)]
 rw [if_neg h, if_neg h]
 by_cases h2 : x.f0 = 10
 ·rw [if_pos h2, if_pos h2, if_neg (by decide)]
 rw [if_neg h2, if_neg h2, if_pos rfl]
theorem qD6 (f : Int) : ∀ (l : List S144) (i : Int) (rs rest : List S104), (qBU rs (qDu f i l ++ rest) && l.all zOk) = match qCK f i l rs with
  | none => false
  | some rs' => qBU rs' rest
 | [], i, rs, rest => by simp [qDu, qCK]
 | x :: xs, i, rs, rest => by
  simp only [qDu, qCK, List.all_cons]
  rw [placeOf_eq]
  by_cases h0 : qCT x = 0
  ·rw [if_pos h0, if_pos h0, List.nil_append]
   have hz : zOk x = true := by unfold zOk; rw [beq_iff_eq.mpr h0]; rfl
   rw [hz, Bool.true_and]
   exact qD6 f xs (i + 1) rs rest
  rw [if_neg h0, if_neg h0]
  by_cases h1 : x.f1 = 0
  rotate_left
  ·rw [if_pos h1]
   have hz : zOk x = false := by unfold zOk; rw [beq_eq_false_iff_ne.mpr h0, beq_eq_false_iff_ne.mpr h1]; rfl
   rw [hz, Bool.false_and, Bool.and_false]
  rw [if_neg (fun hh => hh h1)]
  have hz : zOk x = true := by unfold zOk; rw [beq_iff_eq.mpr h1, Bool.or_true]
  rw [hz, Bool.true_and]
  cases rs with
  | nil => rfl
  | cons r rs =>
   simp only [List.cons_append, List.nil_append, qBU, Bool.and_assoc]
   by_cases hb : r.f0 = f ∧ r.f1 = i ∧ r.f2 = qCT x
   ·rw [if_pos hb]
    have hbb : qFw r ⟨f, i, qCT x, ⟨#[]⟩, ⟨#[]⟩⟩ = true := by unfold qFw; simp [hb.1, hb.2.1, hb.2.2]
    rw [hbb, Bool.true_and]
    exact qD6 f xs (i + 1) rs rest
   rw [if_neg hb]
   have hbb : qFw r ⟨f, i, qCT x, ⟨#[]⟩, ⟨#[]⟩⟩ = false := by
    cases h : qFw r ⟨f, i, qCT x, ⟨#[]⟩, ⟨#[]⟩⟩ with
    | false => rfl
    | true => exact absurd (bareB_eq h) hb
   rw [hbb, Bool.false_and]
theorem qEE : ∀ (l : List S92) (f : Int) (rs : List S104), qDr f l rs = (qBU rs (fnsP f l) && l.all fun x => x.f1.f2.all zOk)
 | [], f, rs => by cases rs <;> simp [qDr, fnsP, qBU]
 | x :: xs, f, rs => by
  simp only [qDr, fnsP, List.all_cons]
  have h := qD6 f x.f1.f2 0 rs (fnsP (f + 1) xs)
  cases hz : qCK f 0 x.f1.f2 rs with
  | none =>
   rw [hz] at h
   rw [← Bool.and_assoc, h]; rfl
  | some rs' =>
   rw [hz] at h
   rw [← Bool.and_assoc, h]
   exact qEE xs (f + 1) rs'
theorem codeP_any (fns : List S92) (f : Int) (c : List S144) (hc : (qAy fns f).f1.f2 = c) : ∀ (d : Nat) (i : Nat), c.length - i = d → i ≤ c.length → ((qDu f (i : Int) (c.drop i)).any fun p => qCA fns p != 0) = !(c.drop i).all zOk := by
 intro d
 induction d with
 | zero => intro i hd hi; rw [List.drop_eq_nil_of_le (by omega)]; rfl
 | succ d ih =>
  intro i hd hi
  have hlt : i < c.length := by omega
  rw [List.drop_eq_getElem_cons hlt]
  simp only [qDu, List.any_append, List.all_cons, Bool.not_and]
  have := ih (i + 1) (by omega) (by omega)
  rw [show ((i + 1 : Nat) : Int) = (i : Int) + 1 from rfl] at this
  rw [this, placeOf_eq]
  congr 1
  by_cases h0 : qCT c[i] = 0
  ·rw [if_pos h0]
   unfold zOk; rw [beq_iff_eq.mpr h0]; rfl
  rw [if_neg h0]
  have hn : qCA fns ⟨f, (i : Int), qCT c[i], ⟨#[]⟩, ⟨#[]⟩⟩ = c[i].f1 := by
   unfold qCA
   simp only
   rw [hc]
   unfold qAH
   rw [Int.toNat_natCast, List.getD_eq_getElem?_getD, List.getElem?_eq_getElem hlt]; rfl
  simp only [List.any_cons, List.any_nil, Bool.or_false, hn]
  unfold zOk; rw [beq_eq_false_iff_ne.mpr h0, Bool.false_or]; rfl
theorem fnsP_any (fns : List S92) : ∀ (d : Nat) (f : Nat), fns.length - f = d → f ≤ fns.length → ((fnsP (f : Int) (fns.drop f)).any fun p => qCA fns p != 0) = !(fns.drop f).all fun x => x.f1.f2.all zOk := by
 intro d
 induction d with
 | zero => intro f hd hf; rw [List.drop_eq_nil_of_le (by omega)]; rfl
 | succ d ih =>
  intro f hd hf
  have hlt : f < fns.length := by omega
  rw [List.drop_eq_getElem_cons hlt]
  simp only [fnsP, List.any_append, List.all_cons, Bool.not_and]
  have := ih (f + 1) (by omega) (by omega)
  rw [show ((f + 1 : Nat) : Int) = (f : Int) + 1 from rfl] at this
  rw [this]
  congr 1
  have hrd : (qAy fns (f : Int)).f1.f2 = fns[f].f1.f2 := by
   unfold qAy
   rw [Int.toNat_natCast, List.getD_eq_getElem?_getD, List.getElem?_eq_getElem hlt]; rfl
  have := codeP_any fns f fns[f].f1.f2 hrd _ 0 rfl (Nat.zero_le _)
  simpa using this
theorem places_any (fns : List S92) : ((qB9 fns).any fun p => qCA fns p != 0) = !fns.all fun x => x.f1.f2.all zOk := by
 have := fnsP_any fns fns.length 0 rfl (Nat.zero_le _)
 simpa [qB9] using this
section
variable (m : ByteArray) (V : List S95) (fns : List S92) (rels : List S104)
theorem pl1_ev (hl : rels.length ≤ 4611686018427387904) (f : Int) (c : List S144) (hc : c.length ≤ 4611686018427387904) (R : Bool)
  (hrest : ∀ n : Int, 0 ≤ n → n ≤ rels.length → qCK f 0 c rels = qCK f 0 c rels → ∀ rs, rs = rels.drop n.toNat → Ev (fun k => qAo.l0 k n (wrap64 (f + 1)) m V (fns.map toRN) (rels.map toRR)) (qDr (f + 1) (fns.drop (f + 1).toNat) rs)) :
  ∀ (d : Nat) (i n : Int), 0 ≤ i → (c.length : Int) - i = d → 0 ≤ n → n ≤ rels.length →
  Ev (fun k => qAo.l1 k n f (c.map toRI) i m V (fns.map toRN) (rels.map toRR)) (match qCK f i (c.drop i.toNat) (rels.drop n.toNat) with
    | none => false
    | some rs => qDr (f + 1) (fns.drop (f + 1).toNat) rs) := by
 intro d
 induction d with
 | zero =>
  intro i n h0 hd hn hn2
  rw [List.drop_eq_nil_of_le (by omega)]
  simp only [qCK]
  refine Ev.step (fun k => ?_) (hrest n hn hn2 rfl _ rfl)
  simp only [qAo.l1]; rw [if_neg (by rw [List.length_map]; omega)]
 | succ d ih =>
  intro i n h0 hd hn hn2
  have hw := qBD (n := c.length) h0 (by omega) hc
  rw [qBg c z144 i h0 (by omega)]
  have hx : qAQ (c.map toRI) i = toRI (c.getD i.toNat z144) := qDJ toRI c _ _ i h0 (by omega)
  generalize c.getD i.toNat z144 = x at hx
  have ho := open_ev x x.f1 x.f2.f0 x.f2.f1
  simp only [qCK]
  have hun : ∀ k, qAo.l1 (k + 1) n f (c.map toRI) i m V (fns.map toRN) (rels.map toRR) = (qAG.f k x.f0 x.f1 x.f2.f0 x.f2.f1).bind fun t => (if t = 0 then (qAo.l1 k n f (c.map toRI) (i + 1) m V (fns.map toRN) (rels.map toRR)) else (if x.f1 = 0 then (qAo.j2 k n f (c.map toRI) i t (n == (rels.length : Int)) m V (fns.map toRN) (rels.map toRR)) else (qAo.j2 k n f (c.map toRI) i t true m V (fns.map toRN) (rels.map toRR)))) := fun k => by
   simp only [qAo.l1, hx, toRI]
   rw [if_pos (by rw [List.length_map]; omega), if_pos h0, hw]
   simp only [List.length_map]
  have hno : ∀ t, Ev (fun k => qAo.j2 k n f (c.map toRI) i t true m V (fns.map toRN) (rels.map toRR)) false := fun t =>
   Ev.step (f := fun _ => some false) (fun k => by simp only [qAo.j2, if_true]) (Ev.now _)
  by_cases hk : qCT x = 0
  ·rw [if_pos hk]
   refine Ev.step hun (Ev.bind ho ?_)
   simp only [hk, if_true]
   exact ih (i + 1) n (by omega) (by omega) hn hn2
  rw [if_neg hk]
  by_cases hf1 : x.f1 = 0
  rotate_left
  ·rw [if_pos hf1]
   refine Ev.step hun (Ev.bind ho ?_)
   simp only [if_neg hk, if_neg hf1]
   exact hno _
  rw [if_neg (fun hh => hh hf1)]
  refine Ev.step hun (Ev.bind ho ?_)
  simp only [if_neg hk, if_pos hf1]
  by_cases hlen : n = rels.length
  ·rw [List.drop_eq_nil_of_le (by omega), beq_iff_eq.mpr hlen]
   exact hno _
  rw [beq_eq_false_iff_ne.mpr hlen]
  rw [qBg rels z104 n hn (by omega)]
  have hr : qAE (rels.map toRR) n = toRR (rels.getD n.toNat z104) := qDJ toRR rels _ _ n hn (by omega)
  generalize rels.getD n.toNat z104 = r at hr
  have hwn := qBD (n := rels.length) hn (by omega) hl
  have hun2 : ∀ k, qAo.j2 (k + 1) n f (c.map toRI) i (qCT x) false m V (fns.map toRN) (rels.map toRR) = (if r.f0 = f then (if r.f1 = i then (if r.f2 = qCT x then qAo.l1 k (n + 1) f (c.map toRI) (i + 1) m V (fns.map toRN) (rels.map toRR) else some false) else some false) else some false) := fun k => by
   simp only [qAo.j2, hr, toRR]
   rw [if_neg (by decide), if_pos hn, if_pos (by rw [List.length_map]; omega), hw, hwn]
  by_cases b0 : r.f0 = f
  rotate_left
  ·simp only [if_neg (show ¬ (r.f0 = f ∧ r.f1 = i ∧ r.f2 = qCT x) from fun hh => b0 hh.1)]
   refine Ev.step (f := fun _ => some false) (fun k => (hun2 k).trans ?_) (Ev.now _)
   rw [if_neg b0]
  by_cases b1 : r.f1 = i
  rotate_left
  ·simp only [if_neg (show ¬ (r.f0 = f ∧ r.f1 = i ∧ r.f2 = qCT x) from fun hh => b1 hh.2.1)]
   refine Ev.step (f := fun _ => some false) (fun k => (hun2 k).trans ?_) (Ev.now _)
   rw [if_pos b0, if_neg b1]
  by_cases b2 : r.f2 = qCT x
  rotate_left
  ·simp only [if_neg (show ¬ (r.f0 = f ∧ r.f1 = i ∧ r.f2 = qCT x) from fun hh => b2 hh.2.2)]
   refine Ev.step (f := fun _ => some false) (fun k => (hun2 k).trans ?_) (Ev.now _)
   rw [if_pos b0, if_pos b1, if_neg b2]
  simp only [if_pos (show r.f0 = f ∧ r.f1 = i ∧ r.f2 = qCT x from ⟨b0, b1, b2⟩)]
  refine Ev.step (fun k => (hun2 k).trans ?_) (ih (i + 1) (n + 1) (by omega) (by omega) (by omega) (by omega))
  rw [if_pos b0, if_pos b1, if_pos b2]
theorem pl0_ev (hl : rels.length ≤ 4611686018427387904) (hfl : fns.length ≤ 2305843009213693952) (hf : ∀ x ∈ fns, x.f1.f2.length ≤ 4611686018427387904) : ∀ (d : Nat) (f n : Int), 0 ≤ f → (fns.length : Int) - f = d → 0 ≤ n → n ≤ rels.length →
  Ev (fun k => qAo.l0 k n f m V (fns.map toRN) (rels.map toRR)) (qDr f (fns.drop f.toNat) (rels.drop n.toNat)) := by
 intro d
 induction d with
 | zero =>
  intro f n h0 hd hn hn2
  rw [List.drop_eq_nil_of_le (by omega)]
  simp only [qDr]
  refine Ev.step (f := fun _ => some (n == (rels.length : Int))) (fun k => ?_) (by
    have e : (rels.drop n.toNat).isEmpty = (n == (rels.length : Int)) := by
      by_cases h : n = rels.length
      · rw [List.drop_eq_nil_of_le (by omega), beq_iff_eq.mpr h]; rfl
      rw [beq_eq_false_iff_ne.mpr h, qBg rels z104 n hn (by omega)]; rfl
    rw [e]; exact Ev.now _)
  simp only [qAo.l0, List.length_map]; rw [if_neg (by omega)]
 | succ d ih =>
  intro f n h0 hd hn hn2
  have hw := qBD (n := fns.length) h0 (by omega) (by omega)
  rw [qBg fns z92 f h0 (by omega)]
  have hx : qAM (fns.map toRN) f = toRN (fns.getD f.toNat z92) := qDJ toRN fns _ _ f h0 (by omega)
  have hm := qDm fns z92 f h0 (by omega)
  have hlx := hf _ hm
  generalize fns.getD f.toNat z92 = x at hx hm hlx
  simp only [qDr]
  have h1 := pl1_ev m V fns rels hl f x.f1.f2 hlx true (fun n hn hn2 _ rs hrs => by
    rw [hw, hrs]
    exact ih (f + 1) n (by omega) (by omega) hn hn2) x.f1.f2.length 0 n (by omega) (by omega) hn hn2
  refine Ev.step (fun k => ?_) h1
  simp only [qAo.l0, hx, toRN]
  rw [if_pos (by rw [List.length_map]; omega), if_pos h0]
theorem placed_ev (hl : rels.length ≤ 4611686018427387904) (hfl : fns.length ≤ 2305843009213693952) (hf : ∀ x ∈ fns, x.f1.f2.length ≤ 4611686018427387904) : Ev (fun k => qAo.f k m V (fns.map toRN) (rels.map toRR)) (qBU rels (qB9 fns) && !((qB9 fns).any fun p => qCA fns p != 0)) := by
 have h := pl0_ev m V fns rels hl hfl hf fns.length 0 0 (by omega) (by omega) (by omega) (by omega)
 rw [qEE] at h
 rw [places_any, Bool.not_not]
 exact h
end
section
variable (m : ByteArray) (vars : List S85) (fns : List S92) (rels : List S104)
theorem hasB_map {α : Type} (f : α → ByteArray) (x : α) (xs : List α) (s : ByteArray) : hasB ((x :: xs).map f) s = (s.toList == (f x).toList || hasB (xs.map f) s) := by
 unfold hasB; rw [List.map_cons, List.any_cons]
theorem defv_ev (hl : vars.length ≤ 4611686018427387904) (a b c : Int) (e s : ByteArray) : ∀ (d : Nat) (i : Int), 0 ≤ i → (vars.length : Int) - i = d →
  Ev (fun k => qA2.l0 k i m (vars.map toRV) (fns.map toRN) (rels.map toRR) a b c e s) (hasB ((vars.drop i.toNat).map (·.f0)) s) := by
 intro d
 induction d with
 | zero =>
  intro i h0 hd
  rw [List.drop_eq_nil_of_le (by omega)]
  refine Ev.step (f := fun _ => some false) (fun k => ?_) (Ev.now _)
  simp only [qA2.l0]; rw [if_neg (by rw [List.length_map]; omega)]
 | succ d ih =>
  intro i h0 hd
  have hw := qBD (n := vars.length) h0 (by omega) hl
  rw [qBg vars z85 i h0 (by omega), hasB_map]
  have hx : qCo (vars.map toRV) i = toRV (vars.getD i.toNat z85) := qDJ toRV vars _ _ i h0 (by omega)
  generalize vars.getD i.toNat z85 = x at hx
  by_cases he : x.f0.toList = s.toList
  ·rw [beq_iff_eq.mpr he.symm, Bool.true_or]
   refine Ev.step (f := fun _ => some true) (fun k => ?_) (Ev.now _)
   simp only [qA2.l0, hx, toRV]
   rw [if_pos (by rw [List.length_map]; omega), if_pos h0, if_pos he]
  rw [beq_eq_false_iff_ne.mpr (fun h => he h.symm), Bool.false_or]
  refine Ev.step (fun k => ?_) (ih (i + 1) (by omega) (by omega))
  simp only [qA2.l0, hx, toRV]
  rw [if_pos (by rw [List.length_map]; omega), if_pos h0, if_neg he, hw]
theorem deff_ev (hl : fns.length ≤ 4611686018427387904) (a b c : Int) (e s : ByteArray) : ∀ (d : Nat) (i : Int), 0 ≤ i → (fns.length : Int) - i = d →
  Ev (fun k => qA2.l1 k i m (vars.map toRV) (fns.map toRN) (rels.map toRR) a b c e s) (hasB ((fns.drop i.toNat).map (·.f0)) s) := by
 intro d
 induction d with
 | zero =>
  intro i h0 hd
  rw [List.drop_eq_nil_of_le (by omega)]
  refine Ev.step (f := fun _ => some false) (fun k => ?_) (Ev.now _)
  simp only [qA2.l1]; rw [if_neg (by rw [List.length_map]; omega)]
 | succ d ih =>
  intro i h0 hd
  have hw := qBD (n := fns.length) h0 (by omega) hl
  rw [qBg fns z92 i h0 (by omega), hasB_map]
  have hx : qAM (fns.map toRN) i = toRN (fns.getD i.toNat z92) := qDJ toRN fns _ _ i h0 (by omega)
  generalize fns.getD i.toNat z92 = x at hx
  by_cases he : x.f0.toList = s.toList
  ·rw [beq_iff_eq.mpr he.symm, Bool.true_or]
   refine Ev.step (f := fun _ => some true) (fun k => ?_) (Ev.now _)
   simp only [qA2.l1, hx, toRN]
   rw [if_pos (by rw [List.length_map]; omega), if_pos h0, if_pos he]
  rw [beq_eq_false_iff_ne.mpr (fun h => he h.symm), Bool.false_or]
  refine Ev.step (fun k => ?_) (ih (i + 1) (by omega) (by omega))
  simp only [qA2.l1, hx, toRN]
  rw [if_pos (by rw [List.length_map]; omega), if_pos h0, if_neg he, hw]
theorem def_ev (hv : vars.length ≤ 4611686018427387904) (hf : fns.length ≤ 4611686018427387904) (a b c : Int) (e s : ByteArray) :
  Ev (fun k => qA2.f k m (vars.map toRV) (fns.map toRN) (rels.map toRR) a b c e s) (if c = 1 then hasB (vars.map (·.f0)) s else hasB (fns.map (·.f0)) s) := by
 by_cases h : c = 1
 ·rw [if_pos h]
  exact Ev.congr (fun k => by unfold qA2.f; rw [if_pos h]) (defv_ev m vars fns rels hv a b c e s vars.length 0 (by omega) (by omega))
 ·rw [if_neg h]
  exact Ev.congr (fun k => by unfold qA2.f; rw [if_neg h]) (deff_ev m vars fns rels hf a b c e s fns.length 0 (by omega) (by omega))
theorem r2_ev (hr : rels.length ≤ 4611686018427387904) (hv : vars.length ≤ 4611686018427387904) (hf : fns.length ≤ 4611686018427387904) (hk : ∀ r ∈ rels, r.f2 = 1 ∨ r.f2 = 2) : ∀ (d : Nat) (i : Int), 0 ≤ i → (rels.length : Int) - i = d →
  Ev (fun k => qAi.l2 k i m (vars.map toRV) (fns.map toRN) (rels.map toRR)) (if (rels.drop i.toNat).any (qCB m (vars.map (·.f0)) (fns.map (·.f0))) = true then 52 else 0) := by
 intro d
 induction d with
 | zero =>
  intro i h0 hd
  rw [List.drop_eq_nil_of_le (by omega)]
  refine Ev.step (f := fun _ => some 0) (fun k => ?_) (Ev.now _)
  simp only [qAi.l2]; rw [if_neg (by rw [List.length_map]; omega)]
 | succ d ih =>
  intro i h0 hd
  have hw := qBD (n := rels.length) h0 (by omega) hr
  rw [qBg rels z104 i h0 (by omega), List.any_cons]
  have hx : qAE (rels.map toRR) i = toRR (rels.getD i.toNat z104) := qDJ toRR rels _ _ i h0 (by omega)
  have hkx := hk _ (qDm rels z104 i h0 (by omega))
  generalize rels.getD i.toNat z104 = x at hx hkx
  have hdef := def_ev m vars fns rels hv hf x.f0 x.f1 x.f2 x.f3 x.f4
  have hrec := ih (i + 1) (by omega) (by omega)
  by_cases ho : x.f3.toList = m.toList
  rotate_left
  ·have hrb : qCB m (vars.map (·.f0)) (fns.map (·.f0)) x = decide (x.f2 = 1) := by unfold qCB; rw [if_neg ho]
   rw [hrb]
   by_cases h1 : x.f2 = 1
   rotate_left
   ·rw [decide_eq_false h1, Bool.false_or]
    refine Ev.step (fun k => ?_) hrec
    simp only [qAi.l2, hx, toRR]
    rw [if_pos (by rw [List.length_map]; omega), if_pos h0, if_neg ho, if_neg h1, hw]
   rw [decide_eq_true h1, Bool.true_or, if_pos rfl]
   refine Ev.step (f := fun _ => some 52) (fun k => ?_) (Ev.now _)
   simp only [qAi.l2, hx, toRR]
   rw [if_pos (by rw [List.length_map]; omega), if_pos h0, if_neg ho, if_pos h1]
  have hrb : qCB m (vars.map (·.f0)) (fns.map (·.f0)) x = !(if x.f2 = 1 then hasB (vars.map (·.f0)) x.f4 else hasB (fns.map (·.f0)) x.f4) := by
   unfold qCB
   rw [if_pos ho]
   by_cases h1 : x.f2 = 1
   ·rw [if_pos h1, if_pos h1]
   rw [if_neg h1, if_neg h1, if_pos (by omega)]
  rw [hrb]
  refine Ev.step (f := fun k => (qA2.f k m (vars.map toRV) (fns.map toRN) (rels.map toRR) x.f0 x.f1 x.f2 x.f3 x.f4).bind fun t => (if t = true then qAi.l2 k (i + 1) m (vars.map toRV) (fns.map toRN) (rels.map toRR) else some 52)) (fun k => ?_) (Ev.bind hdef ?_)
  ·simp only [qAi.l2, hx, toRR]
   rw [if_pos (by rw [List.length_map]; omega), if_pos h0, if_pos ho, hw]
  cases (if x.f2 = 1 then hasB (vars.map (·.f0)) x.f4 else hasB (fns.map (·.f0)) x.f4) with
  | false => simp; exact Ev.now _
  | true => simpa using hrec
theorem relNames_s (x : S104) (xs : List S104) (h : Names.nameE x.f3 = 0) (h2 : Names.nameE x.f4 = 0) : qB6 (x :: xs) = qB6 xs := by
 rw [qB6, if_neg (fun q => q h), if_neg (fun q => q h2)]
theorem relNames_a (x : S104) (xs : List S104) (h : Names.nameE x.f3 ≠ 0) : qB6 (x :: xs) = Names.nameE x.f3 := by
 rw [qB6, if_pos h]
theorem relNames_b (x : S104) (xs : List S104) (h : Names.nameE x.f3 = 0) (h2 : Names.nameE x.f4 ≠ 0) : qB6 (x :: xs) = Names.nameE x.f4 := by
 rw [qB6, if_neg (fun q => q h), if_pos h2]
theorem varsE_s (a : List ByteArray) (x : S85) (xs : List S85) (h : qBy x.f0 a = 0) (h2 : okV x.f1.f0 x.f1.f1 = true) : qDq a (x :: xs) = qDq (a ++ [x.f0]) xs := by
 rw [qDq, if_neg (fun q => q h), if_neg (by rw [h2]; decide)]
theorem varsE_a (a : List ByteArray) (x : S85) (xs : List S85) (h : qBy x.f0 a ≠ 0) : qDq a (x :: xs) = qBy x.f0 a := by
 rw [qDq, if_pos h]
theorem varsE_b (a : List ByteArray) (x : S85) (xs : List S85) (h : qBy x.f0 a = 0) (h2 : okV x.f1.f0 x.f1.f1 = false) : qDq a (x :: xs) = 52 := by
 rw [qDq, if_neg (fun q => q h), if_pos h2]
theorem fnsE_s (a : List ByteArray) (x : S92) (xs : List S92) (h : qBy x.f0 a = 0) (h2 : fnOk x = true) : fnsE a (x :: xs) = fnsE (a ++ [x.f0]) xs := by
 rw [fnsE, if_neg (fun q => q h), if_neg (by rw [h2]; decide)]
theorem fnsE_a (a : List ByteArray) (x : S92) (xs : List S92) (h : qBy x.f0 a ≠ 0) : fnsE a (x :: xs) = qBy x.f0 a := by
 rw [fnsE, if_pos h]
theorem fnsE_b (a : List ByteArray) (x : S92) (xs : List S92) (h : qBy x.f0 a = 0) (h2 : fnOk x = false) : fnsE a (x :: xs) = 52 := by
 rw [fnsE, if_neg (fun q => q h), if_pos h2]
theorem r1_ev (hr : rels.length ≤ 4611686018427387904) (hs : ∀ r ∈ rels, qBP r.f3 ∧ qBP r.f4) (hv : vars.length ≤ 4611686018427387904) (hf : fns.length ≤ 4611686018427387904) (hk : ∀ r ∈ rels, r.f2 = 1 ∨ r.f2 = 2) : ∀ (d : Nat) (i : Int), 0 ≤ i → (rels.length : Int) - i = d →
  Ev (fun k => qAi.l1 k i m (vars.map toRV) (fns.map toRN) (rels.map toRR)) (if qB6 (rels.drop i.toNat) ≠ 0 then qB6 (rels.drop i.toNat) else if rels.any (qCB m (vars.map (·.f0)) (fns.map (·.f0))) = true then 52 else 0) := by
 intro d
 induction d with
 | zero =>
  intro i h0 hd
  rw [List.drop_eq_nil_of_le (by omega)]
  refine Ev.step (fun k => ?_) (r2_ev m vars fns rels hr hv hf hk rels.length 0 (by omega) (by omega))
  simp only [qAi.l1]; rw [if_neg (by rw [List.length_map]; omega)]
 | succ d ih =>
  intro i h0 hd
  have hw := qBD (n := rels.length) h0 (by omega) hr
  rw [qBg rels z104 i h0 (by omega)]
  have hx : qAE (rels.map toRR) i = toRR (rels.getD i.toNat z104) := qDJ toRR rels _ _ i h0 (by omega)
  have hsx := hs _ (qDm rels z104 i h0 (by omega))
  generalize rels.getD i.toNat z104 = x at hx hsx
  have hn3 : qAD.f x.f3 = some (Names.nameE x.f3) := if_pos hsx.1
  have hn4 : qAD.f x.f4 = some (Names.nameE x.f4) := if_pos hsx.2
  have hun : ∀ k, qAi.l1 (k + 1) i m (vars.map toRV) (fns.map toRN) (rels.map toRR) = (if Names.nameE x.f3 = 0 then (if Names.nameE x.f4 = 0 then qAi.l1 k (i + 1) m (vars.map toRV) (fns.map toRN) (rels.map toRR) else some (Names.nameE x.f4)) else some (Names.nameE x.f3)) := fun k => by
   simp only [qAi.l1, hx, toRR]
   rw [if_pos (by rw [List.length_map]; omega), if_pos h0, hn3, Option.bind_some, hn4, Option.bind_some, hw]
  by_cases h3 : Names.nameE x.f3 = 0
  rotate_left
  ·rw [relNames_a _ _ h3, if_pos h3]
   refine Ev.step (f := fun _ => some (Names.nameE x.f3)) (fun k => (hun k).trans ?_) (Ev.now _)
   rw [if_neg h3]
  by_cases h4 : Names.nameE x.f4 = 0
  ·rw [relNames_s _ _ h3 h4]
   refine Ev.step (fun k => (hun k).trans ?_) (ih (i + 1) (by omega) (by omega))
   rw [if_pos h3, if_pos h4]
  rw [relNames_b _ _ h3 h4, if_pos h4]
  refine Ev.step (f := fun _ => some (Names.nameE x.f4)) (fun k => (hun k).trans ?_) (Ev.now _)
  rw [if_pos h3, if_neg h4]
theorem kinds_of (h : qBU rels (qB9 fns) = true) : ∀ r ∈ rels, r.f2 = 1 ∨ r.f2 = 2 := by
 intro r hr
 obtain ⟨y, hy, hb⟩ := qEx _ _ h r hr
 have h2 := (bareB_eq hb).2.2
 have : ∀ (l : List S144) (f i : Int) (p : S104), p ∈ qDu f i l → p.f2 = 1 ∨ p.f2 = 2 := by
  intro l
  induction l with
  | nil => intro f i p hp; simp [qDu] at hp
  | cons x xs ih =>
   intro f i p hp
   simp only [qDu, List.mem_append] at hp
   rcases hp with hp | hp
   ·unfold qC6 at hp
    (repeat' split at hp) <;> simp at hp <;> subst hp <;> simp
   exact ih f (i + 1) p hp
 have : ∀ (l : List S92) (f : Int) (p : S104), p ∈ fnsP f l → p.f2 = 1 ∨ p.f2 = 2 := by
  intro l
  induction l with
  | nil => intro f p hp; simp [fnsP] at hp
  | cons x xs ih =>
   intro f p hp
   simp only [fnsP, List.mem_append] at hp
   rcases hp with hp | hp
   ·exact this _ _ _ _ hp
   exact ih (f + 1) p hp
 rw [h2]; exact this fns 0 y hy
theorem rend_ev (hg : qD2 m vars fns rels) (ahead : List ByteArray) : Ev (fun k => (qAo.f k m (vars.map toRV) (fns.map toRN) (rels.map toRR)).bind fun t => (if t = true then qAi.l1 k 0 m (vars.map toRV) (fns.map toRN) (rels.map toRR) else some 52)) (qDg m fns rels (vars.map (·.f0)) (fns.map (·.f0))) := by
 have h1 := hg.vl
 have h2 := hg.fl
 refine Ev.bind (placed_ev m (vars.map toRV) fns rels hg.rl hg.fl (fun x hx => (hg.f x hx).2.2.2.1)) ?_
 unfold qDg
 cases he : qBU rels (qB9 fns) with
 | false => rw [if_pos rfl]; simp; exact Ev.now _
 | true =>
  rw [if_neg (by decide)]
  cases ha : (qB9 fns).any fun p => qCA fns p != 0 with
  | true => rw [if_pos rfl]; simp; exact Ev.now _
  | false =>
   rw [if_neg (by decide)]
   simp only [Bool.not_false, Bool.and_true, if_true]
   exact r1_ev m vars fns rels hg.rl hg.r (by omega) (by omega) (kinds_of fns rels he) rels.length 0 (by omega) (by omega)
theorem j1_un (ahead : List ByteArray) (hal : ahead.length ≤ 64) (i : Int) (s : ByteArray) (hs : qBP s) (b : Bool) (R : Int)
  (h : qBy s ahead = 0 → b = true → Ev (fun k => qAi.l0 k (ahead ++ [s]) (wrap64 (i + 1)) m (vars.map toRV) (fns.map toRN) (rels.map toRR)) R)
  (h0 : qBy s ahead ≠ 0 → R = qBy s ahead) (h1 : qBy s ahead = 0 → b = false → R = 52) :
  Ev (fun k => qAi.j1 k ahead i s b m (vars.map toRV) (fns.map toRN) (rels.map toRR)) R := by
 have hn : qAD.f s = some (Names.nameE s) := if_pos hs
 have hh := has_ev ahead s (by omega)
 unfold qBy at h h0 h1
 by_cases hz : Names.nameE s = 0
 ·rw [if_neg (fun q => q hz)] at h h0 h1
  refine Ev.step (f := fun k => (qB7.f k ahead s).bind fun t => (if t = true then some 20 else (if b = true then (if ahead.length < 8796093022208 then qAi.l0 k (ahead ++ [s]) (wrap64 (i + 1)) m (vars.map toRV) (fns.map toRN) (rels.map toRR) else none) else some 52))) (fun k => ?_) (Ev.bind hh ?_)
  ·simp only [qAi.j1]
   rw [hn, Option.bind_some, if_pos hz]
  ·cases hb : hasB ahead s with
   | true =>
    rw [hb] at h0
    rw [h0 (by simp)]
    simp; exact Ev.now _
   | false =>
    rw [hb] at h h1
    cases b with
    | true =>
     have := h (by simp) rfl
     simpa [show ahead.length < 8796093022208 from by omega] using this
    | false =>
     rw [h1 (by simp) rfl]
     simp; exact Ev.now _
 ·rw [if_pos hz] at h0
  rw [h0 hz]
  refine Ev.step (f := fun _ => some (Names.nameE s)) (fun k => ?_) (Ev.now _)
  simp only [qAi.j1]
  rw [hn, Option.bind_some, if_neg hz]
theorem rf_ev (hg : qD2 m vars fns rels) (hc : vars.length + fns.length ≤ 64) : ∀ (d : Nat) (j : Nat) (ahead : List ByteArray), fns.length - j = d → j ≤ fns.length → ahead.length = vars.length + j →
  Ev (fun k => qAi.l0 k ahead ((vars.length + j : Nat) : Int) m (vars.map toRV) (fns.map toRN) (rels.map toRR)) (if fnsE ahead (fns.drop j) ≠ 0 then fnsE ahead (fns.drop j) else qDg m fns rels (vars.map (·.f0)) (fns.map (·.f0))) := by
 have hsum : wrap64 (((vars.map toRV).length : Int) + ((fns.map toRN).length : Int)) = (vars.length : Int) + (fns.length : Int) := by rw [List.length_map, List.length_map]; exact qET hg.vl hg.fl
 intro d
 induction d with
 | zero =>
  intro j ahead hd hj hal
  rw [List.drop_eq_nil_of_le (by omega)]
  simp only [fnsE, ne_eq, not_true_eq_false, if_false]
  refine Ev.step (fun k => ?_) (rend_ev m vars fns rels hg ahead)
  simp only [qAi.l0]
  rw [hsum, if_neg (by omega)]
 | succ d ih =>
  intro j ahead hd hj hal
  have hlt : j < fns.length := by omega
  rw [List.drop_eq_getElem_cons hlt]
  have hx : qAM (fns.map toRN) (j : Int) = toRN fns[j] := by
   have := qDJ toRN fns z92 z100 (j : Int) (by omega) (by omega)
   unfold qAM
   rw [this, Int.toNat_natCast, List.getD_eq_getElem?_getD, List.getElem?_eq_getElem hlt]; rfl
  obtain ⟨g1, g2, g3, g4, g5⟩ := hg.f fns[j] (List.getElem_mem hlt)
  generalize hxx : fns[j] = x at hx g1 g2 g3 g4 g5
  have hsh := shaped_ev x.f1.f0.f0 x.f1.f0.f1 x.f1.f1 x.f1.f2 g2 g3 g4 g5
  have hwi : wrap64 (((vars.length + j : Nat) : Int) - ((vars.map toRV).length : Int)) = (j : Int) := by rw [List.length_map]; unfold wrap64; omega
  refine Ev.step (f := fun k => (qAh.f k x.f1.f0.f0 x.f1.f0.f1 x.f1.f1 (x.f1.f2.map toRI)).bind fun t => qAi.j1 k ahead ((vars.length + j : Nat) : Int) x.f0 t m (vars.map toRV) (fns.map toRN) (rels.map toRR)) (fun k => ?_) (Ev.bind hsh ?_)
  ·simp only [qAi.l0]
   rw [hsum, if_pos (by omega), if_neg (by rw [List.length_map]; omega), hwi, if_pos (by omega), if_pos (by rw [List.length_map]; omega), hx]
   rfl
  refine j1_un m vars fns rels ahead (by omega) _ x.f0 g1 _ _ (fun hz hb => ?_) (fun hz => ?_) (fun hz hb => ?_)
  ·have hb' : fnOk x = true := hb
   have hrec := ih (j + 1) (ahead ++ [x.f0]) (by omega) (by omega) (by simp [hal]; omega)
   have hw : wrap64 (((vars.length + j : Nat) : Int) + 1) = ((vars.length + (j + 1) : Nat) : Int) := by unfold wrap64; omega
   rw [hw]
   rw [fnsE_s _ _ _ hz hb']
   exact hrec
  ·rw [fnsE_a _ _ _ hz, if_pos hz]
  have hb' : fnOk x = false := hb
  rw [fnsE_b _ _ _ hz hb']; rfl
theorem rv_ev (hg : qD2 m vars fns rels) (hc : vars.length + fns.length ≤ 64) : ∀ (d : Nat) (j : Nat) (ahead : List ByteArray), vars.length - j = d → j ≤ vars.length → ahead = (vars.take j).map (·.f0) →
  Ev (fun k => qAi.l0 k ahead (j : Int) m (vars.map toRV) (fns.map toRN) (rels.map toRR)) (if qDq ahead (vars.drop j) ≠ 0 then qDq ahead (vars.drop j) else if fnsE (vars.map (·.f0)) fns ≠ 0 then fnsE (vars.map (·.f0)) fns else qDg m fns rels (vars.map (·.f0)) (fns.map (·.f0))) := by
 have hsum : wrap64 (((vars.map toRV).length : Int) + ((fns.map toRN).length : Int)) = (vars.length : Int) + (fns.length : Int) := by rw [List.length_map, List.length_map]; exact qET hg.vl hg.fl
 intro d
 induction d with
 | zero =>
  intro j ahead hd hj ha
  obtain rfl : j = vars.length := by omega
  rw [List.drop_eq_nil_of_le (Nat.le_refl _)]
  rw [List.take_of_length_le (Nat.le_refl _)] at ha
  simp only [qDq, ne_eq, not_true_eq_false, if_false]
  have h := rf_ev m vars fns rels hg hc fns.length 0 ahead (by omega) (by omega) (by rw [ha]; simp)
  rw [ha] at h ⊢
  exact h
 | succ d ih =>
  intro j ahead hd hj ha
  have hlt : j < vars.length := by omega
  rw [List.drop_eq_getElem_cons hlt]
  have hx : qCo (vars.map toRV) (j : Int) = toRV vars[j] := by
   have := qDJ toRV vars z85 z95 (j : Int) (by omega) (by omega)
   unfold qCo
   rw [this, Int.toNat_natCast, List.getD_eq_getElem?_getD, List.getElem?_eq_getElem hlt]; rfl
  obtain ⟨g1, g2, g3⟩ := hg.v vars[j] (List.getElem_mem hlt)
  have htk : (vars.take (j + 1)).map (·.f0) = ahead ++ [vars[j].f0] := by rw [List.take_succ_eq_append_getElem hlt, List.map_append, ha]; rfl
  generalize hxx : vars[j] = x at hx g1 g2 g3 htk
  have hrt : qBH.f x.f1.f0 x.f1.f1 = some (okV x.f1.f0 x.f1.f1) := if_pos ⟨g2, g3⟩
  have hal : ahead.length ≤ 64 := by rw [ha]; simp; omega
  refine Ev.step (f := fun k => qAi.j1 k ahead (j : Int) x.f0 (okV x.f1.f0 x.f1.f1) m (vars.map toRV) (fns.map toRN) (rels.map toRR)) (fun k => ?_) ?_
  ·simp only [qAi.l0]
   rw [hsum, if_pos (by omega), if_pos (by rw [List.length_map]; omega), if_pos (by omega), hx]
   simp only [toRV]
   rw [hrt, Option.bind_some]
  refine j1_un m vars fns rels ahead hal _ x.f0 g1 _ _ (fun hz hb => ?_) (fun hz => ?_) (fun hz hb => ?_)
  ·have hrec := ih (j + 1) (ahead ++ [x.f0]) (by omega) (by omega) htk.symm
   have hw : wrap64 ((j : Int) + 1) = ((j + 1 : Nat) : Int) := by unfold wrap64; omega
   rw [hw]
   rw [varsE_s _ _ _ hz hb]
   exact hrec
  ·rw [varsE_a _ _ _ hz, if_pos hz]
  rw [varsE_b _ _ _ hz hb]; rfl
theorem rright_ev (hg : qD2 m vars fns rels) : Ev (fun k => qAi.f k m (vars.map toRV) (fns.map toRN) (rels.map toRR)) (qC0 m vars fns rels) := by
 have hn : qAD.f m = some (Names.nameE m) := if_pos hg.m
 have hsum : wrap64 (((vars.map toRV).length : Int) + ((fns.map toRN).length : Int)) = (vars.length : Int) + (fns.length : Int) := by rw [List.length_map, List.length_map]; exact qET hg.vl hg.fl
 have hunf : ∀ k, qAi.f k m (vars.map toRV) (fns.map toRN) (rels.map toRR) = (if Names.nameE m = 0 then (if (vars.length : Int) + (fns.length : Int) > 64 then some 3 else qAi.l0 k [] 0 m (vars.map toRV) (fns.map toRN) (rels.map toRR)) else some (Names.nameE m)) := fun k => by
  unfold qAi.f
  rw [hn, hsum, Option.bind_some]
 refine Ev.congr hunf ?_
 unfold qC0
 by_cases h : Names.nameE m = 0
 rotate_left
 ·rw [if_pos h]
  simp only [if_neg h]
  exact Ev.now _
 rw [if_neg (fun hh => hh h)]
 simp only [if_pos h]
 by_cases hc : 64 < vars.length + fns.length
 ·rw [if_pos hc]
  have hc' : (vars.length : Int) + (fns.length : Int) > 64 := by omega
  simp only [if_pos hc']
  exact Ev.now _
 rw [if_neg hc]
 have hc' : ¬ (vars.length : Int) + (fns.length : Int) > 64 := by omega
 simp only [if_neg hc']
 exact rv_ev m vars fns rels hg (by omega) vars.length 0 [] (by omega) (by omega) (by simp)
end
end Q
end
section
namespace Q
open Go.RowKit PA PC PB
open Val Ins DecLaw Wr Enc
theorem equal_self (l : List Int) (hl : l.length ≤ 4611686018427387904) : Ev (fun k => qA8.f k l l) true := by
 have hloop : ∀ (d : Nat) (i : Int), 0 ≤ i → (l.length : Int) - i = d → Ev (fun k => qA8.l0 k l l (l.length : Int) i) true := by
  intro d
  induction d with
  | zero =>
   intro i h0 hd
   refine Ev.step (f := fun _ => some true) (fun k => ?_) (Ev.now _)
   simp only [qA8.l0]
   rw [if_neg (by omega)]
  | succ d ih =>
   intro i h0 hd
   refine Ev.step (fun k => ?_) (ih (i + 1) (by omega) (by omega))
   simp only [qA8.l0]
   rw [if_pos (by omega), if_pos h0, if_pos (by omega), if_pos (by omega), if_pos trivial, qBD (n := l.length) h0 (by omega) hl]
 refine Ev.congr (fun k => ?_) (hloop l.length 0 (by omega) (by omega))
 unfold qA8.f
 rw [if_pos rfl]
theorem tailP_ev (m : ByteArray) (vs : List S85) (fs : List S92) (rs : List S104) (hg : qD2 m vs fs rs) (hl : ¬ 16384 < (qDp m vs fs rs).length) : Ev (tailP (qDp m vs fs rs) (m, vs, fs, rs)) (if qC0 m vs fs rs = 0 then (m, vs, fs, rs, 0) else errP) := by
 have hp : qBw.f m vs fs rs = (if qC0 m vs fs rs ≠ 0 then some ([], qC0 m vs fs rs) else if 16384 < (qDp m vs fs rs).length then some ([], 3) else some (qDp m vs fs rs, 0)) := if_pos hg
 by_cases h : qC0 m vs fs rs = 0
 rotate_left
 ·rw [if_pos h] at hp
  rw [if_neg h]
  refine Ev.congr (f := fun _ => some errP) (fun k => ?_) (Ev.now _)
  unfold tailP
  rw [hp, Option.bind_some, if_neg h]
 rw [if_neg (fun q => q h), if_neg hl] at hp
 rw [if_pos h]
 refine Ev.congr (f := fun k => (qA8.f k (qDp m vs fs rs) (qDp m vs fs rs)).bind fun t => (if t = true then some (m, vs, fs, rs, 0) else some errP)) (fun k => ?_) (Ev.bind (equal_self _ (by omega)) ?_)
 ·unfold tailP
  rw [hp, Option.bind_some, if_pos rfl]
 simp only [if_true]; exact Ev.now _
theorem tailR_ev (m : ByteArray) (vs : List S85) (fs : List S92) (rs : List S104) (hg : qD2 m vs fs rs) : Ev (tailR (m, vs, fs, rs)) (if qC0 m vs fs rs = 0 then (m, vs.map toRV, fs.map toRN, rs.map toRR, 0) else errR) := by
 unfold tailR
 refine Ev.bind (rright_ev m vs fs rs hg) ?_
 by_cases h : qC0 m vs fs rs = 0
 ·simp only [if_pos h]; exact Ev.now _
 simp only [if_neg h]; exact Ev.now _
theorem good_nil : qD2 ⟨#[]⟩ [] [] [] := ⟨by show (0 : Nat) ≤ _; omega, by simp, by simp, by simp, by simp, by simp, by simp⟩
theorem both (b : List Int) (hb : qBn b) : ∃ m vs fs rs e, Ev (fun k => qAd.f k b) (m, vs, fs, rs, e) ∧ Ev (fun k => qAc.f k b) (m, vs.map toRV, fs.map toRN, rs.map toRR, e) ∧ qD2 m vs fs rs := by
 by_cases hl : 16384 < b.length
 ·exact ⟨⟨#[]⟩, [], [], [], 3, unpack_big b hl, runpack_big b hl, good_nil⟩
 cases hw : qF0 b with
 | none =>
  exact ⟨⟨#[]⟩, [], [], [], 52, qFo b hb _ hl ⟨fun o ho => (by rw [hw] at ho; cases ho), fun _ => rfl⟩, runpack_ev b hb _ hl ⟨fun o ho => (by rw [hw] at ho; cases ho), fun _ => rfl⟩, good_nil⟩
 | some o =>
  obtain ⟨m, vs, fs, rs⟩ := o
  obtain ⟨hpk, hg⟩ := whole_wr hb hw
  simp only at hpk hg
  have ht := tailP_ev m vs fs rs hg (by rw [← hpk]; exact hl)
  have hr := tailR_ev m vs fs rs hg
  rw [← hpk] at ht
  have h1 := fun R (hR : Ev (tailP b (m, vs, fs, rs)) R) => qFo b hb R hl ⟨fun o ho => by rw [hw] at ho; obtain rfl := Option.some.inj ho; exact hR, fun hn => by rw [hw] at hn; cases hn⟩
  have h2 := fun R (hR : Ev (tailR (m, vs, fs, rs)) R) => runpack_ev b hb R hl ⟨fun o ho => by rw [hw] at ho; obtain rfl := Option.some.inj ho; exact hR, fun hn => by rw [hw] at hn; cases hn⟩
  by_cases h : qC0 m vs fs rs = 0
  ·rw [if_pos h] at ht hr
   exact ⟨m, vs, fs, rs, 0, h1 _ ht, h2 _ hr, hg⟩
  rw [if_neg h] at ht hr
  exact ⟨⟨#[]⟩, [], [], [], 52, h1 _ ht, h2 _ hr, good_nil⟩
theorem qDB {α β : Type} (p : α → β → Bool) (f : α → β) (h : ∀ x, p x (f x) = true) : ∀ (l : List α), all2 p l (l.map f) = true
 | [] => rfl
 | x :: xs => by simp only [List.map_cons, all2, Bool.and_eq_true]; exact ⟨h x, qDB p f h xs⟩
theorem all2_same {α : Type} (p : α → α → Bool) (h : ∀ x, p x x = true) (l : List α) : all2 p l l = true := by
 have := qDB p id h l
 simpa using this
theorem like_same (m : ByteArray) (vs : List S85) (fs : List S92) (rs : List S104) (hg : qD2 m vs fs rs) : qBc.f m vs fs rs m (vs.map toRV) (fs.map toRN) (rs.map toRR) = some true := by
 have h1 := hg.vl
 have h2 := hg.fl
 unfold qBc.f
 rw [if_pos ⟨by omega, by omega, hg.rl, by
   rw [List.all_eq_true]
   intro x hx
   obtain ⟨_, a, b, c, _⟩ := hg.f x hx
   exact decide_eq_true ⟨a, b, c⟩⟩]
 unfold likeO
 rw [qDB qE7 toRV (fun x => by simp [qE7, toRV]), qDB qCq toRR (fun x => by simp [qCq, toRR]), qDB qEN toRN (fun x => by
   have e := all2_same eqI (fun y => by simp [eqI])
   simp only [qEN, toRN, likeF, e, qDB qE4 toRI (fun y => by simp [qE4, toRI])]; simp)]
 simp
def aliveB : List Int := [102, 111, 98, 106, 0, 0, 0, 1, 109, 0, 0, 0, 1, 0, 0, 0, 1, 118, 1, 0, 0, 0, 0, 0, 0, 0, 1, 0, 0, 0, 0, 0, 0, 0, 0]
def qEK : ByteArray := ⟨#[109]⟩
def qEB : List S85 := [⟨⟨#[118]⟩, ⟨1, 1⟩⟩]
theorem alive_good : qD2 qEK qEB [] [] := by decide
theorem qDP : qDp qEK qEB [] [] = aliveB := by
 unfold qDp qEK qEB qCm varB qCm
 simp only []
 rfl
theorem qF1 : qC0 qEK qEB [] [] = 0 := by kernel_rfl
theorem qF5 : qF0 aliveB = some (qEK, qEB, [], []) := by kernel_rfl
theorem alive0_ev : Ev (fun k => alive0.f k) true := by
 have hp : qBw.f qEK qEB [] [] = some (aliveB, 0) := by
  unfold qBw.f
  rw [if_pos alive_good, if_neg (fun q => q qF1), qDP, if_neg (by decide)]
 have ht := tailP_ev qEK qEB [] [] alive_good (by rw [qDP]; decide)
 rw [if_pos qF1, qDP] at ht
 have hu := qFo aliveB (by unfold qBn aliveB; decide) _ (by decide) ⟨fun o ho => by rw [qF5] at ho; obtain rfl := Option.some.inj ho; exact ht, fun hn => by rw [qF5] at hn; cases hn⟩
 unfold alive0.f
 rw [show qBw.f (⟨#[109]⟩ : ByteArray) ([(⟨(⟨#[118]⟩ : ByteArray), (⟨1, 1⟩ : S83)⟩ : S85)]) [] [] = some (aliveB, 0) from hp]
 simp only [Option.bind_some]
 refine Ev.bind hu ?_
 refine Ev.congr (fun k => ?_) (Ev.now _)
 unfold qEK qEB
 simp only [Lib.toList_data, strOfNums]
 rfl
theorem alive_ev : Ev (fun k => qBb.f k) true := by
 obtain ⟨K, hK⟩ := alive0_ev
 exact ⟨K, fun k hk => if_pos (hK k hk)⟩
theorem reads_end (m : ByteArray) (vs : List S85) (fs : List S92) (rs : List S104) (hg : qD2 m vs fs rs) : ∀ (d : Nat) (l : List Int) (i : Int), l.length ≤ 4611686018427387904 → 0 ≤ i → (l.length : Int) - i = d → Ev (fun k => foundrylaw15_ObjectReads.l0 k l i m vs fs rs m (vs.map toRV) (fs.map toRN) (rs.map toRR)) true := by
 intro d
 induction d with
 | zero =>
  intro l i hl h0 hd
  refine Ev.step (f := fun _ => some true) (fun k => ?_) (Ev.now _)
  simp only [foundrylaw15_ObjectReads.l0]
  rw [if_neg (by omega), like_same m vs fs rs hg]; rfl
 | succ d ih =>
  intro l i hl h0 hd
  refine Ev.step (fun k => ?_) (ih (l.set i.toNat ((rd l i + 1) % 256)) (i + 1) (by rw [List.length_set]; exact hl) (by omega) (by rw [List.length_set]; omega))
  simp only [foundrylaw15_ObjectReads.l0]
  rw [if_pos (by omega), if_pos h0, qBD (n := l.length) h0 (by omega) hl]
theorem reads_ev (l : List Int) (hb : qBn l) (hl : l.length ≤ 140737488351232) : Ev (fun k => foundrylaw15_ObjectReads.f k l) true := by
 obtain ⟨m, vs, fs, rs, e, h1, h2, hg⟩ := both l hb
 refine Ev.congr (f := fun k => (qAd.f k l).bind fun bt543 => ((qAc.f k l).bind fun bt555 => (if bt543.2.2.2.2 = bt555.2.2.2.2 then ((qBc.f bt543.1 bt543.2.1 bt543.2.2.1 bt543.2.2.2.1 bt555.1 bt555.2.1 bt555.2.2.1 bt555.2.2.2.1).bind fun t567 => (if t567 = true then ((qBb.f k).bind fun t568 => (foundrylaw15_ObjectReads.j0 k l (!t568) bt543.1 bt543.2.1 bt543.2.2.1 bt543.2.2.2.1 bt555.1 bt555.2.1 bt555.2.2.1 bt555.2.2.2.1)) else (foundrylaw15_ObjectReads.j0 k l true bt543.1 bt543.2.1 bt543.2.2.1 bt543.2.2.2.1 bt555.1 bt555.2.1 bt555.2.2.1 bt555.2.2.2.1))) else (foundrylaw15_ObjectReads.j0 k l true bt543.1 bt543.2.1 bt543.2.2.1 bt543.2.2.2.1 bt555.1 bt555.2.1 bt555.2.2.1 bt555.2.2.2.1)))) (fun k => ?_) ?_
 ·unfold foundrylaw15_ObjectReads.f
  rw [Option.bind_some, if_pos (by rw [List.length_nil]; omega), Option.bind_some, List.nil_append]
  simp only [if_true]
 refine Ev.bind h1 (Ev.bind h2 ?_)
 simp only [like_same m vs fs rs hg, Option.bind_some, if_true]
 refine Ev.bind alive_ev ?_
 refine Ev.step (fun k => ?_) (reads_end m vs fs rs hg l.length l 0 (by omega) (by omega) (by omega))
 simp only [foundrylaw15_ObjectReads.j0]
 rw [if_neg (by decide)]
end Q
end
section
namespace Pure
open Go.RowKit Q PA PC
theorem ObjectReads : foundrylaw15_ObjectReads.Pure := by
 intro l0 _ h1 hw
 refine (reads_ev l0 (fun x hx => ?_) (by omega)).rounds
 have h := hw x hx
 simp [Lit.wf, IntKind.min, IntKind.max, IntKind.bits, IntKind.signed] at h
 omega
end Pure
end
section
namespace PA
open Go.ChangeShapes Go.WideShapes
theorem sized_ints {H : Type} {enc : TypeId × Value → H} {P : Program} {W : World} {base : Nat} {spare : Nat → Bool} {held : Bool} {t e : TypeId} {k : IntKind} {a : Option Addr} {len cap : Nat} {d : DataW H} {ps : List MemPlace} {ts : List TypeId} {ds : List (DataW H)} {j : Nat}
  (hsz : (DataW.weightsEach P ts ds).all (· ≤ reachBytes) = true) (ht : ts[j]? = some t) (hd : ds[j]? = some d) (hu : P.underlying t = some (.slice e)) (he : P.underlying e = some (.int k)) (hc : P.cellsOf e = 1) {B : Nat} (hB : P.bytesOf e = B)
  (h : DataW.Trod enc P W base spare held t (.slice a len cap) d ps) : len * B ≤ 140737488351232 := by
 obtain ⟨fuel, hf⟩ := h
 rcases open_ints hu he hc hf with ⟨hcs, _⟩ | ⟨x, l, c, zs, hcs, _, hl, _, hz, hx, _, _⟩
 ·simp [Value.cells] at hcs
  obtain ⟨rfl, rfl, rfl⟩ := hcs
  simp
 ·simp [Value.cells] at hcs
  obtain ⟨rfl, rfl, rfl⟩ := hcs
  obtain ⟨hx, _⟩ := Prod.mk.inj hx
  subst hx
  have z := sized_slice hsz ht hd hu
  rw [hB] at z
  have hl2 : len ≤ zs.length := by
   rw [hz]
   split
   ·exact hl
   exact Nat.le_refl _
  have h1 : (lits (H := H) k (zs.take len)).length + (lits (H := H) k (zs.drop len)).length = zs.length := by
   simp [lits]
   omega
  rw [h1] at z
  exact Nat.le_trans (Nat.mul_le_mul_right _ hl2) z
end PA
end
section
namespace objectReads
open Go.ChangeShapes Go.WideShapes Go.ChangeAt Go.RowKit
open Go.ChangeMaps (open_string shut_string)
theorem own : ownKnob Tryz.prog.godebug = none := by kernel_rfl
theorem laidOut : laidOutB Tryz.prog = true := by kernel_rfl
def IsRow (k : IntKind) (w : World) (a : Option Addr) (len cap : Nat) (zs : List Int) : Prop :=
 (a = none ∧ len = 0 ∧ cap = 0 ∧ zs = []) ∨
 ∃ x, a = some x ∧ len ≤ cap ∧ cap ≤ maxLen ∧ zs.length = cap ∧ (∀ i, i < zs.length → w.cell? (x.add i) = some (.int k (zs.getD i 0))) ∧ ∀ n ∈ zs, (Lit.int k n).wf = true
theorem lifted (os : Os) (started : os.Started) (H : Type) (enc : TypeId × Value → H) :
  ReturnsInHanded {} Tryz.checked os 5 .any (Rows.objectReadsSpec.pre6 enc Tryz.prog Tryz.f5 Rows.objectReadsRow.domain false) (Rows.objectReadsSpec.post enc Tryz.prog Tryz.f5 false true false false) := by
 refine returnsInHanded_of_change_sized (C := Tryz.checked) own started (by kernel_rfl) Tryz.func5
  (ChangeSpec.witness6 (enc := enc) (C := Tryz.checked) false ⟨#[], #[.slice none 0 0], []⟩ 8 (by kernel_rfl) (by kernel_rfl) (by kernel_rfl) (by kernel_rfl)) ?_
 intro W base args ds gs before hval0 hW hcnd hsz0 _
 have hsz : (DataW.weightsEach Tryz.prog (Tryz.f5.params.toList ++ Rows.objectReadsSpec.plain.varTypes Tryz.prog) (ds ++ gs)).all (· ≤ reachBytes) = true := hsz0
 have hval : ∀ (j : Nat) t v, Tryz.f5.params[j]? = some t → args[j]? = some v → Value.okWide Tryz.prog W .any base t v := hval0
 have hW' := hW
 obtain ⟨p, q, hA0, hV, rfl, hfz, hnd⟩ := hW
 have hA : DataW.TrodAll enc Tryz.prog W 0 (fun _ => true) true Tryz.f5.params.toList args.toList ds p := hA0
 rw [Tryz.params5] at hA hval hsz
 obtain ⟨v0, vs0, d0, ds0, p0, q0, hargs, rfl, rfl, h0, r0⟩ := trodAll_cons hA
 obtain ⟨rfl, rfl, rfl⟩ := trodAll_nil r0
 obtain rfl : args = #[v0] := by cases args; simp_all
 obtain ⟨rfl, rfl⟩ := trodVars_none hV
 obtain ⟨a0, len0, cap0, rfl⟩ := okWide_slice Tryz.underlying38 (hval 0 38 v0 rfl rfl)
 have k0 := h0
 have lt0 : ∀ x ∈ p0, x.block < W.heap.size := by obtain ⟨m, hm⟩ := k0; exact DataW.trod_lt m _ _ _ hm
 obtain ⟨z0, w0⟩ : ∃ zs, IsRow .u8 W a0 len0 cap0 zs := by
  obtain ⟨fuel, hf⟩ := h0
  rcases open_ints Tryz.underlying38 Tryz.underlying5 (by kernel_rfl) hf with ⟨hcs, _⟩ | ⟨x, l, c, zs, hcs, _, hl, hm, hz, _, hcell, hwz⟩
  ·simp [Value.cells] at hcs
   obtain ⟨rfl, rfl, rfl⟩ := hcs
   exact ⟨[], .inl ⟨rfl, rfl, rfl, rfl⟩⟩
  simp [Value.cells] at hcs
  obtain ⟨rfl, rfl, rfl⟩ := hcs
  exact ⟨zs, .inr ⟨_, rfl, hl, hm, by simpa using hz, hcell, hwz⟩⟩
 have y0 : len0 * 1 ≤ 140737488351232 := PA.sized_ints hsz (j := 0) (t := 38) rfl rfl Tryz.underlying38 Tryz.underlying5 (by kernel_rfl) (by kernel_rfl) h0
 clear hA0 hval0 hsz0 hsz
 refine (Q.foundrylaw15_ObjectReads.walk Pure.ObjectReads a0 len0 cap0 z0 W w0 y0).mono fun e W' ⟨he, bel⟩ => ?_
 subst he
 exact ⟨_, rfl, _, _, _, [], _, [], hW', trodAll_mk1 (shut_bool Tryz.underlying4 _), (trodAll_cons_mk (Below.trod laidOut (by kernel_rfl) (of_decide_eq_true (by kernel_rfl)) k0 bel lt0) trodAll_mk0), rfl, bel.frame _, fun h => by cases h⟩
theorem over : Rows.objectReadsRow.holds Tryz.pinned (OpenSpec.ofChange Rows.objectReadsSpec) :=
 OpenClaim.holds_of_wide 5 Tryz.f5 rfl rfl rfl rfl rfl rfl rfl ⟨rfl, rfl, rfl, rfl, rfl⟩ rfl rfl rfl rfl rfl (by kernel_rfl) Tryz.func5 (by kernel_rfl)
  (of_decide_eq_true (by kernel_rfl)) (by unfold Func.isWrapper; (rw [if_neg (by decide +kernel)]; exact ⟨rfl, rfl⟩))
  (fun os started H enc _ => lifted os started H enc)
theorem proved : Rows.ObjectReadsSaid := over
#print axioms proved
end objectReads

theorem objectReads_holds : Rows.ObjectReadsSaid := objectReads.proved
end
end Go.Proofs.YtfjpnjbinbhcfaaGreat
