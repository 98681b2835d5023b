/- There and back; unlike objects have unlike bytes. Part 5 of 8. -/
import Derived.Test.YtfjpnjbinbhcfaaK4
import Derived.Test.YtfjpnjbinbhcfaaRows
import Derived.ChangeArms
import Derived.ChangeSame
import Derived.Deep.Slices
set_option maxHeartbeats 8000000
set_option maxRecDepth 100000
set_option linter.unusedVariables false
set_option linter.unusedSimpArgs false
namespace Go.Proofs.Ytfjpnjbinbhcfaa
section
namespace Q
open Go.RowKit PA PB PC
open DecLaw
def qDy : Nat → List Int → Ps (List Int)
 | 0, acc => fun r => some (acc, r)
 | n + 1, acc => fun r => (qEd r).bind fun a => qDy n (acc ++ [a.1]) a.2
def qCP : Ps (List Int) := fun r => (qEd r).bind fun a => qDy a.1.toNat [] a.2
def decP (c : List Int) : List Enc.InsD × Int := decL (c.length + 1) [] c
def qEz : Ps (List S115) := fun r => (rawP 16384 r).bind fun a => if (decP a.1).2 = 0 then some ((decP a.1).1.map toS, a.2) else none
abbrev Fn4 := List Int × Int × List Int × List S115
def fnP : Ps Fn4 := fun r => (qCP r).bind fun a => (qEd a.2).bind fun b => (qCP b.2).bind fun c => (qEz c.2).bind fun d => some ((a.1, b.1, c.1, d.1), d.2)
def varP : Ps S71 := fun r => (textP 32 r).bind fun a => (qEd a.2).bind fun b => (numP 8 b.2).bind fun c => some (⟨a.1, ⟨b.1, c.1⟩⟩, c.2)
def nfnP : Ps S80 := fun r => (textP 32 r).bind fun a => (fnP a.2).bind fun b => some (⟨a.1, ⟨⟨b.1.1, b.1.2.1⟩, b.1.2.2.1, b.1.2.2.2⟩⟩, b.2)
def relP : Ps S82 := fun r => (numP 2 r).bind fun a => (numP 2 a.2).bind fun b => (qEd b.2).bind fun c => (textP 32 c.2).bind fun d => (textP 32 d.2).bind fun e => some (⟨a.1, b.1, c.1, d.1, e.1⟩, e.2)
abbrev Obj4 := ByteArray × List S71 × List S80 × List S82
def endO (o : Obj4) (r : List Int) : Option Obj4 := if r = [] then some o else none
def relsC : Nat → ByteArray → List S71 → List S80 → List S82 → List Int → Option Obj4
 | 0, m, vs, fs, acc, r => endO (m, vs, fs, acc) r
 | n + 1, m, vs, fs, acc, r => (relP r).bind fun a => relsC n m vs fs (acc ++ [a.1]) a.2
def relsI (m : ByteArray) (vs : List S71) (fs : List S80) (r : List Int) : Option Obj4 := (intP r).bind fun a => relsC a.1.toNat m vs fs [] a.2
def fnsC : Nat → ByteArray → List S71 → List S80 → List Int → Option Obj4
 | 0, m, vs, acc, r => relsI m vs acc r
 | n + 1, m, vs, acc, r => (nfnP r).bind fun a => fnsC n m vs (acc ++ [a.1]) a.2
def fnsI (m : ByteArray) (vs : List S71) (r : List Int) : Option Obj4 := (intP r).bind fun a => fnsC a.1.toNat m vs [] a.2
def varsC : Nat → ByteArray → List S71 → List Int → Option Obj4
 | 0, m, acc, r => fnsI m acc r
 | n + 1, m, acc, r => (varP r).bind fun a => varsC n m (acc ++ [a.1]) a.2
def objC (r : List Int) : Option Obj4 := (textP 32 r).bind fun a => (intP a.2).bind fun b => varsC b.1.toNat a.1 [] b.2
structure Fin {σ γ : Type} (tail : σ → Nat → Option γ) (err : γ) (s : Option σ) (R : γ) : Prop where
 yes : ∀ o, s = some o → Ev (tail o) R
 no : s = none → R = err
theorem Rd.fin {α σ γ : Type} {f0 : List Int} {g : Nat → Option (α × Int × Int)} {s : Option (α × List Int)} {h : Nat → α × Int × Int → Option γ} {t : α × List Int → Option σ} {tail : σ → Nat → Option γ} {err R : γ} (hg : Rd f0 g s) (hF : Fin tail err (s.bind t) R)
  (good : ∀ x p, Pl f0 p → s = some (x, f0.drop p.toNat) → Fin tail err (t (x, f0.drop p.toNat)) R → Ev (fun k => h k (x, p, 0)) R) (bad : ∀ x p e, e ≠ 0 → R = err → Ev (fun k => h k (x, p, e)) R) : Ev (fun k => (g k).bind (h k)) R := by
 obtain ⟨v, p, e, hv, hs⟩ := hg
 cases s with
 | none => exact Ev.bind hv (bad v p e hs (hF.no rfl))
 | some a =>
  obtain ⟨x, r⟩ := a
  obtain ⟨rfl, rfl, h0, h1, rfl⟩ := hs
  exact Ev.bind hv (good v p ⟨h0, h1⟩ rfl ⟨fun o ho => hF.yes o ho, fun hn => hF.no hn⟩)
theorem qCj {r : List Int} (hb : qBh r) {a : Int × List Int} (h : qEd r = some a) : 0 ≤ a.1 ∧ a.1 < 256 := by
 cases r with
 | nil => cases h
 | cons x r => obtain rfl := Option.some.inj h; exact hb x List.mem_cons_self
theorem qC8 {x : Int} (h : 0 ≤ x ∧ x < 256) : wrap64 x = x := by unfold wrap64; omega
section
variable (f0 : List Int) (hb : qBh f0) (hl : f0.length ≤ 4294967296)
theorem kinds_bad (n : Int) (hn : 0 ≤ n ∧ n < 256) (p e : Int) (he : e ≠ 0) : ∀ (d : Nat) (i : Int) (acc : List Int), 0 ≤ i → n - i = d → acc.length + d ≤ 512 → ∃ l, Ev (fun k => qA1.l0 k acc n i f0 p e) (l, p, e) := by
 intro d
 induction d with
 | zero =>
  intro i acc h0 hd ha
  refine ⟨acc, Ev.step (f := fun _ => some (acc, p, e)) (fun k => ?_) (Ev.now _)⟩
  simp only [qA1.l0]; rw [if_neg (by omega)]
 | succ d ih =>
  intro i acc h0 hd ha
  obtain ⟨l, hl⟩ := ih (i + 1) (acc ++ [wrap64 0]) (by omega) (by omega) (by simp; omega)
  refine ⟨l, Ev.step (fun k => ?_) hl⟩
  simp only [qA1.l0]
  rw [if_pos (by omega), show qAk.f f0 p e = some (0, p, e) from by simp [qAk.f, he]]
  simp only [Option.bind_some]
  rw [if_pos (by omega), show wrap64 (i + 1) = i + 1 from by unfold wrap64; omega]
theorem kinds_loop (hb : qBh f0) (n : Int) (hn : 0 ≤ n ∧ n < 256) : ∀ (d : Nat) (i : Int) (acc : List Int) (p : Int), 0 ≤ i → n - i = d → acc.length + d ≤ 512 → Pl f0 p → Rd f0 (fun k => qA1.l0 k acc n i f0 p 0) (qDy d acc (f0.drop p.toNat)) := by
 intro d
 induction d with
 | zero =>
  intro i acc p h0 hd ha hp
  refine Rd.ok (Ev.step (f := fun _ => some (acc, p, 0)) (fun k => ?_) (Ev.now _)) hp
  simp only [qA1.l0]; rw [if_neg (by omega)]
 | succ d ih =>
  intro i acc p h0 hd ha hp
  have hw : wrap64 (i + 1) = i + 1 := by unfold wrap64; omega
  have hstep : Rd f0 (fun k => (qAk.f f0 p 0).bind fun b => (if acc.length < 17592186044416 then qA1.l0 k (acc ++ [wrap64 b.1]) n (wrap64 (i + 1)) f0 b.2.1 b.2.2 else none)) ((qEd (f0.drop p.toNat)).bind fun a => qDy d (acc ++ [a.1]) a.2) := by
   refine Rd.bind (qCL f0 hb p hp) (h := fun k b => (if acc.length < 17592186044416 then qA1.l0 k (acc ++ [wrap64 b.1]) n (wrap64 (i + 1)) f0 b.2.1 b.2.2 else none)) (fun x p2 hp2 hs => ?_) (fun x p2 e he => ?_)
   ·have hx := qCj (qBF hb _) hs
    simp only [show acc.length < 17592186044416 from by omega, if_true, hw, qC8 hx]
    exact ih (i + 1) _ p2 (by omega) (by omega) (by simp; omega) hp2
   simp only [show acc.length < 17592186044416 from by omega, if_true, hw]
   obtain ⟨l, hl⟩ := kinds_bad f0 n hn p2 e he d (i + 1) (acc ++ [wrap64 x]) (by omega) (by omega) (by simp; omega)
   exact Rd.no hl he
  obtain ⟨v, p', e', hev, hs⟩ := hstep
  refine ⟨v, p', e', Ev.step (fun k => ?_) hev, hs⟩
  simp only [qA1.l0]
  rw [if_pos (by omega)]
theorem kinds_good (hb : qBh f0) (p : Int) (hp : Pl f0 p) : Rd f0 (fun k => qA1.f k f0 p 0) (qCP (f0.drop p.toNat)) := by
 cases hs : qEd (f0.drop p.toNat) with
 | none =>
  have hlt : ¬ p < f0.length := by
   intro hlt
   have hc : (f0.drop p.toNat).length ≠ 0 := by rw [List.length_drop]; have := hp.1; omega
   cases hd : f0.drop p.toNat with
   | nil => rw [hd] at hc; exact hc rfl
   | cons x r => rw [hd] at hs; cases hs
  have e : qCP (f0.drop p.toNat) = none := by unfold qCP; rw [hs]; rfl
  rw [e]
  refine Rd.no (x := []) (p := p) (e := 40) (Ev.congr (f := fun k => qA1.l0 k [] 0 0 f0 p 40) (fun k => ?_) (Ev.step (f := fun _ => some ([], p, 40)) (fun k => ?_) (Ev.now _))) (by decide)
  ·unfold qA1.f
   rw [show qAk.f f0 p 0 = some (0, p, 40) from by simp [qAk.f, hlt]]
   simp only [Option.bind_some]
   rw [show wrap64 0 = 0 from by unfold wrap64; omega]
  simp only [qA1.l0]; rw [if_neg (by omega)]
 | some a =>
  obtain ⟨x, r⟩ := a
  have hx := qCj (qBF hb _) hs
  obtain ⟨v, q, e, hev, hq⟩ := qCL f0 hb p hp
  rw [hs] at hq
  obtain ⟨rfl, rfl, q0, q1, rfl⟩ := hq
  have e : qCP (f0.drop p.toNat) = qDy v.toNat [] (f0.drop q.toNat) := by unfold qCP; rw [hs]; rfl
  rw [e]
  obtain ⟨v2, p2, e2, h2, hs2⟩ := kinds_loop f0 hb v hx v.toNat 0 [] q (by omega) (by have := hx.1; simp only at this; omega) (by have := hx.2; simp only at this; simp; omega) ⟨q0, q1⟩
  refine ⟨v2, p2, e2, ?_, hs2⟩
  refine Ev.congr (f := fun k => (qAk.f f0 p 0).bind fun b => qA1.l0 k [] (wrap64 b.1) 0 f0 b.2.1 b.2.2) (fun k => rfl) (Ev.bind hev ?_)
  simp only [qC8 hx]
  exact h2
theorem kinds_badF (p e : Int) (he : e ≠ 0) : Ev (fun k => qA1.f k f0 p e) ([], p, e) := by
 refine Ev.congr (f := fun k => qA1.l0 k [] 0 0 f0 p e) (fun k => ?_) (Ev.step (f := fun _ => some ([], p, e)) (fun k => ?_) (Ev.now _))
 ·unfold qA1.f
  rw [show qAk.f f0 p e = some (0, p, e) from by simp [qAk.f, he]]
  simp only [Option.bind_some]
  rw [show wrap64 0 = 0 from by unfold wrap64; omega]
 simp only [qA1.l0]; rw [if_neg (by omega)]
def RdF (g : Nat → Option (List Int × Int × List Int × List S115 × Int × Int)) (s : Option (Fn4 × List Int)) : Prop :=
 ∃ a b c d p e, Ev g (a, b, c, d, p, e) ∧ match s with
  | some (x, r) => x = (a, b, c, d) ∧ e = 0 ∧ 0 ≤ p ∧ p ≤ f0.length ∧ r = f0.drop p.toNat
  | none => e ≠ 0
theorem qCM (c : List Int) (hb : qBh c) : qAZ.f c = some ((decP c).1.map toS, (decP c).2) := by
 unfold qAZ.f
 rw [if_pos (List.all_eq_true.2 fun x hx => decide_eq_true (hb x hx))]; rfl
theorem rawP_bytes {most : Int} {r : List Int} (hb : qBh r) {a : List Int × List Int} (h : rawP most r = some a) : qBh a.1 := by
 unfold rawP at h
 cases hi : intP r with
 | none => rw [hi] at h; cases h
 | some b =>
  rw [hi] at h
  simp only [Option.bind_some] at h
  split at h
  ·obtain rfl := Option.some.inj h
   refine qDq ?_ _
   unfold intP at hi
   split at hi
   ·split at hi
    ·obtain rfl := Option.some.inj hi
     exact qBF hb 4
    cases hi
   cases hi
  cases h
theorem raw_empty (most p : Int) (v : List Int) (q e : Int) (h : qA2.f f0 p 0 most = some (v, q, e)) (he : e ≠ 0) : v = [] := by
 unfold qA2.f at h
 replace h := Option.some.inj h
 rw [if_neg (by simp)] at h
 (repeat' split at h) <;> (simp only [Prod.mk.injEq] at h; first | exact h.1.symm | exact absurd h.2.2.symm he)
theorem readFn_bad (p e : Int) (he : e ≠ 0) : ∃ a b c d, Ev (fun k => qBl.f k f0 p e) (a, b, c, d, p, e) := by
 have h1 := kinds_badF f0 p e he
 refine ⟨[], wrap64 0, [], (decP []).1.map toS, ?_⟩
 refine Ev.congr (f := fun k => (qA1.f k f0 p e).bind fun b1 => ((qAk.f f0 b1.2.1 b1.2.2).bind fun b2 => ((qA1.f k f0 b2.2.1 b2.2.2).bind fun b3 => ((qA2.f f0 b3.2.1 b3.2.2 16384).bind fun b4 => ((qAZ.f b4.1).bind fun b5 => (if b5.2 = 0 then (some (b1.1, wrap64 (b2.1), b3.1, b5.1, b4.2.1, b4.2.2)) else ((qAB.f f0 b4.2.1 b4.2.2 52).bind fun b6 => (some (b1.1, wrap64 (b2.1), b3.1, b5.1, b6.1, b6.2))))))))) (fun k => rfl) (Ev.bind h1 ?_)
 simp only [show qAk.f f0 p e = some (0, p, e) from by simp [qAk.f, he], Option.bind_some]
 refine Ev.bind h1 ?_
 have hr : qA2.f f0 p e 16384 = some ([], p, e) := by unfold qA2.f; rw [if_pos he]
 simp only [hr, Option.bind_some, qCM [] (by intro x hx; cases hx)]
 have hz : (decP []).2 = 0 := rfl
 simp only [hz, if_true]
 exact Ev.now _
theorem readFn_good (hb : qBh f0) (p : Int) (hp : Pl f0 p) : RdF f0 (fun k => qBl.f k f0 p 0) (fnP (f0.drop p.toNat)) := by
 have hun : ∀ k, qBl.f k f0 p 0 = (qA1.f k f0 p 0).bind fun b1 => ((qAk.f f0 b1.2.1 b1.2.2).bind fun b2 => ((qA1.f k f0 b2.2.1 b2.2.2).bind fun b3 => ((qA2.f f0 b3.2.1 b3.2.2 16384).bind fun b4 => ((qAZ.f b4.1).bind fun b5 => (if b5.2 = 0 then (some (b1.1, wrap64 (b2.1), b3.1, b5.1, b4.2.1, b4.2.2)) else ((qAB.f f0 b4.2.1 b4.2.2 52).bind fun b6 => (some (b1.1, wrap64 (b2.1), b3.1, b5.1, b6.1, b6.2)))))))) := fun k => rfl
 have tail4 : ∀ (q1 : List Int) (q2 : Int) (q3 : List Int) (p e : Int), e ≠ 0 → Ev (fun _ => (qA2.f f0 p e 16384).bind fun b4 => ((qAZ.f b4.1).bind fun b5 => (if b5.2 = 0 then (some (q1, q2, q3, b5.1, b4.2.1, b4.2.2)) else ((qAB.f f0 b4.2.1 b4.2.2 52).bind fun b6 => (some (q1, q2, q3, b5.1, b6.1, b6.2)))))) (q1, q2, q3, (decP []).1.map toS, p, e) := fun q1 q2 q3 p e he => by
  have hr : qA2.f f0 p e 16384 = some ([], p, e) := by unfold qA2.f; rw [if_pos he]
  simp only [hr, Option.bind_some, qCM [] (by intro x hx; cases hx)]
  have hz : (decP []).2 = 0 := rfl
  simp only [hz, if_true]
  exact Ev.now _
 have tail3 : ∀ (q1 : List Int) (q2 : Int) (p e : Int), e ≠ 0 → ∃ l, Ev (fun k => (qA1.f k f0 p e).bind fun b3 => ((qA2.f f0 b3.2.1 b3.2.2 16384).bind fun b4 => ((qAZ.f b4.1).bind fun b5 => (if b5.2 = 0 then (some (q1, q2, b3.1, b5.1, b4.2.1, b4.2.2)) else ((qAB.f f0 b4.2.1 b4.2.2 52).bind fun b6 => (some (q1, q2, b3.1, b5.1, b6.1, b6.2))))))) (q1, q2, [], l, p, e) := fun q1 q2 p e he =>
  ⟨_, Ev.bind (kinds_badF f0 p e he) (tail4 q1 q2 [] p e he)⟩
 obtain ⟨v1, p1, e1, h1, s1⟩ := kinds_good f0 hb p hp
 unfold fnP
 cases hk1 : qCP (f0.drop p.toNat) with
 | none =>
  rw [hk1] at s1
  obtain ⟨l, hl⟩ := tail3 v1 (wrap64 0) p1 e1 s1
  refine ⟨v1, wrap64 0, [], l, p1, e1, Ev.congr hun (Ev.bind h1 ?_), s1⟩
  simp only [show qAk.f f0 p1 e1 = some (0, p1, e1) from by simp [qAk.f, show e1 ≠ 0 from s1], Option.bind_some]
  exact hl
 | some a1 =>
  obtain ⟨x1, r1⟩ := a1
  rw [hk1] at s1
  obtain ⟨rfl, rfl, g0, g1, rfl⟩ := s1
  simp only [Option.bind_some]
  obtain ⟨v2, p2, e2, h2, s2⟩ := qCL f0 hb p1 ⟨g0, g1⟩
  cases hk2 : qEd (f0.drop p1.toNat) with
  | none =>
   rw [hk2] at s2
   obtain ⟨l, hl⟩ := tail3 v1 (wrap64 v2) p2 e2 s2
   exact ⟨v1, wrap64 v2, [], l, p2, e2, Ev.congr hun (Ev.bind h1 (Ev.bind h2 hl)), s2⟩
  | some a2 =>
   obtain ⟨x2, r2⟩ := a2
   have hx2 := qCj (qBF hb _) hk2
   rw [hk2] at s2
   obtain ⟨rfl, rfl, g0, g1, rfl⟩ := s2
   simp only [Option.bind_some]
   obtain ⟨v3, p3, e3, h3, s3⟩ := kinds_good f0 hb p2 ⟨g0, g1⟩
   cases hk3 : qCP (f0.drop p2.toNat) with
   | none =>
    rw [hk3] at s3
    exact ⟨v1, wrap64 v2, v3, _, p3, e3, Ev.congr hun (Ev.bind h1 (Ev.bind h2 (Ev.bind h3 (tail4 _ _ _ p3 e3 s3)))), s3⟩
   | some a3 =>
    obtain ⟨x3, r3⟩ := a3
    rw [hk3] at s3
    obtain ⟨rfl, rfl, g0, g1, rfl⟩ := s3
    simp only [Option.bind_some]
    obtain ⟨v4, p4, e4, h4, s4⟩ := raw_good f0 hb 16384 (by decide) p3 ⟨g0, g1⟩
    cases hk4 : rawP 16384 (f0.drop p3.toNat) with
    | none =>
     rw [hk4] at s4
     have he : qEz (f0.drop p3.toNat) = none := by unfold qEz; rw [hk4]; rfl
     rw [he]
     have hv4 : v4 = [] := by
      obtain ⟨k, hk⟩ := h4.rounds
      exact raw_empty f0 16384 p3 _ _ _ hk s4
     subst hv4
     by_cases hz : (decP []).2 = 0
     rotate_left
     ·exact absurd rfl hz
     refine ⟨v1, wrap64 v2, v3, (decP []).1.map toS, p4, e4, Ev.congr hun (Ev.bind h1 (Ev.bind h2 (Ev.bind h3 (Ev.bind h4 ?_)))), s4⟩
     simp only [qCM [] (by intro x hx; cases hx), Option.bind_some, hz, if_true]
     exact Ev.now _
    | some a4 =>
     obtain ⟨x4, r4⟩ := a4
     have hb4 := rawP_bytes (qBF hb _) hk4
     rw [hk4] at s4
     obtain ⟨rfl, rfl, g0, g1, rfl⟩ := s4
     have he : qEz (f0.drop p3.toNat) = (if (decP v4).2 = 0 then some ((decP v4).1.map toS, f0.drop p4.toNat) else none) := by unfold qEz; rw [hk4]; rfl
     rw [he]
     by_cases hz : (decP v4).2 = 0
     ·rw [if_pos hz]
      refine ⟨v1, v2, v3, (decP v4).1.map toS, p4, 0, Ev.congr hun (Ev.bind h1 (Ev.bind h2 (Ev.bind h3 (Ev.bind h4 ?_)))), rfl, rfl, g0, g1, rfl⟩
      simp only [qCM v4 hb4, Option.bind_some, hz, if_true, qC8 hx2]
      exact Ev.now _
     rw [if_neg hz]
     refine ⟨v1, v2, v3, (decP v4).1.map toS, p4, 52, Ev.congr hun (Ev.bind h1 (Ev.bind h2 (Ev.bind h3 (Ev.bind h4 ?_)))), (by show (52 : Int) ≠ 0; decide)⟩
     simp only [qCM v4 hb4, Option.bind_some, hz, if_false, qC8 hx2, qAB.f, if_true]
     exact Ev.now _
theorem qEn (p e : Int) (he : e ≠ 0) : qAk.f f0 p e = some (0, p, e) := by simp [qAk.f, he]
theorem short_err (p e : Int) (he : e ≠ 0) : qAG.f f0 p e = some (0, p, e) := by simp [qAG.f, he]
theorem long_err (p e : Int) (he : e ≠ 0) : qAO.f f0 p e = some (0, p, e) := by simp [qAO.f, he]
theorem int_err (p e : Int) (he : e ≠ 0) : qAF.f f0 p e = some (0, p, e) := by simp [qAF.f, he]
theorem raw_err (most p e : Int) (he : e ≠ 0) : qA2.f f0 p e most = some ([], p, e) := by unfold qA2.f; rw [if_pos he]
theorem qDD (most p e : Int) (he : e ≠ 0) : qAx.f f0 p e most = some (strOfNums [], p, e) := by unfold qAx.f; rw [raw_err f0 most p e he]; rfl
theorem done_err (p e : Int) (he : e ≠ 0) : qAN.f f0 p e = some (e, p, e) := by
 unfold qAN.f qBc.f qA6.f
 simp [he]
abbrev Res := ByteArray × List S71 × List S80 × List S82 × Int
def errP : Res := (⟨#[]⟩, [], [], [], 52)
def tailP (x0 : List Int) (o : Obj4) (k : Nat) : Option Res := (qA9.f o.1 o.2.1 o.2.2.1 o.2.2.2).bind fun b => (if b.2 = 0 then ((qAu.f k x0 b.1).bind fun t => (if t = true then some (o.1, o.2.1, o.2.2.1, o.2.2.2, 0) else some errP)) else some errP)
theorem j6_bad (x0 : List Int) (n p e : Int) (he : e ≠ 0) (m : ByteArray) (vs : List S71) (fs : List S80) (acc : List S82) : Ev (fun k => qAc.j6 k x0 n false f0 p e m vs fs acc) errP := by
 refine Ev.step (f := fun _ => some errP) (fun k => ?_) (Ev.now _)
 simp only [qAc.j6]
 rw [if_neg (by decide), done_err f0 p e he]
 simp only [Option.bind_some]
 rw [if_neg he]; rfl
theorem l3_bad (x0 : List Int) (n p e : Int) (he : e ≠ 0) (m : ByteArray) (vs : List S71) (fs : List S80) (acc : List S82) : Ev (fun k => qAc.l3 k x0 n f0 p e m vs fs acc) errP := by
 refine Ev.step (fun k => ?_) (j6_bad f0 x0 n p e he m vs fs acc)
 simp only [qAc.l3, qA6.f, Option.bind_some, beq_eq_false_iff_ne.mpr he, ite_self]
theorem j4_bad (x0 : List Int) (n p e : Int) (he : e ≠ 0) (m : ByteArray) (vs : List S71) (fs : List S80) : Ev (fun k => qAc.j4 k x0 n false f0 p e m vs fs) errP := by
 refine Ev.step (fun k => ?_) (l3_bad f0 x0 0 p e he m vs fs [])
 simp only [qAc.j4]
 rw [if_neg (by decide), int_err f0 p e he]; rfl
theorem l2_bad (x0 : List Int) (n p e : Int) (he : e ≠ 0) (m : ByteArray) (vs : List S71) (fs : List S80) : Ev (fun k => qAc.l2 k x0 n f0 p e m vs fs) errP := by
 refine Ev.step (fun k => ?_) (j4_bad f0 x0 n p e he m vs fs)
 simp only [qAc.l2, qA6.f, Option.bind_some, beq_eq_false_iff_ne.mpr he, ite_self]
theorem j2_bad (x0 : List Int) (n p e : Int) (he : e ≠ 0) (m : ByteArray) (vs : List S71) : Ev (fun k => qAc.j2 k x0 n false f0 p e m vs) errP := by
 refine Ev.step (fun k => ?_) (l2_bad f0 x0 0 p e he m vs [])
 simp only [qAc.j2]
 rw [if_neg (by decide), int_err f0 p e he]; rfl
theorem l1_bad (x0 : List Int) (n p e : Int) (he : e ≠ 0) (m : ByteArray) (vs : List S71) : Ev (fun k => qAc.l1 k x0 n f0 p e m vs) errP := by
 refine Ev.step (fun k => ?_) (j2_bad f0 x0 n p e he m vs)
 simp only [qAc.l1, qA6.f, Option.bind_some, beq_eq_false_iff_ne.mpr he, ite_self]
theorem done_end (p : Int) (hp : Pl f0 p) (h : f0.drop p.toNat = []) : qAN.f f0 p 0 = some (0, p, 0) := by
 have h1 := hp.1; have h2 := hp.2
 have h3 := congrArg List.length h
 rw [List.length_drop] at h3
 simp only [List.length_nil] at h3
 unfold qAN.f qBc.f qA6.f
 simp only [Option.bind_some, if_true]
 rw [if_neg (by omega)]
theorem done_more (p : Int) (hp : Pl f0 p) (h : f0.drop p.toNat ≠ []) : qAN.f f0 p 0 = some (41, p, 0) := by
 have h1 := hp.1; have h2 := hp.2
 have h3 : 0 < (f0.drop p.toNat).length := List.length_pos_iff.2 h
 rw [List.length_drop] at h3
 unfold qAN.f qBc.f qA6.f
 simp only [Option.bind_some, if_true]
 rw [if_pos (by omega)]
theorem l3_good (hb : qBh f0) (x0 : List Int) (m : ByteArray) (vs : List S71) (fs : List S80) (R : Res) : ∀ (n : Nat) (p : Int) (acc : List S82), Pl f0 p → acc.length + n ≤ 2147483647 → Fin (tailP x0) errP (relsC n m vs fs acc (f0.drop p.toNat)) R →
  Ev (fun k => qAc.l3 k x0 (n : Int) f0 p 0 m vs fs acc) R := by
 intro n
 induction n with
 | zero =>
  intro p acc hp hn hF
  refine Ev.step (f := fun k => qAc.j6 k x0 0 false f0 p 0 m vs fs acc) (fun k => ?_) ?_
  ·simp only [qAc.l3]; rw [if_neg (by decide)]; rfl
  simp only [relsC, endO] at hF
  by_cases hr : f0.drop p.toNat = []
  ·rw [if_pos hr] at hF
   refine Ev.step (f := tailP x0 (m, vs, fs, acc)) (fun k => ?_) (hF.yes _ rfl)
   simp only [qAc.j6]
   rw [if_neg (by decide), done_end f0 p hp hr]; rfl
  rw [if_neg hr] at hF
  rw [hF.no rfl]
  refine Ev.step (f := fun _ => some errP) (fun k => ?_) (Ev.now _)
  simp only [qAc.j6]
  rw [if_neg (by decide), done_more f0 p hp hr]; rfl
 | succ n ih =>
  intro p acc hp hn hF
  simp only [relsC, relP, Option.bind_assoc, Option.bind_some] at hF
  have hw : wrap64 (((n + 1 : Nat) : Int) - 1) = (n : Int) := by unfold wrap64; omega
  have hlen : acc.length < 2513169434916 := by omega
  refine Ev.step (f := fun k => qAc.j6 k x0 ((n + 1 : Nat) : Int) true f0 p 0 m vs fs acc) (fun k => ?_) (Ev.step (f := fun k => (qAG.f f0 p 0).bind fun b1 => ((qAG.f f0 b1.2.1 b1.2.2).bind fun b2 => ((qAk.f f0 b2.2.1 b2.2.2).bind fun b3 => ((qAx.f f0 b3.2.1 b3.2.2 32).bind fun b4 => ((qAx.f f0 b4.2.1 b4.2.2 32).bind fun b5 => qAc.l3 k x0 (n : Int) f0 b5.2.1 b5.2.2 m vs fs (acc ++ [⟨b1.1, b2.1, wrap64 b3.1, b4.1, b5.1⟩])))))) (fun k => ?_) ?_)
  ·simp only [qAc.l3, qA6.f, Option.bind_some]; rw [if_pos (by omega)]; rfl
  ·simp only [qAc.j6, if_true, hw]
   simp only [hlen, if_true]
  have bad : ∀ (x : List S82) (p e : Int), e ≠ 0 → R = errP → Ev (fun k => qAc.l3 k x0 (n : Int) f0 p e m vs fs x) R := fun x p e he hR => hR ▸ l3_bad f0 x0 n p e he m vs fs x
  refine Rd.fin (short_good f0 hb p hp) hF (fun x1 p1 hp1 hs1 hF1 => ?_) (fun x1 p1 e he hR => ?_)
  ·refine Rd.fin (short_good f0 hb p1 hp1) hF1 (fun x2 p2 hp2 hs2 hF2 => ?_) (fun x2 p2 e he hR => ?_)
   ·refine Rd.fin (qCL f0 hb p2 hp2) hF2 (fun x3 p3 hp3 hs3 hF3 => ?_) (fun x3 p3 e he hR => ?_)
    ·refine Rd.fin (qDa f0 hb 32 (by decide) p3 hp3) hF3 (fun x4 p4 hp4 hs4 hF4 => ?_) (fun x4 p4 e he hR => ?_)
     ·refine Rd.fin (qDa f0 hb 32 (by decide) p4 hp4) hF4 (fun x5 p5 hp5 hs5 hF5 => ?_) (fun x5 p5 e he hR => ?_)
      ·simp only [qC8 (qCj (qBF hb _) hs3)]
       exact ih p5 _ hp5 (by simp; omega) hF5
      exact bad _ _ _ he hR
     simp only [qDD f0 _ _ _ he, Option.bind_some]; exact bad _ _ _ he hR
    simp only [qDD f0 _ _ _ he, Option.bind_some]; exact bad _ _ _ he hR
   simp only [qEn f0 _ _ he, qDD f0 _ _ _ he, Option.bind_some]; exact bad _ _ _ he hR
  simp only [short_err f0 _ _ he, qEn f0 _ _ he, qDD f0 _ _ _ he, Option.bind_some]; exact bad _ _ _ he hR
theorem RdF.fin {σ γ : Type} {g : Nat → Option (List Int × Int × List Int × List S115 × Int × Int)} {s : Option (Fn4 × List Int)} {h : Nat → List Int × Int × List Int × List S115 × Int × Int → Option γ} {t : Fn4 × List Int → Option σ} {tail : σ → Nat → Option γ} {err R : γ} (hg : RdF f0 g s) (hF : Fin tail err (s.bind t) R)
  (good : ∀ a b c d p, Pl f0 p → s = some ((a, b, c, d), f0.drop p.toNat) → Fin tail err (t ((a, b, c, d), f0.drop p.toNat)) R → Ev (fun k => h k (a, b, c, d, p, 0)) R) (bad : ∀ a b c d p e, e ≠ 0 → R = err → Ev (fun k => h k (a, b, c, d, p, e)) R) : Ev (fun k => (g k).bind (h k)) R := by
 obtain ⟨a, b, c, d, p, e, hv, hs⟩ := hg
 cases s with
 | none => exact Ev.bind hv (bad a b c d p e hs (hF.no rfl))
 | some x =>
  obtain ⟨x, r⟩ := x
  obtain ⟨rfl, rfl, h0, h1, rfl⟩ := hs
  exact Ev.bind hv (good a b c d p ⟨h0, h1⟩ rfl ⟨fun o ho => hF.yes o ho, fun hn => hF.no hn⟩)
theorem l2_good (hb : qBh f0) (x0 : List Int) (m : ByteArray) (vs : List S71) (R : Res) : ∀ (n : Nat) (p : Int) (acc : List S80), Pl f0 p → acc.length + n ≤ 2147483647 → Fin (tailP x0) errP (fnsC n m vs acc (f0.drop p.toNat)) R →
  Ev (fun k => qAc.l2 k x0 (n : Int) f0 p 0 m vs acc) R := by
 intro n
 induction n with
 | zero =>
  intro p acc hp hn hF
  refine Ev.step (f := fun k => qAc.j4 k x0 0 false f0 p 0 m vs acc) (fun k => ?_) (Ev.step (f := fun k => (qAF.f f0 p 0).bind fun b => qAc.l3 k x0 b.1 f0 b.2.1 b.2.2 m vs acc []) (fun k => ?_) ?_)
  ·simp only [qAc.l2]; rw [if_neg (by decide)]; rfl
  ·simp only [qAc.j4]; rw [if_neg (by decide)]
  simp only [fnsC, relsI] at hF
  refine Rd.fin (int_good f0 hb p hp) hF (fun x1 p1 hp1 hs1 hF1 => ?_) (fun x1 p1 e he hR => ?_)
  ·have hx := qDO _ (qBF hb _) _ hs1
   obtain ⟨q, rfl⟩ := Int.eq_ofNat_of_zero_le hx.1
   exact l3_good f0 hb x0 m vs acc R q p1 [] hp1 (by have := hx.2; simp only at this; simp; omega) hF1
  exact hR ▸ l3_bad f0 x0 x1 p1 e he m vs acc []
 | succ n ih =>
  intro p acc hp hn hF
  simp only [fnsC, nfnP, Option.bind_assoc, Option.bind_some] at hF
  have hw : wrap64 (((n + 1 : Nat) : Int) - 1) = (n : Int) := by unfold wrap64; omega
  have hlen : acc.length < 1466015503701 := by omega
  refine Ev.step (f := fun k => qAc.j4 k x0 ((n + 1 : Nat) : Int) true f0 p 0 m vs acc) (fun k => ?_) (Ev.step (f := fun k => (qAx.f f0 p 0 32).bind fun b1 => ((qBl.f k f0 b1.2.1 b1.2.2).bind fun b2 => qAc.l2 k x0 (n : Int) f0 b2.2.2.2.2.1 b2.2.2.2.2.2 m vs (acc ++ [⟨b1.1, ⟨⟨b2.1, b2.2.1⟩, b2.2.2.1, b2.2.2.2.1⟩⟩]))) (fun k => ?_) ?_)
  ·simp only [qAc.l2, qA6.f, Option.bind_some]; rw [if_pos (by omega)]; rfl
  ·simp only [qAc.j4, if_true, hw]
   simp only [hlen, if_true]
  have bad : ∀ (x : List S80) (p e : Int), e ≠ 0 → R = errP → Ev (fun k => qAc.l2 k x0 (n : Int) f0 p e m vs x) R := fun x p e he hR => hR ▸ l2_bad f0 x0 n p e he m vs x
  refine Rd.fin (qDa f0 hb 32 (by decide) p hp) hF (fun x1 p1 hp1 hs1 hF1 => ?_) (fun x1 p1 e he hR => ?_)
  ·refine RdF.fin f0 (readFn_good f0 hb p1 hp1) hF1 (fun a b c d p2 hp2 hs2 hF2 => ?_) (fun a b c d p2 e he hR => ?_)
   ·exact ih p2 _ hp2 (by simp; omega) hF2
   exact bad _ _ _ he hR
  obtain ⟨a, b, c, d, hrf⟩ := readFn_bad f0 p1 e he
  exact Ev.bind hrf (bad _ _ _ he hR)
theorem l1_good (hb : qBh f0) (x0 : List Int) (m : ByteArray) (R : Res) : ∀ (n : Nat) (p : Int) (acc : List S71), Pl f0 p → acc.length + n ≤ 2147483647 → Fin (tailP x0) errP (varsC n m acc (f0.drop p.toNat)) R →
  Ev (fun k => qAc.l1 k x0 (n : Int) f0 p 0 m acc) R := by
 intro n
 induction n with
 | zero =>
  intro p acc hp hn hF
  refine Ev.step (f := fun k => qAc.j2 k x0 0 false f0 p 0 m acc) (fun k => ?_) (Ev.step (f := fun k => (qAF.f f0 p 0).bind fun b => qAc.l2 k x0 b.1 f0 b.2.1 b.2.2 m acc []) (fun k => ?_) ?_)
  ·simp only [qAc.l1]; rw [if_neg (by decide)]; rfl
  ·simp only [qAc.j2]; rw [if_neg (by decide)]
  simp only [varsC, fnsI] at hF
  refine Rd.fin (int_good f0 hb p hp) hF (fun x1 p1 hp1 hs1 hF1 => ?_) (fun x1 p1 e he hR => ?_)
  ·have hx := qDO _ (qBF hb _) _ hs1
   obtain ⟨q, rfl⟩ := Int.eq_ofNat_of_zero_le hx.1
   exact l2_good f0 hb x0 m acc R q p1 [] hp1 (by have := hx.2; simp only at this; simp; omega) hF1
  exact hR ▸ l2_bad f0 x0 x1 p1 e he m acc []
 | succ n ih =>
  intro p acc hp hn hF
  simp only [varsC, varP, Option.bind_assoc, Option.bind_some] at hF
  have hw : wrap64 (((n + 1 : Nat) : Int) - 1) = (n : Int) := by unfold wrap64; omega
  have hlen : acc.length < 4398046511104 := by omega
  refine Ev.step (f := fun k => qAc.j2 k x0 ((n + 1 : Nat) : Int) true f0 p 0 m acc) (fun k => ?_) (Ev.step (f := fun k => (qAx.f f0 p 0 32).bind fun b1 => ((qAk.f f0 b1.2.1 b1.2.2).bind fun b2 => ((qAO.f f0 b2.2.1 b2.2.2).bind fun b3 => qAc.l1 k x0 (n : Int) f0 b3.2.1 b3.2.2 m (acc ++ [⟨b1.1, ⟨wrap64 b2.1, b3.1⟩⟩])))) (fun k => ?_) ?_)
  ·simp only [qAc.l1, qA6.f, Option.bind_some]; rw [if_pos (by omega)]; rfl
  ·simp only [qAc.j2, if_true, hw]
   simp only [hlen, if_true]
  have bad : ∀ (x : List S71) (p e : Int), e ≠ 0 → R = errP → Ev (fun k => qAc.l1 k x0 (n : Int) f0 p e m x) R := fun x p e he hR => hR ▸ l1_bad f0 x0 n p e he m x
  refine Rd.fin (qDa f0 hb 32 (by decide) p hp) hF (fun x1 p1 hp1 hs1 hF1 => ?_) (fun x1 p1 e he hR => ?_)
  ·refine Rd.fin (qCL f0 hb p1 hp1) hF1 (fun x2 p2 hp2 hs2 hF2 => ?_) (fun x2 p2 e he hR => ?_)
   ·refine Rd.fin (long_good f0 hb p2 hp2) hF2 (fun x3 p3 hp3 hs3 hF3 => ?_) (fun x3 p3 e he hR => ?_)
    ·simp only [qC8 (qCj (qBF hb _) hs2)]
     exact ih p3 _ hp3 (by simp; omega) hF3
    exact bad _ _ _ he hR
   simp only [long_err f0 _ _ he, Option.bind_some]; exact bad _ _ _ he hR
  simp only [qEn f0 _ _ he, long_err f0 _ _ he, Option.bind_some]; exact bad _ _ _ he hR
def MK : List Int := [102, 111, 98, 106]
theorem mk_rd (i : Int) (h0 : 0 ≤ i) (h : i < 4) : rd MK i ≠ 0 ∧ rd MK i = MK.getD i.toNat 0 := by
 refine ⟨?_, rfl⟩
 have hc : i = 0 ∨ i = 1 ∨ i = 2 ∨ i = 3 := by omega
 rcases hc with rfl | rfl | rfl | rfl <;> decide
theorem l0_bad (x0 : List Int) (p e : Int) (he : e ≠ 0) : ∀ (d : Nat) (i : Int), 0 ≤ i → 4 - i = d → Ev (fun k => qAc.l0 k x0 MK 4 i f0 p e) errP := by
 intro d
 induction d with
 | zero =>
  intro i h0 hd
  refine Ev.step (fun k => ?_) (l1_bad f0 x0 0 p e he (strOfNums []) [])
  simp only [qAc.l0]
  rw [if_neg (by omega), qDD f0 32 p e he]
  simp only [Option.bind_some, int_err f0 p e he]
 | succ d ih =>
  intro i h0 hd
  refine Ev.step (fun k => ?_) (ih (i + 1) (by omega) (by omega))
  simp only [qAc.l0]
  rw [if_pos (by omega), if_pos h0, if_pos (by show i < 4; omega), qEn f0 p e he]
  simp only [Option.bind_some]
  rw [if_neg (fun hh => (mk_rd i h0 (by omega)).1 hh.symm), show wrap64 (i + 1) = i + 1 from by unfold wrap64; omega]
  simp only [qAB.f, if_neg he, Option.bind_some]
theorem l0_good (hb : qBh f0) (x0 : List Int) (R : Res) : ∀ (d : Nat) (i : Int), 0 ≤ i → 4 - i = d → i ≤ f0.length → Fin (tailP x0) errP (if (f0.drop i.toNat).take d = MK.drop i.toNat then objC (f0.drop 4) else none) R →
  Ev (fun k => qAc.l0 k x0 MK 4 i f0 i 0) R := by
 intro d
 induction d with
 | zero =>
  intro i h0 hd hl hF
  have hi : i = 4 := by omega
  subst hi
  rw [if_pos (by rfl)] at hF
  have hp : Pl f0 4 := ⟨by omega, hl⟩
  refine Ev.step (f := fun k => (qAx.f f0 4 0 32).bind fun b1 => ((qAF.f f0 b1.2.1 b1.2.2).bind fun b2 => qAc.l1 k x0 b2.1 f0 b2.2.1 b2.2.2 b1.1 [])) (fun k => ?_) ?_
  ·simp only [qAc.l0]; rw [if_neg (by omega)]
  unfold objC at hF
  refine Rd.fin (qDa f0 hb 32 (by decide) 4 hp) hF (fun x1 p1 hp1 hs1 hF1 => ?_) (fun x1 p1 e he hR => ?_)
  ·refine Rd.fin (int_good f0 hb p1 hp1) hF1 (fun x2 p2 hp2 hs2 hF2 => ?_) (fun x2 p2 e he hR => ?_)
   ·have hx := qDO _ (qBF hb _) _ hs2
    obtain ⟨q, rfl⟩ := Int.eq_ofNat_of_zero_le hx.1
    exact l1_good f0 hb x0 x1 R q p2 [] hp2 (by have := hx.2; simp only at this; simp; omega) hF2
   exact hR ▸ l1_bad f0 x0 x2 p2 e he x1 []
  simp only [int_err f0 _ _ he, Option.bind_some]
  exact hR ▸ l1_bad f0 x0 0 p1 e he x1 []
 | succ d ih =>
  intro i h0 hd hl hF
  have hi4 : i < 4 := by omega
  obtain ⟨m1, m2⟩ := mk_rd i h0 hi4
  have hmk := drop_cons' MK 0 i h0 (by show i < 4; omega)
  rw [← m2] at hmk
  have hw : wrap64 (i + 1) = i + 1 := by unfold wrap64; omega
  by_cases hlt : i < f0.length
  rotate_left
  ·have hnil : f0.drop i.toNat = [] := List.drop_eq_nil_of_le (by omega)
   rw [hnil, hmk] at hF
   rw [if_neg (by simp)] at hF
   rw [hF.no rfl]
   refine Ev.step (fun k => ?_) (l0_bad f0 x0 i 40 (by decide) d (i + 1) (by omega) (by omega))
   simp only [qAc.l0]
   rw [if_pos hi4, if_pos h0, if_pos (by show i < 4; omega), show qAk.f f0 i 0 = some (0, i, 40) from by simp [qAk.f, hlt]]
   simp only [Option.bind_some]
   rw [if_neg (fun hh => m1 hh.symm), hw]
   simp only [qAB.f, Option.bind_some]; rfl
  have hc := drop_cons' f0 0 i h0 hlt
  rw [hc, hmk, List.take_succ_cons] at hF
  have hby : qAk.f f0 i 0 = some (f0.getD i.toNat 0, i + 1, 0) := by simp [qAk.f, hlt]
  by_cases he : f0.getD i.toNat 0 = rd MK i
  ·refine Ev.step (fun k => ?_) (ih (i + 1) (by omega) (by omega) (by omega) ?_)
   ·simp only [qAc.l0]
    rw [if_pos hi4, if_pos h0, if_pos (by show i < 4; omega), hby]
    simp only [Option.bind_some]
    rw [if_pos he, hw]
   rw [he] at hF
   simpa using hF
  have hne : ¬ (f0.getD i.toNat 0 :: (f0.drop (i + 1).toNat).take d = rd MK i :: MK.drop (i + 1).toNat) := fun hh => he (List.cons.inj hh).1
  rw [if_neg hne] at hF
  rw [hF.no rfl]
  refine Ev.step (fun k => ?_) (l0_bad f0 x0 (i + 1) 52 (by decide) d (i + 1) (by omega) (by omega))
  simp only [qAc.l0]
  rw [if_pos hi4, if_pos h0, if_pos (by show i < 4; omega), hby]
  simp only [Option.bind_some]
  rw [if_neg he, hw]
  simp only [qAB.f, if_true, Option.bind_some]
def wholeC (b : List Int) : Option Obj4 := if b.take 4 = MK then objC (b.drop 4) else none
theorem unpack_ev (hb : qBh f0) (R : Res) (h4 : ¬ 16384 < f0.length) (hF : Fin (tailP f0) errP (wholeC f0) R) : Ev (fun k => qAc.f k f0) R := by
 refine Ev.congr (f := fun k => qAc.l0 k f0 MK 4 0 f0 0 0) (fun k => ?_) (l0_good f0 hb f0 R 4 0 (by omega) (by omega) (by omega) hF)
 unfold qAc.f qCm.f
 rw [if_neg (by omega), if_pos (by omega)]; rfl
end
end Q
end
section
namespace Q
open Go.RowKit PA PB PC
open DecLaw Wr Enc Val
theorem qDX (l : List Int) (hb : qBh l) : qBt (strOfNums l) = l := by
 unfold qBt
 rw [strOfNums_data, List.map_map]
 conv => rhs; rw [← List.map_id l]
 refine List.map_congr_left fun x hx => ?_
 have := hb x hx
 simp only [Function.comp, id]
 rw [UInt8.toNat_ofNat']
 omega
end Q
end
section
namespace Q
open Go.RowKit PA PB PC
attribute [local go_sem] qBd min2_int qBn min_two max_three min_three max_four min_four
def alive0.f (k : Nat)  : Option (Bool) := (qA9.f (⟨#[109]⟩ : ByteArray) ([(⟨(⟨#[118]⟩ : ByteArray), (⟨1, 1⟩ : S69)⟩ : S71)] : List (S71)) ([] : List (S80)) ([] : List (S82))).bind fun aD => ((qAc.f k aD.1).bind fun aB => (if aD.2 = 0 then (if aB.2.2.2.2 = 0 then (if (aD.1.length : Int) = 35 then (if 4 ≤ (aD.1.length : Int) then (if (strOfNums (aD.1.take 4)).toList = ([102, 111, 98, 106] : List UInt8) then (if aB.1.toList = ([109] : List UInt8) then (if (aB.2.1.length : Int) = 1 then (if 0 < (aB.2.1.length : Int) then (some (((qAC aB.2.1 0).f1.f1) == 1)) else (none)) else (some false)) else (some false)) else (some false)) else (none)) else (some false)) else (some false)) else (some false)))
theorem alive0.calls (k : Nat)  (r : Bool) (w : World) (h : alive0.f k  = some r) (hr : r = true) :
  Calls Try.prog 8 #[] w fun e w' => e = .returned (.bool r) ∧ Below w.heap.size w w' := by
 have HB := am (Below.refl w.heap.size w)
 have H : ((qA9.f (⟨#[109]⟩ : ByteArray) ([(⟨(⟨#[118]⟩ : ByteArray), (⟨1, 1⟩ : S69)⟩ : S71)] : List (S71)) ([] : List (S80)) ([] : List (S82))).bind fun aD => ((qAc.f k aD.1).bind fun aB => (if aD.2 = 0 then (if aB.2.2.2.2 = 0 then (if (aD.1.length : Int) = 35 then (if 4 ≤ (aD.1.length : Int) then (if (strOfNums (aD.1.take 4)).toList = ([102, 111, 98, 106] : List UInt8) then (if aB.1.toList = ([109] : List UInt8) then (if (aB.2.1.length : Int) = 1 then (if 0 < (aB.2.1.length : Int) then (some (((qAC aB.2.1 0).f1.f1) == 1)) else (none)) else (some false)) else (some false)) else (some false)) else (none)) else (some false)) else (some false)) else (some false)))) = some r := h
 clear h
 obtain ⟨aM, a7⟩ : ∃ y_ : List (S71), y_ = ([(⟨(⟨#[118]⟩ : ByteArray), (⟨1, 1⟩ : S69)⟩ : S71)] : List (S71)) := ⟨_, rfl⟩
 replace H : ((qA9.f (⟨#[109]⟩ : ByteArray) aM ([] : List (S80)) ([] : List (S82))).bind fun aD => ((qAc.f k aD.1).bind fun aB => (if aD.2 = 0 then (if aB.2.2.2.2 = 0 then (if (aD.1.length : Int) = 35 then (if 4 ≤ (aD.1.length : Int) then (if (strOfNums (aD.1.take 4)).toList = ([102, 111, 98, 106] : List UInt8) then (if aB.1.toList = ([109] : List UInt8) then (if (aB.2.1.length : Int) = 1 then (if 0 < (aB.2.1.length : Int) then (some (((qAC aB.2.1 0).f1.f1) == 1)) else (none)) else (some false)) else (some false)) else (some false)) else (none)) else (some false)) else (some false)) else (some false)))) = some r := by (rw [a7]; with_reducible exact H)
 have aj := am a7
 clear a7
 replace H := bm H
 obtain ⟨⟨aG, a4⟩, bN, H⟩ := H
 replace H : ((qAc.f k aG).bind fun aB => (if a4 = 0 then (if aB.2.2.2.2 = 0 then (if (aG.length : Int) = 35 then (if 4 ≤ (aG.length : Int) then (if (strOfNums (aG.take 4)).toList = ([102, 111, 98, 106] : List UInt8) then (if aB.1.toList = ([109] : List UInt8) then (if (aB.2.1.length : Int) = 1 then (if 0 < (aB.2.1.length : Int) then (some (((qAC aB.2.1 0).f1.f1) == 1)) else (none)) else (some false)) else (some false)) else (some false)) else (none)) else (some false)) else (some false)) else (some false))) = some r := H
 have A1 := am bN
 clear bN
 replace H := bm H
 obtain ⟨⟨aL, aE, aQ, aS, a9⟩, bO, H⟩ := H
 replace H : (if a4 = 0 then (if a9 = 0 then (if (aG.length : Int) = 35 then (if 4 ≤ (aG.length : Int) then (if (strOfNums (aG.take 4)).toList = ([102, 111, 98, 106] : List UInt8) then (if aL.toList = ([109] : List UInt8) then (if (aE.length : Int) = 1 then (if 0 < (aE.length : Int) then (some (((qAC aE 0).f1.f1) == 1)) else (none)) else (some false)) else (some false)) else (some false)) else (none)) else (some false)) else (some false)) else (some false)) = some r := H
 have A2 := am bO
 clear bO
 by_cases c3 : a4 = 0
 ·rw [if_pos c3] at H
  have bU : (a4 == 0) = true := beq_iff_eq.mpr c3
  have bV : (a4 != 0) = false := bn c3
  clear c3
  by_cases c4 : a9 = 0
  ·rw [if_pos c4] at H
   have bW : (a9 == 0) = true := beq_iff_eq.mpr c4
   have bX : (a9 != 0) = false := bn c4
   clear c4
   by_cases c5 : (aG.length : Int) = 35
   ·rw [if_pos c5] at H
    have bY : ((aG.length : Int) == 35) = true := beq_iff_eq.mpr c5
    have bZ : ((aG.length : Int) != 35) = false := bn c5
    clear c5
    by_cases c6 : 4 ≤ (aG.length : Int)
    ·rw [if_pos c6] at H
     replace c6 := d1 c6
     obtain ⟨aa, a8⟩ : ∃ y_ : List Int, y_ = (aG.take 4) := ⟨_, rfl⟩
     replace H : (if (strOfNums aa).toList = ([102, 111, 98, 106] : List UInt8) then (if aL.toList = ([109] : List UInt8) then (if (aE.length : Int) = 1 then (if 0 < (aE.length : Int) then (some (((qAC aE 0).f1.f1) == 1)) else (none)) else (some false)) else (some false)) else (some false)) = some r := by (rw [a8]; with_reducible exact H)
     have ad := am a8
     clear a8
     by_cases c7 : (strOfNums aa).toList = ([102, 111, 98, 106] : List UInt8)
     ·rw [if_pos c7] at H
      have b1 : ((strOfNums aa).toList == ([102, 111, 98, 106] : List UInt8)) = true := beq_iff_eq.mpr c7
      have b2 : ((strOfNums aa).toList != ([102, 111, 98, 106] : List UInt8)) = false := bn c7
      clear c7
      by_cases c8 : aL.toList = ([109] : List UInt8)
      ·rw [if_pos c8] at H
       have b3 : (aL.toList == ([109] : List UInt8)) = true := beq_iff_eq.mpr c8
       have b4 : (aL.toList != ([109] : List UInt8)) = false := bn c8
       clear c8
       by_cases c9 : (aE.length : Int) = 1
       ·rw [if_pos c9] at H
        have b5 : ((aE.length : Int) == 1) = true := beq_iff_eq.mpr c9
        have b6 : ((aE.length : Int) != 1) = false := bn c9
        clear c9
        by_cases c10 : 0 < (aE.length : Int)
        ·rw [if_pos c10] at H
         replace c10 := d1 c10
         obtain rfl := Option.some.inj H
         go_enter Try.func8, Try.ntmps8
         go_wp2_with (first | ((with_reducible refine qAJ (N := 8) rfl ?_); (try (refine qDK (by rfl) ?_; dsimp only)); refine Kd.R_lit k71 _ 71 ?hg (N := 8) ?hd (xs := ([(⟨(⟨#[118]⟩ : ByteArray), (⟨1, 1⟩ : S69)⟩ : S71)] : List (S71))) (inner := [.string (⟨#[118]⟩ : ByteArray), .int .i64 1, .int .u64 1]) (ok := fun _ => True) (okp := fun _ => True) ?hr ?hp (fun _ hk => hk) trivial (Below.refl _ _) (Nat.le_refl _) (by simp) ?_; (case hd => rfl); (case hg => rfl); (case hr => (go_simp; done)); (case hp => exact (Reps.c3 (show Kd.M k71 _ _ _ (⟨(⟨#[118]⟩ : ByteArray), (⟨1, 1⟩ : S69)⟩ : S71) [.string (⟨#[118]⟩ : ByteArray), .int .i64 1, .int .u64 1] from (k71_mkM _ _ _ (⟨(⟨#[118]⟩ : ByteArray), (⟨1, 1⟩ : S69)⟩ : S71) )) (Reps.none _ _))); intro b8 bg ho12 hb hg_ hnew_; clear hg_ hnew_; (rw [← aj.o] at ho12); have n_ := a2 (Kd.R_lower ho12 (qAe HB.o)) (am (qAj HB.o hb)); clear HB; obtain ⟨aC, HB⟩ := n_; clear hb ho12; obtain ⟨aV, aR, bH⟩ := Kd.R_slice aC.o; subst bH) | ((with_reducible refine qAJ (N := 1) rfl ?_); (try (refine qDK (by rfl) ?_; dsimp only)); refine bx 1 #[.string ⟨#[]⟩, .slice none 0 0, .slice none 0 0, .slice none 0 0] 27 ?_; intro aI hg bd hbox hb; have n_ := a2 (Kd.R_below aC.o hb) (a2 (qAj HB.o hb) (a2 (hbox) (am (by rw [hg]; exact (qAe HB.o) : w.heap.size ≤ aI)))); clear aC HB; obtain ⟨aC, HB, aF, ac⟩ := n_; clear hb hbox hg; obtain ⟨al, an, ao, ap⟩ := c4_ bd aF.o; obtain ⟨ay, az, bA, bB⟩ := z4_ aF.o) | ((with_reducible refine qAp (f := 9) rfl ?_); refine gL 12 Try.func9 #[.agg #[.string (⟨#[109]⟩ : ByteArray), .slice aV aM.length aR, .slice none 0 0, .slice none 0 0]] ?_; (refine (qA9.calls (⟨#[109]⟩ : ByteArray) _ _ aM _ _ ([] : List (S80)) _ _ ([] : List (S82)) aG a4 _ ?side1 ?side2 ?side3 ?side4 ?side5 ?side6 A1.o).mono ?_); (case side1 => refine (Kd.R_reads' (e := 71) (base := w.heap.size) (ok := fun k_ => True) (n := aM.length) (c := aR) ?_).2.2; exact (by exact (Kd.R_mono (Kd.R_far (p := ⟨aI, 3, none⟩) (Kd.R_far (p := ⟨aI, 2, none⟩) (Kd.R_far (p := ⟨aI, 1, none⟩) (Kd.R_far (p := ⟨aI, 0, none⟩) (Kd.R_types aC.o aF.o (by decide)) (fun _ hk => hk.2) (.string (⟨#[109]⟩ : ByteArray))) (fun _ hk => hk.2) (.slice aV aM.length aR)) (fun _ hk => hk.2) (.slice none 0 0)) (fun _ hk => hk.2) (.slice none 0 0)) (fun _ h_ => h_.1)))); (case side2 => exact (Kd.R_reads' aC.o).2.1); (case side3 => exact Kd.C_nil _ _); (case side4 => exact Nat.le_refl _); (case side5 => exact Kd.C_nil _ _); (case side6 => exact Nat.le_refl _); rintro e bh ⟨b9, rfl, ag, hb⟩; refine ⟨_, rfl, ?_⟩; have n_ := a2 (Kd.R_below (by exact (Kd.R_mono (Kd.R_far (p := ⟨aI, 3, none⟩) (Kd.R_far (p := ⟨aI, 2, none⟩) (Kd.R_far (p := ⟨aI, 1, none⟩) (Kd.R_far (p := ⟨aI, 0, none⟩) (Kd.R_types aC.o aF.o (by decide)) (fun _ hk => hk.2) (.string (⟨#[109]⟩ : ByteArray))) (fun _ hk => hk.2) (.slice aV aM.length aR)) (fun _ hk => hk.2) (.slice none 0 0)) (fun _ hk => hk.2) (.slice none 0 0)) (fun _ h_ => h_.1))) hb) (a2 (Kd.R_lower ag (qAe (by repeat (with_reducible first | exact HB.o | refine qAq ?_ ac.o)))) (a2 (qAd (g := aI) (o := .cells #[.string (⟨#[109]⟩ : ByteArray), .slice aV aM.length aR, .slice none 0 0, .slice none 0 0] 27 (0, 0)) (by refine qAo (cs := #[.string (⟨#[109]⟩ : ByteArray), .slice aV aM.length aR, .slice none 0 0, .slice none 0 0]) ?_ 3 _ rfl; refine qAo (cs := #[.string (⟨#[109]⟩ : ByteArray), .slice aV aM.length aR, .slice none 0 0, .slice none 0 0]) ?_ 2 _ rfl; refine qAo (cs := #[.string (⟨#[109]⟩ : ByteArray), .slice none 0 0, .slice none 0 0, .slice none 0 0]) ?_ 1 _ rfl; refine qAo (cs := #[.string ⟨#[]⟩, .slice none 0 0, .slice none 0 0, .slice none 0 0]) ?_ 0 _ rfl; exact aF.o) hb) (am (qAj (by repeat (with_reducible first | exact HB.o | refine qAq ?_ ac.o)) hb)))); clear aC aF HB; obtain ⟨aC, aH, aF, HB⟩ := n_; obtain ⟨a5, a6, bI⟩ := Kd.R_slice aH.o; subst bI) | ((with_reducible refine qAp (f := 7) rfl ?_); refine gL 17 Try.func7 #[.slice a5 aG.length a6] ?_; (with_reducible refine (qAc.calls k _ _ aG aL aE aQ aS a9 _ ?side1 ?side2 A2.o).mono ?_); (case side1 => exact (Kd.R_reads' aH.o).2.2); (case side2 => exact (Kd.R_reads' aH.o).2.1); rintro e bi ⟨ba, bb, bc, rfl, ag, bR, bS, hb⟩; refine ⟨_, rfl, ?_⟩; have n_ := a2 (Kd.R_elder' aC.o (Kd.R_base ag) hb) (a2 (Kd.R_below aH.o hb) (a2 (Kd.R_lower (Kd.R_new' ag (Kd.R_lt aC.o)) (qAe HB.o)) (a2 (Kd.S_lower bR (qAe HB.o)) (a2 (Kd.R_lower bS (qAe HB.o)) (a2 (qAd aF.o hb) (am (qAj HB.o hb))))))); clear aC aH aF HB; obtain ⟨aC, aH, aN, aT, aU, aF, HB⟩ := n_) | ((with_reducible refine qAJ (N := 4) rfl ?_); (try (refine qDK (by rfl) ?_; dsimp only)); refine bx 4 #[.string ⟨#[]⟩, .slice none 0 0, .slice none 0 0, .slice none 0 0] 27 ?_; intro aA hg bT hbox hb; have n_ := a2 (Kd.R_below aC.o hb) (a2 (Kd.R_below aH.o hb) (a2 (Kd.R_below aN.o hb) (a2 (Kd.S_below aT.o hb) (a2 (Kd.R_below aU.o hb) (a2 (qAd aF.o hb) (a2 (qAj HB.o hb) (a2 (hbox) (a2 (by rw [hg]; exact (qAe HB.o) : w.heap.size ≤ aA) (am (by rw [hg]; exact Nat.ne_of_lt (qAw aF.o) : aI ≠ aA)))))))))); clear aC aH aN aT aU aF HB; obtain ⟨aC, aH, aN, aT, aU, aF, HB, aJ, ah, aK⟩ := n_; clear hb hbox hg; obtain ⟨aq, ar, au, av⟩ := c4_ bT aJ.o; obtain ⟨bC, bD, bE, bF⟩ := z4_ aJ.o; obtain ⟨aO, aP, bJ⟩ := Kd.R_slice aN.o; subst bJ; obtain ⟨aW, aX, bK⟩ := Kd.S_slice aT.o; subst bK; obtain ⟨a1, a3, bL⟩ := Kd.R_slice aU.o; subst bL) | ((with_reducible refine gate_store (t := 27) (p := 4) rfl ?_); refine store_event (t := 27) (p := 4) (v := ?vo_w25) (w1 := ((((bT.setCell ⟨aA, 0, none⟩ (.string aL)).setCell ⟨aA, 1, none⟩ (.slice aO aE.length aP)).setCell ⟨aA, 2, none⟩ (.slice aW aQ.length aX)).setCell ⟨aA, 3, none⟩ (.slice a1 aS.length a3))) ?hg ?ho ?hn ?hr ?_; (case ho => rfl); (case hg => rfl); (case hn => rfl); (case hr => (go_simp; done)); intro ab hw; have n0_ : qAa (Kd.R k71 71 ab w.heap.size (fun k_ => some k_ ≠ (.slice aO aE.length aP : Value).ownBlock) (.slice aV aM.length aR) aM) := ⟨(by rw [hw]; exact (by exact Kd.R_mono (Kd.R_far (p := ⟨aA, 3, none⟩) (Kd.R_far (p := ⟨aA, 2, none⟩) (Kd.R_far (p := ⟨aA, 1, none⟩) (Kd.R_far (p := ⟨aA, 0, none⟩) (Kd.R_types aC.o aJ.o (by decide)) (fun _ hk => hk.2) (.string aL)) (fun _ hk => hk.2) (.slice aO aE.length aP)) (fun _ hk => hk.2) (.slice aW aQ.length aX)) (fun _ hk => hk.2) (.slice a1 aS.length a3)) (fun _ hk => hk.1.2)))⟩; have n1_ : qAa (Kd.R (Kd.int .u8) 5 ab w.heap.size (fun _ => True) (.slice a5 aG.length a6) aG) := ⟨(by rw [hw]; exact (by exact Kd.R_mono (Kd.R_far (p := ⟨aA, 3, none⟩) (Kd.R_far (p := ⟨aA, 2, none⟩) (Kd.R_far (p := ⟨aA, 1, none⟩) (Kd.R_far (p := ⟨aA, 0, none⟩) (Kd.R_types aH.o aJ.o (by decide)) (fun _ hk => hk.2) (.string aL)) (fun _ hk => hk.2) (.slice aO aE.length aP)) (fun _ hk => hk.2) (.slice aW aQ.length aX)) (fun _ hk => hk.2) (.slice a1 aS.length a3)) (fun _ hk => trivial)))⟩; have n2_ : qAa (Kd.R k71 71 ab w.heap.size (fun k_ => some k_ ≠ (.slice aV aM.length aR : Value).ownBlock) (.slice aO aE.length aP) aE) := ⟨(by rw [hw]; exact (by exact Kd.R_mono (Kd.R_far (p := ⟨aA, 3, none⟩) (Kd.R_far (p := ⟨aA, 2, none⟩) (Kd.R_far (p := ⟨aA, 1, none⟩) (Kd.R_far (p := ⟨aA, 0, none⟩) (Kd.R_types aN.o aJ.o (by decide)) (fun _ hk => hk.2) (.string aL)) (fun _ hk => hk.2) (.slice aO aE.length aP)) (fun _ hk => hk.2) (.slice aW aQ.length aX)) (fun _ hk => hk.2) (.slice a1 aS.length a3)) (fun _ hk => hk.1.2)))⟩; have n3_ : qAa (Kd.S k80 80 ab w.heap.size (fun _ => True) (.slice aW aQ.length aX) aQ) := ⟨(by rw [hw]; exact (by exact Kd.S_mono (Kd.S_far (p := ⟨aA, 3, none⟩) (Kd.S_far (p := ⟨aA, 2, none⟩) (Kd.S_far (p := ⟨aA, 1, none⟩) (Kd.S_far (p := ⟨aA, 0, none⟩) (Kd.S_types aT.o aJ.o (by decide)) (fun _ hk => hk.2) (.string aL)) (fun _ hk => hk.2) (.slice aO aE.length aP)) (fun _ hk => hk.2) (.slice aW aQ.length aX)) (fun _ hk => hk.2) (.slice a1 aS.length a3)) (fun _ hk => trivial)))⟩; have n4_ : qAa (Kd.R k82 82 ab w.heap.size (fun _ => True) (.slice a1 aS.length a3) aS) := ⟨(by rw [hw]; exact (by exact Kd.R_mono (Kd.R_far (p := ⟨aA, 3, none⟩) (Kd.R_far (p := ⟨aA, 2, none⟩) (Kd.R_far (p := ⟨aA, 1, none⟩) (Kd.R_far (p := ⟨aA, 0, none⟩) (Kd.R_types aU.o aJ.o (by decide)) (fun _ hk => hk.2) (.string aL)) (fun _ hk => hk.2) (.slice aO aE.length aP)) (fun _ hk => hk.2) (.slice aW aQ.length aX)) (fun _ hk => hk.2) (.slice a1 aS.length a3)) (fun _ hk => trivial)))⟩; have n5_ : qAa (ab.heap[aI]? = some (.cells #[.string (⟨#[109]⟩ : ByteArray), .slice aV aM.length aR, .slice none 0 0, .slice none 0 0] 27 (0, 0))) := ⟨(by rw [hw]; exact (by refine qAg ?_ aK.o _; refine qAg ?_ aK.o _; refine qAg ?_ aK.o _; refine qAg ?_ aK.o _; exact aF.o))⟩; have n6_ : qAa (ab.heap[aA]? = some (.cells #[.string aL, .slice aO aE.length aP, .slice aW aQ.length aX, .slice a1 aS.length a3] 27 (0, 0))) := ⟨(by rw [hw]; exact (by refine qAo (cs := #[.string aL, .slice aO aE.length aP, .slice aW aQ.length aX, .slice none 0 0]) ?_ 3 _ rfl; refine qAo (cs := #[.string aL, .slice aO aE.length aP, .slice none 0 0, .slice none 0 0]) ?_ 2 _ rfl; refine qAo (cs := #[.string aL, .slice none 0 0, .slice none 0 0, .slice none 0 0]) ?_ 1 _ rfl; refine qAo (cs := #[.string ⟨#[]⟩, .slice none 0 0, .slice none 0 0, .slice none 0 0]) ?_ 0 _ rfl; exact aJ.o))⟩; have n7_ : qAa (Below w.heap.size w ab) := ⟨(by rw [hw]; exact (by repeat (with_reducible first | exact HB.o | refine qAq ?_ ah.o)))⟩; clear hw; clear aC; clear aH; clear aN; clear aT; clear aU; clear aF; clear aJ; clear HB; have aC := n0_; have aH := n1_; have aN := n2_; have aJ := n6_; have HB := n7_; clear n0_ n1_ n2_ n3_ n4_ n5_ n6_ n7_; have b7 : (4 : Int) ≤ ((aG.length : Int) : Int) := od (by assumption); obtain ⟨i026, ae, _, hsz26, _⟩ := info_parts info5; have hroom26 : aG.length ≤ a6 := (Kd.R_reads' aH.o).2.1; have hC26 : Kd.C (Kd.int .u8) _ a5 aG.length aG := (Kd.R_reads' aH.o).2.2; have hcut26 := cut_to (P := Try.prog) 22 5 .i64 Try.underlying22 ae a5 aG.length a6 4 (by omega) b7 hroom26; have hr26 := Kd.C_take (m := 4) hC26 (by omega); have ak : aa.length = (4 : Int).toNat := (by rw [ad.o, List.length_take]; omega); rw [← ad.o] at hr26; rw [← ak] at hcut26; have ai := am hr26; clear hr26 hC26 hroom26 ae hsz26; clear ak; have hcv27 := Kd.C_string (P := Try.prog) (A := a5) (c := a6) Try.underlying22 Try.underlying5 Try.underlying9 (by repeat (with_reducible exact ai.o)); obtain ⟨aw, ax⟩ := c2_ ab aJ.o; have bM : 0 ≤ (0 : Int) := (by omega); have af : 0 < (aE.length : Int) := od (by assumption); obtain ⟨bP, bG, aY, aZ, a0⟩ := qDx (Kd.R_reads' aN.o).2.2 0 bM af; cases bG; have qi309 : (0 < aE.length) = True := eq_true (by omega); (try rw [show (0 : Int).toNat = 0 from rfl] at aY); (try rw [show 0 * 3 = 0 from rfl] at aY); (try rw [Addr.add_zero'] at aY); (try rw [show (0 : Int).toNat = 0 from rfl] at aZ); (try rw [show 0 * 3 = 0 from rfl] at aZ); (try rw [Addr.add_zero'] at aZ); (try rw [show (0 : Int).toNat = 0 from rfl] at a0); (try rw [show 0 * 3 = 0 from rfl] at a0); (try rw [Addr.add_zero'] at a0); replace af := eq_true af))
         go_ret
         exact ⟨by rfl, by exact HB.o⟩
        ·rw [if_neg c10] at H
         exact absurd H (by simp)
       ·rw [if_neg c9] at H
        subst hr
        exact absurd H (by simp)
      ·rw [if_neg c8] at H
       subst hr
       exact absurd H (by simp)
     ·rw [if_neg c7] at H
      subst hr
      exact absurd H (by simp)
    ·rw [if_neg c6] at H
     exact absurd H (by simp)
   ·rw [if_neg c5] at H
    subst hr
    exact absurd H (by simp)
  ·rw [if_neg c4] at H
   subst hr
   exact absurd H (by simp)
 ·rw [if_neg c3] at H
  subst hr
  exact absurd H (by simp)
def qAt.f (k : Nat) : Option Bool := if alive0.f k = some true then some true else none
theorem qAt.calls (k : Nat) (r : Bool) (w : World) (h : qAt.f k = some r) :
  Calls Try.prog 8 #[] w fun e w' => e = .returned (.bool r) ∧ Below w.heap.size w w' := by
 unfold qAt.f at h
 split at h
 ·rename_i h0
  obtain rfl := Option.some.inj h
  exact alive0.calls k _ w h0 rfl
 ·cases h
end Q
end
section
namespace Q
open Go.RowKit PA PB PC
open Val Ins DecLaw Wr Enc
theorem equal_self (l : List Int) (hl : l.length ≤ 4611686018427387904) : Ev (fun k => qAu.f k l l) true := by
 have hloop : ∀ (d : Nat) (i : Int), 0 ≤ i → (l.length : Int) - i = d → Ev (fun k => qAu.l0 k l l (l.length : Int) i) true := by
  intro d
  induction d with
  | zero =>
   intro i h0 hd
   refine Ev.step (f := fun _ => some true) (fun k => ?_) (Ev.now _)
   simp only [qAu.l0]
   rw [if_neg (by omega)]
  | succ d ih =>
   intro i h0 hd
   refine Ev.step (fun k => ?_) (ih (i + 1) (by omega) (by omega))
   simp only [qAu.l0]
   rw [if_pos (by omega), if_pos h0, if_pos (by omega), if_pos (by omega), if_pos trivial, qBD (n := l.length) h0 (by omega) hl]
 refine Ev.congr (fun k => ?_) (hloop l.length 0 (by omega) (by omega))
 unfold qAu.f
 rw [if_pos rfl]
theorem tailP_ev (m : ByteArray) (vs : List S71) (fs : List S80) (rs : List S82) (hg : qCI m vs fs rs) (hl : ¬ 16384 < (qB6 m vs fs rs).length) : Ev (tailP (qB6 m vs fs rs) (m, vs, fs, rs)) (if qBI m vs fs rs = 0 then (m, vs, fs, rs, 0) else errP) := by
 have hp : qA9.f m vs fs rs = (if qBI m vs fs rs ≠ 0 then some ([], qBI m vs fs rs) else if 16384 < (qB6 m vs fs rs).length then some ([], 3) else some (qB6 m vs fs rs, 0)) := if_pos hg
 by_cases h : qBI m vs fs rs = 0
 rotate_left
 ·rw [if_pos h] at hp
  rw [if_neg h]
  refine Ev.congr (f := fun _ => some errP) (fun k => ?_) (Ev.now _)
  unfold tailP
  rw [hp, Option.bind_some, if_neg h]
 rw [if_neg (fun q => q h), if_neg hl] at hp
 rw [if_pos h]
 refine Ev.congr (f := fun k => (qAu.f k (qB6 m vs fs rs) (qB6 m vs fs rs)).bind fun t => (if t = true then some (m, vs, fs, rs, 0) else some errP)) (fun k => ?_) (Ev.bind (equal_self _ (by omega)) ?_)
 ·unfold tailP
  rw [hp, Option.bind_some, if_pos rfl]
 simp only [if_true]; exact Ev.now _
def aliveB : List Int := [102, 111, 98, 106, 0, 0, 0, 1, 109, 0, 0, 0, 1, 0, 0, 0, 1, 118, 1, 0, 0, 0, 0, 0, 0, 0, 1, 0, 0, 0, 0, 0, 0, 0, 0]
def qDU : ByteArray := ⟨#[109]⟩
def qDV : List S71 := [⟨⟨#[118]⟩, ⟨1, 1⟩⟩]
theorem alive_good : qCI qDU qDV [] [] := by decide
theorem qDn : qB6 qDU qDV [] [] = aliveB := by
 unfold qB6 qDU qDV qBt varB qBt
 simp only [Lib.toList_data]
 rfl
theorem qEw : qBI qDU qDV [] [] = 0 := by kernel_rfl
theorem qEx : wholeC aliveB = some (qDU, qDV, [], []) := by kernel_rfl
theorem alive0_ev : Ev (fun k => alive0.f k) true := by
 have hp : qA9.f qDU qDV [] [] = some (aliveB, 0) := by
  unfold qA9.f
  rw [if_pos alive_good, if_neg (fun q => q qEw), qDn, if_neg (by decide)]
 have ht := tailP_ev qDU qDV [] [] alive_good (by rw [qDn]; decide)
 rw [if_pos qEw, qDn] at ht
 have hu := unpack_ev aliveB (by unfold qBh aliveB; decide) _ (by decide) ⟨fun o ho => by rw [qEx] at ho; obtain rfl := Option.some.inj ho; exact ht, fun hn => by rw [qEx] at hn; cases hn⟩
 unfold alive0.f
 rw [show qA9.f (⟨#[109]⟩ : ByteArray) ([(⟨(⟨#[118]⟩ : ByteArray), (⟨1, 1⟩ : S69)⟩ : S71)]) [] [] = some (aliveB, 0) from hp]
 simp only [Option.bind_some]
 refine Ev.bind hu ?_
 refine Ev.congr (fun k => ?_) (Ev.now _)
 unfold qDU qDV
 simp only [Lib.toList_data, strOfNums]
 rfl
theorem alive_ev : Ev (fun k => qAt.f k) true := by
 obtain ⟨K, hK⟩ := alive0_ev
 exact ⟨K, fun k hk => if_pos (hK k hk)⟩
end Q
end
section
namespace Q
open Go.RowKit PA PB PC
open DecLaw Wr Enc Ins Val
theorem numP_be (m : Nat) (n : Int) (h0 : 0 ≤ n) (h : n < 256 ^ m) (r : List Int) : numP m (be n m m ++ r) = some (n, r) := by
 have hl : (be n m m).length = m := qAL n m m
 unfold numP
 rw [if_pos (by rw [List.length_append]; omega), List.take_append_of_le_length (by omega), List.drop_append_of_le_length (by omega), List.take_of_length_le (by omega), List.drop_of_length_le (by omega), valB_be m n h0 h, List.nil_append]
theorem intP_be (n : Int) (h0 : 0 ≤ n) (h : n ≤ 2147483647) (r : List Int) : intP (be n 4 4 ++ r) = some (n, r) := by
 have hl : (be n 4 4).length = 4 := qAL n 4 4
 unfold intP
 rw [if_pos (by rw [List.length_append]; omega), List.take_append_of_le_length (by omega), List.drop_append_of_le_length (by omega), List.take_of_length_le (by omega), List.drop_of_length_le (by omega), valB_be 4 n h0 (by omega), if_pos h, List.nil_append]
theorem rawP_raw (most : Int) (l r : List Int) (h : (l.length : Int) ≤ most) (h2 : (l.length : Int) ≤ 2147483647) : rawP most (rawB l ++ r) = some (l, r) := by
 unfold rawP rawB
 rw [List.append_assoc, intP_be l.length (by omega) h2 (l ++ r), Option.bind_some]
 simp only
 rw [if_pos ⟨h, by rw [List.length_append]; omega⟩, Int.toNat_natCast, List.take_append_of_le_length (Nat.le_refl _), List.drop_append_of_le_length (Nat.le_refl _), List.take_length, List.drop_length, List.nil_append]
theorem qDc (x : Int) (r : List Int) : qEd ([x] ++ r) = some (x, r) := rfl
theorem strOf_bytesI (s : ByteArray) : strOfNums (qBt s) = s := by
 have h : (strOfNums (qBt s)).data.toList = s.data.toList := by
  rw [strOfNums_data]
  unfold qBt
  rw [List.map_map]
  conv => rhs; rw [← List.map_id s.data.toList]
  refine List.map_congr_left fun x hx => ?_
  simp
 cases s with
 | mk d =>
  have h2 : (strOfNums (qBt ⟨d⟩)).data = d := Array.ext' h
  cases hs : strOfNums (qBt ⟨d⟩) with
  | mk e => rw [hs] at h2; simp only at h2; rw [h2]
theorem qCZ (most : Int) (s : ByteArray) (r : List Int) (h : (s.size : Int) ≤ most) (h2 : (s.size : Int) ≤ 2147483647) : textP most (rawB (qBt s) ++ r) = some (s, r) := by
 have hl := qBz s
 unfold textP
 rw [rawP_raw most (qBt s) r (by rw [hl]; exact h) (by rw [hl]; exact h2), Option.map_some, strOf_bytesI]
theorem bytesP_all : ∀ (l acc r : List Int), qDy l.length acc (l ++ r) = some (acc ++ l, r)
 | [], acc, r => by simp [qDy]
 | x :: l, acc, r => by
  show qDy (l.length + 1) acc (x :: (l ++ r)) = _
  simp only [qDy, qEd, Option.bind_some]
  rw [bytesP_all l (acc ++ [x]) r, List.append_assoc]; rfl
theorem byB_same (l : List Int) (h : ∀ x ∈ l, 0 ≤ x ∧ x < 256) : byB l = l := by
 unfold byB
 conv => rhs; rw [← List.map_id l]
 refine List.map_congr_left fun x hx => ?_
 have := h x hx
 simp only [id]
 omega
theorem kindsP_all (l r : List Int) (h : ∀ x ∈ l, 0 ≤ x ∧ x < 256) (hl : l.length < 256) : qCP ([(l.length : Int) % 256] ++ byB l ++ r) = some (l, r) := by
 rw [byB_same l h, List.append_assoc, show (l.length : Int) % 256 = l.length from by omega]
 unfold qCP
 rw [qDc, Option.bind_some]
 simp only [Int.toNat_natCast]
 rw [bytesP_all l [] r, List.nil_append]
theorem map_toS_toD (l : List S115) : (l.map toD).map toS = l := by
 rw [List.map_map]
 conv => rhs; rw [← List.map_id l]
 exact List.map_congr_left fun x _ => rfl
theorem decP_enc (l : List S115) (hok : l.all okS = true) (hu : l.all u64S = true) (hl : l.length ≤ 4096) : decP (encB (l.map toD)) = (l.map toD, 0) := by
 have ho : DecOk (encB (l.map toD)) (l.map toD) := ⟨fun x hx => by
   obtain ⟨y, hy, rfl⟩ := List.mem_map.1 hx
   have h1 : okS y = true := List.all_eq_true.1 hok y hy
   have h2 : u64S y = true := List.all_eq_true.1 hu y hy
   have h3 : 0 ≤ y.f2.f1 ∧ y.f2.f1 < 18446744073709551616 := of_decide_eq_true h2
   exact ⟨h1, h3⟩, by rw [List.length_map]; exact hl, rfl⟩
 unfold decP
 rcases decL_spec (encB (l.map toD)) ((encB (l.map toD)).length + 1) [] (encB (l.map toD)) (by omega) (by simp) (by simp) (by simp [encB]) with ⟨m, hm, hok2⟩ | ⟨_, hb⟩ | ⟨_, hb⟩
 ·rw [hm, ok_ok ho hok2]
 ·exact (ok_bad ho hb).elim
 exact (ok_big ho hb).elim
theorem codeP_all (l : List S115) (r : List Int) (hok : l.all okS = true) (hu : l.all u64S = true) (hl : l.length ≤ 4096) (hb : (encB (l.map toD)).length ≤ 16384) : qEz (rawB (encB (l.map toD)) ++ r) = some (l, r) := by
 unfold qEz
 rw [rawP_raw 16384 _ r (by omega) (by omega), Option.bind_some]
 simp only [decP_enc l hok hu hl, if_true, map_toS_toD]
theorem fnP_all (a : List Int) (b : Int) (c : List Int) (d : List S115) (r : List Int) (ha : ∀ x ∈ a, 0 ≤ x ∧ x < 256) (hal : a.length < 256) (hb : 0 ≤ b ∧ b < 256) (hc : ∀ x ∈ c, 0 ≤ x ∧ x < 256) (hcl : c.length < 256)
  (hok : d.all okS = true) (hu : d.all u64S = true) (hd : d.length ≤ 4096) (he : (encB (d.map toD)).length ≤ 16384) : fnP (fnB a b c d ++ r) = some ((a, b, c, d), r) := by
 have e : fnB a b c d ++ r = [(a.length : Int) % 256] ++ byB a ++ ([b % 256] ++ ([(c.length : Int) % 256] ++ byB c ++ (rawB (encB (d.map toD)) ++ r))) := by
  unfold fnB
  simp only [List.append_assoc]
 rw [e]
 unfold fnP
 rw [kindsP_all a _ ha hal, Option.bind_some]
 simp only
 rw [qDc, Option.bind_some]
 simp only
 rw [kindsP_all c _ hc hcl, Option.bind_some]
 simp only
 rw [codeP_all d r hok hu hd he, Option.bind_some, show b % 256 = b from by omega]
theorem varP_all (x : S71) (r : List Int) (hs : x.f0.size ≤ 32) (h0 : 0 ≤ x.f1.f0 ∧ x.f1.f0 < 256) (h1 : 0 ≤ x.f1.f1 ∧ x.f1.f1 < 18446744073709551616) : varP (varB x ++ r) = some (x, r) := by
 unfold varP varB
 rw [List.append_assoc, qCZ 32 x.f0 _ (by omega) (by omega), Option.bind_some]
 simp only
 rw [List.append_assoc, qDc, Option.bind_some]
 simp only
 rw [numP_be 8 x.f1.f1 h1.1 (by omega), Option.bind_some, show x.f1.f0 % 256 = x.f1.f0 from by omega]
theorem relP_all (x : S82) (r : List Int) (h0 : 0 ≤ x.f0 ∧ x.f0 < 65536) (h1 : 0 ≤ x.f1 ∧ x.f1 < 65536) (h2 : 0 ≤ x.f2 ∧ x.f2 < 256) (h3 : x.f3.size ≤ 32) (h4 : x.f4.size ≤ 32) : relP (relB x ++ r) = some (x, r) := by
 unfold relP relB
 rw [List.append_assoc, numP_be 2 x.f0 h0.1 (by omega), Option.bind_some]
 simp only
 rw [List.append_assoc, numP_be 2 x.f1 h1.1 (by omega), Option.bind_some]
 simp only
 rw [List.append_assoc, qDc, Option.bind_some]
 simp only
 rw [List.append_assoc, qCZ 32 x.f3 _ (by omega) (by omega), Option.bind_some]
 simp only
 rw [qCZ 32 x.f4 r (by omega) (by omega), Option.bind_some, show x.f2 % 256 = x.f2 from by omega]
def inV (x : S71) : Prop := x.f0.size ≤ 32 ∧ (0 ≤ x.f1.f0 ∧ x.f1.f0 < 256) ∧ (0 ≤ x.f1.f1 ∧ x.f1.f1 < 18446744073709551616)
structure InN (x : S80) : Prop where
 s : x.f0.size ≤ 32
 a : ∀ y ∈ x.f1.f0.f0, 0 ≤ y ∧ y < 256
 al : x.f1.f0.f0.length < 256
 b : 0 ≤ x.f1.f0.f1 ∧ x.f1.f0.f1 < 256
 c : ∀ y ∈ x.f1.f1, 0 ≤ y ∧ y < 256
 cl : x.f1.f1.length < 256
 ok : x.f1.f2.all okS = true
 u : x.f1.f2.all u64S = true
 dl : x.f1.f2.length ≤ 4096
 e : (encB (x.f1.f2.map toD)).length ≤ 16384
def inR (x : S82) : Prop := (0 ≤ x.f0 ∧ x.f0 < 65536) ∧ (0 ≤ x.f1 ∧ x.f1 < 65536) ∧ (0 ≤ x.f2 ∧ x.f2 < 256) ∧ x.f3.size ≤ 32 ∧ x.f4.size ≤ 32
theorem nfnP_all (x : S80) (r : List Int) (h : InN x) : nfnP (nfnB x ++ r) = some (x, r) := by
 have hs := h.s
 unfold nfnP nfnB
 rw [List.append_assoc, qCZ 32 x.f0 _ (by omega) (by omega), Option.bind_some]
 simp only
 rw [fnP_all _ _ _ _ r h.a h.al h.b h.c h.cl h.ok h.u h.dl h.e, Option.bind_some]
theorem relsC_all (m : ByteArray) (vs : List S71) (fs : List S80) : ∀ (l acc : List S82) (r : List Int), (∀ x ∈ l, inR x) → relsC l.length m vs fs acc (l.flatMap relB ++ r) = endO (m, vs, fs, acc ++ l) r
 | [], acc, r, _ => by simp [relsC]
 | x :: l, acc, r, h => by
  obtain ⟨h0, h1, h2, h3, h4⟩ := h x List.mem_cons_self
  show relsC (l.length + 1) m vs fs acc ((relB x ++ l.flatMap relB) ++ r) = _
  simp only [relsC]
  rw [List.append_assoc, relP_all x _ h0 h1 h2 h3 h4, Option.bind_some]
  simp only
  rw [relsC_all m vs fs l (acc ++ [x]) r (fun y hy => h y (List.mem_cons_of_mem _ hy)), List.append_assoc]; rfl
theorem fnsC_all (m : ByteArray) (vs : List S71) : ∀ (l acc : List S80) (r : List Int), (∀ x ∈ l, InN x) → fnsC l.length m vs acc (l.flatMap nfnB ++ r) = relsI m vs (acc ++ l) r
 | [], acc, r, _ => by simp [fnsC]
 | x :: l, acc, r, h => by
  show fnsC (l.length + 1) m vs acc ((nfnB x ++ l.flatMap nfnB) ++ r) = _
  simp only [fnsC]
  rw [List.append_assoc, nfnP_all x _ (h x List.mem_cons_self), Option.bind_some]
  simp only
  rw [fnsC_all m vs l (acc ++ [x]) r (fun y hy => h y (List.mem_cons_of_mem _ hy)), List.append_assoc]; rfl
theorem varsC_all (m : ByteArray) : ∀ (l acc : List S71) (r : List Int), (∀ x ∈ l, inV x) → varsC l.length m acc (l.flatMap varB ++ r) = fnsI m (acc ++ l) r
 | [], acc, r, _ => by simp [varsC]
 | x :: l, acc, r, h => by
  obtain ⟨h0, h1, h2⟩ := h x List.mem_cons_self
  show varsC (l.length + 1) m acc ((varB x ++ l.flatMap varB) ++ r) = _
  simp only [varsC]
  rw [List.append_assoc, varP_all x _ h0 h1 h2, Option.bind_some]
  simp only
  rw [varsC_all m l (acc ++ [x]) r (fun y hy => h y (List.mem_cons_of_mem _ hy)), List.append_assoc]; rfl
theorem whole_all (m : ByteArray) (vs : List S71) (fs : List S80) (rs : List S82) (hm : m.size ≤ 32) (hv : ∀ x ∈ vs, inV x) (hf : ∀ x ∈ fs, InN x) (hr : ∀ x ∈ rs, inR x)
  (lv : vs.length ≤ 2147483647) (lf : fs.length ≤ 2147483647) (lr : rs.length ≤ 2147483647) : wholeC (qB6 m vs fs rs) = some (m, vs, fs, rs) := by
 unfold wholeC qB6
 rw [List.take_append_of_le_length (by decide), if_pos (by decide), List.drop_append_of_le_length (by decide)]
 show objC (rawB (qBt m) ++ _) = _
 unfold objC
 rw [qCZ 32 m _ (by omega) (by omega), Option.bind_some]
 simp only
 rw [List.append_assoc, intP_be vs.length (by omega) (by omega), Option.bind_some]
 simp only [Int.toNat_natCast]
 rw [varsC_all m vs [] _ hv, List.nil_append]
 unfold fnsI
 rw [List.append_assoc, intP_be fs.length (by omega) (by omega), Option.bind_some]
 simp only [Int.toNat_natCast]
 rw [fnsC_all m vs fs [] _ hf, List.nil_append]
 unfold relsI
 rw [intP_be rs.length (by omega) (by omega), Option.bind_some]
 simp only [Int.toNat_natCast]
 have h := relsC_all m vs fs rs [] [] hr
 rw [List.append_nil, List.nil_append] at h
 rw [h]
 unfold endO
 rw [if_pos rfl]
theorem placeOf_kind (f i : Int) (x : S115) : ∀ y ∈ qCa f i x, y.f2 = 1 ∨ y.f2 = 2 := by
 intro y hy
 unfold qCa at hy
 split at hy
 ·rw [List.mem_singleton.1 hy]; exact .inl rfl
 split at hy
 ·rw [List.mem_singleton.1 hy]; exact .inr rfl
 cases hy
theorem codeP_kind (f : Int) : ∀ (l : List S115) (i : Int), ∀ y ∈ qEg f i l, y.f2 = 1 ∨ y.f2 = 2
 | [], _, y, hy => by cases hy
 | x :: xs, i, y, hy => by
  simp only [qEg] at hy
  rcases List.mem_append.1 hy with h | h
  ·exact placeOf_kind f i x y h
  exact codeP_kind f xs (i + 1) y h
theorem fnsP_kind : ∀ (l : List S80) (i : Int), ∀ y ∈ fnsP i l, y.f2 = 1 ∨ y.f2 = 2
 | [], _, y, hy => by cases hy
 | x :: xs, i, y, hy => by
  simp only [fnsP] at hy
  rcases List.mem_append.1 hy with h | h
  ·exact codeP_kind i _ 0 y h
  exact fnsP_kind xs (i + 1) y h
theorem flat_le {α : Type} (f : α → List Int) : ∀ (l : List α) (x : α), x ∈ l → (f x).length ≤ (l.flatMap f).length
 | [], x, h => by cases h
 | y :: l, x, h => by
  rw [List.flatMap_cons, List.length_append]
  rcases List.mem_cons.1 h with e | h
  ·subst e; omega
  have := flat_le f l x h; omega
theorem okT_byte {t : Int} (h : okT t = true) : 0 ≤ t ∧ t < 256 := by
 unfold okT at h
 have := of_decide_eq_true h
 omega
theorem qCi.whole {m : ByteArray} {vs : List S71} {fs : List S80} {rs : List S82} (h : qCi m vs fs rs) (hg : qCI m vs fs rs) (hl : (qB6 m vs fs rs).length ≤ 16384) : wholeC (qB6 m vs fs rs) = some (m, vs, fs, rs) := by
 have hn := h.n
 have hrl := h.rels
 refine whole_all m vs fs rs (Names.size_le_of_ok h.m) (fun x hx => ?_) (fun x hx => ?_) (fun x hx => ?_) (by omega) (by omega) (by omega)
 ·obtain ⟨h1, h2⟩ := h.v x hx
  obtain ⟨_, g1, g2⟩ := hg.v x hx
  refine ⟨Names.size_le_of_ok h1, ?_, g1, g2⟩
  unfold okV at h2
  split at h2
  ·omega
  split at h2
  ·omega
  split at h2
  ·omega
  cases h2
 ·obtain ⟨h1, h2⟩ := h.f x hx
  obtain ⟨_, _, _, _, g5⟩ := hg.f x hx
  have hk : fnOk x = true := h2
  unfold fnOk okFn at hk
  simp only [Bool.and_eq_true, Bool.or_eq_true, decide_eq_true_eq, beq_iff_eq] at hk
  obtain ⟨⟨⟨⟨⟨⟨k0, k1⟩, k2⟩, k3⟩, k4⟩, k5⟩, k6⟩ := hk
  have e1 : (encB (x.f1.f2.map toD)).length ≤ (nfnB x).length := by
   unfold nfnB fnB
   simp only [List.length_append, rawB_len]
   omega
  have e2 := flat_le nfnB fs x hx
  have e3 : (fs.flatMap nfnB).length ≤ (qB6 m vs fs rs).length := by
   unfold qB6
   simp only [List.length_append]
   omega
  exact ⟨Names.size_le_of_ok h1, fun y hy => okT_byte (List.all_eq_true.1 k1 y hy), by omega, k2.elim (fun e => by omega) okT_byte, fun y hy => okT_byte (List.all_eq_true.1 k4 y hy), by omega, k6, g5, k5, by omega⟩
 obtain ⟨a0, a1, a2, a3⟩ := h.at_ x hx
 obtain ⟨y, hy, hb⟩ := qDI _ _ h.e x hx
 obtain ⟨_, _, e2⟩ := bareB_eq hb
 have hk := fnsP_kind fs 0 y hy
 obtain ⟨n3, n4⟩ := h.r x hx
 exact ⟨⟨a0, by omega⟩, ⟨a2, by omega⟩, by omega, Names.size_le_of_ok n3, Names.size_le_of_ok n4⟩
end Q
end
section
namespace Q
open Go.RowKit PA PB PC
structure S39 where
 f0 : ByteArray
 f1 : (List S94)
 f2 : (List S100)
 f3 : (List S102)
def k39 : Kd S39 := Kd.iso (Kd.pair Kd.string (Kd.pair (Kd.slice 94 k94) (Kd.pair (Kd.slice 100 k100) (Kd.slice 102 k102)))) (fun x : S39 => (x.f0, x.f1, x.f2, x.f3))
theorem k39_open {w : World} {x : S39} {cs : List Value} (h : k39.K w x cs) : ∃ A1 c1 A2 c2 A3 c3, cs = [.string x.f0, .slice A1 x.f1.length c1, .slice A2 x.f2.length c2, .slice A3 x.f3.length c3] ∧ x.f1.length ≤ c1 ∧ k94.C w A1 x.f1.length x.f1 ∧ x.f2.length ≤ c2 ∧ k100.C w A2 x.f2.length x.f2 ∧ x.f3.length ≤ c3 ∧ k102.C w A3 x.f3.length x.f3 := by
 obtain ⟨_, _, rfl, rfl, ⟨_, _, rfl, ⟨A1, c1, rfl, l1, g1⟩, ⟨_, _, rfl, ⟨A2, c2, rfl, l2, g2⟩, ⟨A3, c3, rfl, l3, g3⟩⟩⟩⟩ := h
 exact ⟨A1, c1, A2, c2, A3, c3, rfl, l1, g1, l2, g2, l3, g3⟩
end Q
end
section
namespace Q
open Go.ChangeShapes Go.WideShapes Go.RowKit Go.Deep PA PB PC
theorem one_bulk {H : Type} (d : DataW H) : 1 ≤ Rows.uptoBulk d := by
 cases d with
 | lit l => cases l <;> simp [Rows.uptoBulk]
 | nil => simp [Rows.uptoBulk]
 | ptr d => simp [Rows.uptoBulk]
 | slice elems spare => simp [Rows.uptoBulk]
 | agg parts => simp [Rows.uptoBulk]
 | iface t d => simp [Rows.uptoBulk]
 | map entries => simp [Rows.uptoBulk]
 | held h => simp [Rows.uptoBulk]
theorem part_bulk {H : Type} {d : DataW H} {l : List (DataW H)} (h : d ∈ l) : Rows.uptoBulk d ≤ Rows.uptoBulkAll l := by
 induction l with
 | nil => cases h
 | cons x r ih =>
  simp only [Rows.uptoBulkAll]
  cases List.mem_cons.1 h with
  | inl e => subst e; omega
  | inr e => have := ih e; omega
theorem length_bulk {H : Type} (l : List (DataW H)) : l.length ≤ Rows.uptoBulkAll l := by
 induction l with
 | nil => simp
 | cons x r ih => have := one_bulk x; simp only [Rows.uptoBulkAll, List.length_cons]; omega
def qB4 {α : Type} (P : Program) (w : World) (N : Nat) (t : TypeId) (d : Kd α) (G : α → Prop) : Prop :=
 ∀ (H : Type) (enc : TypeId × Value → H) (base : Nat) (spare : Nat → Bool) (held : Bool) (fuel : Nat) (cs : List Value) (x : DataW H × List MemPlace),
  DataW.trod enc P w base spare held fuel t cs = some x → Rows.uptoBulk x.1 ≤ N → ∃ a, d.K w a cs ∧ G a
theorem qBB {P : Program} {w : World} {N : Nat} {t : TypeId} {k : IntKind} (ht : P.underlying t = some (.int k)) : qB4 P w N t (Kd.int k) (fun n => (Lit.int k n).wf = true) := by
 intro H enc base spare held fuel cs x h hb
 obtain ⟨n, rfl, _, hw⟩ := DataW.trod_int ht h
 exact ⟨n, rfl, hw⟩
theorem qBY {P : Program} {w : World} {N : Nat} {t : TypeId} (ht : P.underlying t = some .string) : qB4 P w N t Kd.string (fun s => s.size ≤ N) := by
 intro H enc base spare held fuel cs x h hb
 obtain ⟨s, rfl, rfl, hs⟩ := DataW.trod_string ht h
 refine ⟨s, rfl, ?_⟩
 have e : s.data.toList.length = s.size := by rw [Array.length_toList]; rfl
 simp only [Rows.uptoBulk, e] at hb
 omega
theorem list_of {α : Type} {p : Nat → α → Prop} : ∀ (n : Nat), (∀ i, i < n → ∃ a, p i a) → ∃ l : List α, l.length = n ∧ ∀ i a, l[i]? = some a → p i a
 | 0, _ => ⟨[], rfl, fun i a h => by simp at h⟩
 | n + 1, h => by
  obtain ⟨l, hl, hp⟩ := list_of n fun i hi => h i (by omega)
  obtain ⟨a, ha⟩ := h n (by omega)
  refine ⟨l ++ [a], by simp [hl], fun i b hb => ?_⟩
  by_cases hi : i < l.length
  ·rw [List.getElem?_append_left hi] at hb; exact hp i b hb
  rw [List.getElem?_append_right (by omega)] at hb
  have : i - l.length = 0 := by
   cases hk : i - l.length with
   | zero => rfl
   | succ k => rw [hk] at hb; simp at hb
  rw [this] at hb
  obtain rfl : a = b := by simpa using hb
  have : i = n := by omega
  subst this; exact ha
theorem qBU {α : Type} {P : Program} {w : World} {N : Nat} {t e : TypeId} {d : Kd α} {G : α → Prop} (ht : P.underlying t = some (.slice e)) (hsz : d.sz = P.cellsOf e) (he : qB4 P w N e d G) : qB4 P w N t (Kd.slice e d) (fun l => l.length ≤ N ∧ ∀ x ∈ l, G x) := by
 intro H enc base spare held fuel cs x h hb
 rcases open_slice ht h with ⟨rfl, rfl⟩ | ⟨a, len, cap, m, n, D, Pl, rfl, _, hl, hm, hmm, rfl, hx⟩
 ·exact ⟨[], ⟨none, 0, rfl, Nat.le_refl _, Kd.C_nil d w⟩, by simp, fun _ h => by cases h⟩
 have hlm : len ≤ m := by rw [hmm]; split <;> omega
 simp only [Rows.uptoBulk] at hb
 have hlen := length_bulk ((List.range len).map D)
 rw [List.length_map, List.length_range] at hlen
 obtain ⟨l, hll, hp⟩ := list_of (p := fun i a' => (∃ c, c.length = d.sz ∧ d.K w a' c ∧ ∀ j u, c[j]? = some u → w.cell? (a.add (i * d.sz + j)) = some u) ∧ G a') len (fun i hi => by
   obtain ⟨cs', h1, h2⟩ := hx i (by omega)
   have hbi : Rows.uptoBulk (D i) ≤ N := by
     have := part_bulk (d := D i) (l := (List.range len).map D) (List.mem_map.2 ⟨i, List.mem_range.2 hi, rfl⟩)
     omega
   obtain ⟨a', hk, hg⟩ := he _ _ _ _ _ _ _ _ h2 hbi
   obtain ⟨_, hcl, hcell⟩ := World.cells?_some h1
   refine ⟨a', ⟨cs', d.K_len hk, hk, fun j u hu => ?_⟩, hg⟩
   have hj : j < cs'.length := (List.getElem?_eq_some_iff.1 hu).1
   have := hcell j (by omega)
   rw [Go.Deep.add_add] at this
   rw [hsz, this, hu])
 have hmax : maxLen ≤ 9223372036854775807 := by decide
 refine ⟨l, ⟨some a, cap, by rw [hll], by omega, ⟨rfl, by omega, fun _ => ⟨a, rfl, fun j p hj => (hp j p hj).1⟩⟩⟩, by omega, fun x hx => ?_⟩
 obtain ⟨i, hi⟩ := List.getElem?_of_mem hx
 exact (hp i x hi).2
theorem list_2 {α : Type} : ∀ {l : List α}, l.length = 2 → ∃ a0 a1, l = [a0, a1]
 | [a0, a1], _ => ⟨a0, a1, rfl⟩
theorem list_3 {α : Type} : ∀ {l : List α}, l.length = 3 → ∃ a0 a1 a2, l = [a0, a1, a2]
 | [a0, a1, a2], _ => ⟨a0, a1, a2, rfl⟩
theorem list_4 {α : Type} : ∀ {l : List α}, l.length = 4 → ∃ a0 a1 a2 a3, l = [a0, a1, a2, a3]
 | [a0, a1, a2, a3], _ => ⟨a0, a1, a2, a3, rfl⟩
theorem list_5 {α : Type} : ∀ {l : List α}, l.length = 5 → ∃ a0 a1 a2 a3 a4, l = [a0, a1, a2, a3, a4]
 | [a0, a1, a2, a3, a4], _ => ⟨a0, a1, a2, a3, a4, rfl⟩
def qDm (N : Nat) (x : S69) : Prop := (Lit.int .i64 x.f0).wf = true ∧ (Lit.int .u64 x.f1).wf = true
theorem qCR (w : World) (N : Nat) : qB4 Try.prog w N 69 k69 (qDm N) := by
 intro H enc base spare held fuel cs x h hb
 obtain ⟨xs, n, _, rfl, hl, hlen, hf⟩ := DataW.trod_struct Try.underlying69 h
 have hl' : cs.length = 2 := hl.trans (by kernel_rfl)
 obtain ⟨c0, c1, rfl⟩ : ∃ c0 c1, cs = [c0, c1] := list_2 hl'
 obtain ⟨y0, y1, rfl⟩ : ∃ y0 y1, xs = [y0, y1] := list_2 hlen
 simp only [Rows.uptoBulk, Rows.uptoBulkAll, List.map_cons, List.map_nil] at hb
 have h0 := hf 0 _ rfl
 obtain ⟨a0, k0, g0⟩ := (qBB (by kernel_rfl) : qB4 Try.prog w N _ (Kd.int .i64) _) _ _ _ _ _ _ _ y0 h0 (by omega)
 have h1 := hf 1 _ rfl
 obtain ⟨a1, k1, g1⟩ := (qBB (by kernel_rfl) : qB4 Try.prog w N _ (Kd.int .u64) _) _ _ _ _ _ _ _ y1 h1 (by omega)
 exact ⟨⟨a0, a1⟩, ⟨_, _, by kernel_rfl, k0, k1⟩, ⟨g0, g1⟩⟩
def qCn (N : Nat) (x : S150) : Prop := (Lit.int .i64 x.f0).wf = true ∧ (Lit.int .i64 x.f1).wf = true ∧ qDm N x.f2
theorem qCF (w : World) (N : Nat) : qB4 Try.prog w N 150 k150 (qCn N) := by
 intro H enc base spare held fuel cs x h hb
 obtain ⟨xs, n, _, rfl, hl, hlen, hf⟩ := DataW.trod_struct Try.underlying150 h
 have hl' : cs.length = 4 := hl.trans (by kernel_rfl)
 obtain ⟨c0, c1, c2, c3, rfl⟩ : ∃ c0 c1 c2 c3, cs = [c0, c1, c2, c3] := list_4 hl'
 obtain ⟨y0, y1, y2, rfl⟩ : ∃ y0 y1 y2, xs = [y0, y1, y2] := list_3 hlen
 simp only [Rows.uptoBulk, Rows.uptoBulkAll, List.map_cons, List.map_nil] at hb
 have h0 := hf 0 _ rfl
 obtain ⟨a0, k0, g0⟩ := (qBB (by kernel_rfl) : qB4 Try.prog w N _ (Kd.int .i64) _) _ _ _ _ _ _ _ y0 h0 (by omega)
 have h1 := hf 1 _ rfl
 obtain ⟨a1, k1, g1⟩ := (qBB (by kernel_rfl) : qB4 Try.prog w N _ (Kd.int .i64) _) _ _ _ _ _ _ _ y1 h1 (by omega)
 have h2 := hf 2 _ rfl
 obtain ⟨a2, k2, g2⟩ := (qCR w N : qB4 Try.prog w N _ (k69) _) _ _ _ _ _ _ _ y2 h2 (by omega)
 exact ⟨⟨a0, a1, a2⟩, ⟨_, _, by kernel_rfl, k0, ⟨_, _, rfl, k1, k2⟩⟩, ⟨g0, g1, g2⟩⟩
def qCo (N : Nat) (x : S95) : Prop := (x.f0.length ≤ N ∧ ∀ y ∈ x.f0, (Lit.int .i64 y).wf = true) ∧ (Lit.int .i64 x.f1).wf = true
theorem qCG (w : World) (N : Nat) : qB4 Try.prog w N 95 k95 (qCo N) := by
 intro H enc base spare held fuel cs x h hb
 obtain ⟨xs, n, _, rfl, hl, hlen, hf⟩ := DataW.trod_struct Try.underlying95 h
 have hl' : cs.length = 2 := hl.trans (by kernel_rfl)
 obtain ⟨c0, c1, rfl⟩ : ∃ c0 c1, cs = [c0, c1] := list_2 hl'
 obtain ⟨y0, y1, rfl⟩ : ∃ y0 y1, xs = [y0, y1] := list_2 hlen
 simp only [Rows.uptoBulk, Rows.uptoBulkAll, List.map_cons, List.map_nil] at hb
 have h0 := hf 0 _ rfl
 obtain ⟨a0, k0, g0⟩ := (qBU (by kernel_rfl) (by kernel_rfl) (qBB (by kernel_rfl)) : qB4 Try.prog w N _ (_) _) _ _ _ _ _ _ _ y0 h0 (by omega)
 have h1 := hf 1 _ rfl
 obtain ⟨a1, k1, g1⟩ := (qBB (by kernel_rfl) : qB4 Try.prog w N _ (Kd.int .i64) _) _ _ _ _ _ _ _ y1 h1 (by omega)
 exact ⟨⟨a0, a1⟩, ⟨_, _, by kernel_rfl, k0, k1⟩, ⟨g0, g1⟩⟩
def qCz (N : Nat) (x : S98) : Prop := qCo N x.f0 ∧ (x.f1.length ≤ N ∧ ∀ y ∈ x.f1, (Lit.int .i64 y).wf = true) ∧ (x.f2.length ≤ N ∧ ∀ y ∈ x.f2, qCn N y)
theorem qCS (w : World) (N : Nat) : qB4 Try.prog w N 98 k98 (qCz N) := by
 intro H enc base spare held fuel cs x h hb
 obtain ⟨xs, n, _, rfl, hl, hlen, hf⟩ := DataW.trod_struct Try.underlying98 h
 have hl' : cs.length = 4 := hl.trans (by kernel_rfl)
 obtain ⟨c0, c1, c2, c3, rfl⟩ : ∃ c0 c1 c2 c3, cs = [c0, c1, c2, c3] := list_4 hl'
 obtain ⟨y0, y1, y2, rfl⟩ : ∃ y0 y1 y2, xs = [y0, y1, y2] := list_3 hlen
 simp only [Rows.uptoBulk, Rows.uptoBulkAll, List.map_cons, List.map_nil] at hb
 have h0 := hf 0 _ rfl
 obtain ⟨a0, k0, g0⟩ := (qCG w N : qB4 Try.prog w N _ (k95) _) _ _ _ _ _ _ _ y0 h0 (by omega)
 have h1 := hf 1 _ rfl
 obtain ⟨a1, k1, g1⟩ := (qBU (by kernel_rfl) (by kernel_rfl) (qBB (by kernel_rfl)) : qB4 Try.prog w N _ (_) _) _ _ _ _ _ _ _ y1 h1 (by omega)
 have h2 := hf 2 _ rfl
 obtain ⟨a2, k2, g2⟩ := (qBU (by kernel_rfl) (by kernel_rfl) (qCF w N) : qB4 Try.prog w N _ (_) _) _ _ _ _ _ _ _ y2 h2 (by omega)
 exact ⟨⟨a0, a1, a2⟩, ⟨_, _, by kernel_rfl, k0, ⟨_, _, rfl, k1, k2⟩⟩, ⟨g0, g1, g2⟩⟩
def qCp (N : Nat) (x : S94) : Prop := x.f0.size ≤ N ∧ qDm N x.f1
theorem qCH (w : World) (N : Nat) : qB4 Try.prog w N 94 k94 (qCp N) := by
 intro H enc base spare held fuel cs x h hb
 obtain ⟨xs, n, _, rfl, hl, hlen, hf⟩ := DataW.trod_struct Try.underlying94 h
 have hl' : cs.length = 3 := hl.trans (by kernel_rfl)
 obtain ⟨c0, c1, c2, rfl⟩ : ∃ c0 c1 c2, cs = [c0, c1, c2] := list_3 hl'
 obtain ⟨y0, y1, rfl⟩ : ∃ y0 y1, xs = [y0, y1] := list_2 hlen
 simp only [Rows.uptoBulk, Rows.uptoBulkAll, List.map_cons, List.map_nil] at hb
 have h0 := hf 0 _ rfl
 obtain ⟨a0, k0, g0⟩ := (qBY (by kernel_rfl) : qB4 Try.prog w N _ (Kd.string) _) _ _ _ _ _ _ _ y0 h0 (by omega)
 have h1 := hf 1 _ rfl
 obtain ⟨a1, k1, g1⟩ := (qCR w N : qB4 Try.prog w N _ (k69) _) _ _ _ _ _ _ _ y1 h1 (by omega)
 exact ⟨⟨a0, a1⟩, ⟨_, _, by kernel_rfl, k0, k1⟩, ⟨g0, g1⟩⟩
def qC0 (N : Nat) (x : S100) : Prop := x.f0.size ≤ N ∧ qCz N x.f1
theorem qCT (w : World) (N : Nat) : qB4 Try.prog w N 100 k100 (qC0 N) := by
 intro H enc base spare held fuel cs x h hb
 obtain ⟨xs, n, _, rfl, hl, hlen, hf⟩ := DataW.trod_struct Try.underlying100 h
 have hl' : cs.length = 5 := hl.trans (by kernel_rfl)
 obtain ⟨c0, c1, c2, c3, c4, rfl⟩ : ∃ c0 c1 c2 c3 c4, cs = [c0, c1, c2, c3, c4] := list_5 hl'
 obtain ⟨y0, y1, rfl⟩ : ∃ y0 y1, xs = [y0, y1] := list_2 hlen
 simp only [Rows.uptoBulk, Rows.uptoBulkAll, List.map_cons, List.map_nil] at hb
 have h0 := hf 0 _ rfl
 obtain ⟨a0, k0, g0⟩ := (qBY (by kernel_rfl) : qB4 Try.prog w N _ (Kd.string) _) _ _ _ _ _ _ _ y0 h0 (by omega)
 have h1 := hf 1 _ rfl
 obtain ⟨a1, k1, g1⟩ := (qCS w N : qB4 Try.prog w N _ (k98) _) _ _ _ _ _ _ _ y1 h1 (by omega)
 exact ⟨⟨a0, a1⟩, ⟨_, _, by kernel_rfl, k0, k1⟩, ⟨g0, g1⟩⟩
def qCb (N : Nat) (x : S102) : Prop := (Lit.int .i64 x.f0).wf = true ∧ (Lit.int .i64 x.f1).wf = true ∧ (Lit.int .i64 x.f2).wf = true ∧ x.f3.size ≤ N ∧ x.f4.size ≤ N
theorem qC5 (w : World) (N : Nat) : qB4 Try.prog w N 102 k102 (qCb N) := by
 intro H enc base spare held fuel cs x h hb
 obtain ⟨xs, n, _, rfl, hl, hlen, hf⟩ := DataW.trod_struct Try.underlying102 h
 have hl' : cs.length = 5 := hl.trans (by kernel_rfl)
 obtain ⟨c0, c1, c2, c3, c4, rfl⟩ : ∃ c0 c1 c2 c3 c4, cs = [c0, c1, c2, c3, c4] := list_5 hl'
 obtain ⟨y0, y1, y2, y3, y4, rfl⟩ : ∃ y0 y1 y2 y3 y4, xs = [y0, y1, y2, y3, y4] := list_5 hlen
 simp only [Rows.uptoBulk, Rows.uptoBulkAll, List.map_cons, List.map_nil] at hb
 have h0 := hf 0 _ rfl
 obtain ⟨a0, k0, g0⟩ := (qBB (by kernel_rfl) : qB4 Try.prog w N _ (Kd.int .i64) _) _ _ _ _ _ _ _ y0 h0 (by omega)
 have h1 := hf 1 _ rfl
 obtain ⟨a1, k1, g1⟩ := (qBB (by kernel_rfl) : qB4 Try.prog w N _ (Kd.int .i64) _) _ _ _ _ _ _ _ y1 h1 (by omega)
 have h2 := hf 2 _ rfl
 obtain ⟨a2, k2, g2⟩ := (qBB (by kernel_rfl) : qB4 Try.prog w N _ (Kd.int .i64) _) _ _ _ _ _ _ _ y2 h2 (by omega)
 have h3 := hf 3 _ rfl
 obtain ⟨a3, k3, g3⟩ := (qBY (by kernel_rfl) : qB4 Try.prog w N _ (Kd.string) _) _ _ _ _ _ _ _ y3 h3 (by omega)
 have h4 := hf 4 _ rfl
 obtain ⟨a4, k4, g4⟩ := (qBY (by kernel_rfl) : qB4 Try.prog w N _ (Kd.string) _) _ _ _ _ _ _ _ y4 h4 (by omega)
 exact ⟨⟨a0, a1, a2, a3, a4⟩, ⟨_, _, by kernel_rfl, k0, ⟨_, _, rfl, k1, ⟨_, _, rfl, k2, ⟨_, _, rfl, k3, k4⟩⟩⟩⟩, ⟨g0, g1, g2, g3, g4⟩⟩
def qBm (N : Nat) (x : S39) : Prop := x.f0.size ≤ N ∧ (x.f1.length ≤ N ∧ ∀ y ∈ x.f1, qCp N y) ∧ (x.f2.length ≤ N ∧ ∀ y ∈ x.f2, qC0 N y) ∧ (x.f3.length ≤ N ∧ ∀ y ∈ x.f3, qCb N y)
theorem opens_foundryref15_Object (w : World) (N : Nat) : qB4 Try.prog w N 39 k39 (qBm N) := by
 intro H enc base spare held fuel cs x h hb
 obtain ⟨xs, n, _, rfl, hl, hlen, hf⟩ := DataW.trod_struct Try.underlying39 h
 have hl' : cs.length = 4 := hl.trans (by kernel_rfl)
 obtain ⟨c0, c1, c2, c3, rfl⟩ : ∃ c0 c1 c2 c3, cs = [c0, c1, c2, c3] := list_4 hl'
 obtain ⟨y0, y1, y2, y3, rfl⟩ : ∃ y0 y1 y2 y3, xs = [y0, y1, y2, y3] := list_4 hlen
 simp only [Rows.uptoBulk, Rows.uptoBulkAll, List.map_cons, List.map_nil] at hb
 have h0 := hf 0 _ rfl
 obtain ⟨a0, k0, g0⟩ := (qBY (by kernel_rfl) : qB4 Try.prog w N _ (Kd.string) _) _ _ _ _ _ _ _ y0 h0 (by omega)
 have h1 := hf 1 _ rfl
 obtain ⟨a1, k1, g1⟩ := (qBU (by kernel_rfl) (by kernel_rfl) (qCH w N) : qB4 Try.prog w N _ (_) _) _ _ _ _ _ _ _ y1 h1 (by omega)
 have h2 := hf 2 _ rfl
 obtain ⟨a2, k2, g2⟩ := (qBU (by kernel_rfl) (by kernel_rfl) (qCT w N) : qB4 Try.prog w N _ (_) _) _ _ _ _ _ _ _ y2 h2 (by omega)
 have h3 := hf 3 _ rfl
 obtain ⟨a3, k3, g3⟩ := (qBU (by kernel_rfl) (by kernel_rfl) (qC5 w N) : qB4 Try.prog w N _ (_) _) _ _ _ _ _ _ _ y3 h3 (by omega)
 exact ⟨⟨a0, a1, a2, a3⟩, ⟨_, _, by kernel_rfl, k0, ⟨_, _, rfl, k1, ⟨_, _, rfl, k2, k3⟩⟩⟩, ⟨g0, g1, g2, g3⟩⟩
end Q
end
section
namespace Q
open Go.RowKit PA PB PC
attribute [local go_sem] qBd min2_int qBn min_two max_three min_three max_four min_four
def qAm.l0 : Nat → Int → List Int → Int → List Int → List (S150) → List Int → Int → List Int → List (S115) → Option (List Int × Int × List Int × (List (S115)))
 | 0, _, _, _, _, _, _, _, _, _ => none
 | k + 1, x4, ba, bb, bc, ao, bP, bQ, bR, bG => if x4 < (ao.length : Int) then (if 0 ≤ x4 then (if bG.length < 4398046511104 then (qAm.l0 k (wrap64 (x4 + 1)) ba bb bc ao bP bQ bR (bG ++ [(⟨(qAX ao x4).f0, (qAX ao x4).f1, (⟨(qAX ao x4).f2.f0, (qAX ao x4).f2.f1⟩ : S69)⟩ : S115)])) else (none)) else (none)) else (some (bP, bQ, bR, bG))
def qAm.f (k : Nat) (l0_0 : List Int) (a0_1 : Int) (l0_2 : List Int) (l0_3 : List (S150)) : Option (List Int × Int × List Int × (List (S115))) := (some (([] : List Int) : List Int)).bind fun aj => (if aj.length + l0_0.length < 17592186044416 then ((some (([] : List Int) : List Int)).bind fun af => (if af.length + l0_2.length < 17592186044416 then (qAm.l0 k 0 l0_0 a0_1 l0_2 l0_3 (aj ++ l0_0) a0_1 (af ++ l0_2) ([] : List (S115))) else (none))) else (none))
def qAm.T1 : Bool × List (List Nat × List Nat) := (true, [([], []), ([], []), ([1], [1]), ([2], [2]), ([0, 3], [0, 3]), ([], []), ([5], [5]), ([6], [6]), ([4, 7], [4, 7]), ([], []), ([], []), ([10], [10]), ([9, 11, 4], [9, 11]), ([8, 12], [8, 12]), ([], []), ([14, 13, 12, 0, 1, 2, 3, 4, 5, 6, 7, 8, 9, 10, 11, 12, 13, 14], [13, 14])])
def qAm.B1 : List Nat := [0, 0, 2, 6, 15, 0, 32, 96, 255, 0, 0, 1024, 3615, 8191, 0, 32767]
theorem qAm.tab1 : rtab .any (opsOf Try.f37 1) = qAm.T1 := by kernel_rfl
theorem qAm.bits1 : qBQ qAm.T1.2 qAm.B1 = true := by kernel_rfl
def qAm.T5 : Bool × List (List Nat × List Nat) := (true, [([], []), ([0], [0]), ([], []), ([2], [2]), ([], []), ([3, 4], [3, 4]), ([5], [5]), ([6], [6]), ([], []), ([8], [8]), ([], []), ([9, 10], [9, 10]), ([11], [11]), ([12], [12]), ([], []), ([14], [14]), ([], []), ([15, 16], [15, 16]), ([17], [17]), ([18], [18]), ([7, 13, 19], [7, 13, 19]), ([20], [20]), ([1, 21], [1, 21]), ([0, 1, 2, 3, 4, 5, 6, 7, 8, 9, 10, 11, 12, 13, 14, 15, 16, 17, 18, 19, 20, 21, 22], []), ([23, 22, 22, 0, 1, 2, 3, 4, 5, 6, 7, 8, 9, 10, 11, 12, 13, 14, 15, 16, 17, 18, 19, 20, 21, 22], [22, 23])])
def qAm.B5 : List Nat := [0, 1, 0, 4, 0, 28, 60, 124, 0, 256, 0, 1792, 3840, 7936, 0, 16384, 0, 114688, 245760, 507904, 1048572, 2097148, 4194303, 8388607, 16777215]
theorem qAm.tab5 : rtab .any (opsOf Try.f37 5) = qAm.T5 := by kernel_rfl
theorem qAm.bits5 : qBQ qAm.T5.2 qAm.B5 = true := by kernel_rfl
theorem qAm.calls (k : Nat) (aV : Option Addr) (aX : Nat) (l0_0 : List Int) (a0_1 : Int) (aW : Option Addr) (aY : Nat) (l0_2 : List Int) (a4 : Option Addr) (aZ : Nat) (l0_3 : List (S150)) (r1 : List Int) (r2 : Int) (r3 : List Int) (r4 : List (S115)) (w : World) (hr0_0 : Kd.C (Kd.int .i64) w aV l0_0.length l0_0) (hc0_0 : l0_0.length ≤ aX) (hr0_2 : Kd.C (Kd.int .i64) w aW l0_2.length l0_2) (hc0_2 : l0_2.length ≤ aY) (hr0_3 : Kd.C k150 w a4 l0_3.length l0_3) (hc0_3 : l0_3.length ≤ aZ) (h : qAm.f k l0_0 a0_1 l0_2 l0_3 = some (r1, r2, r3, r4)) :
  Calls Try.prog 37 #[.agg #[.slice aV l0_0.length aX, .int .i64 a0_1, .slice aW l0_2.length aY, .slice a4 l0_3.length aZ]] w fun e w' => ∃ v0_ v2_ v3_ : Value, e = .returned (.agg #[v0_, .int .i64 r2, v2_, v3_]) ∧ Kd.R (Kd.int .i64) 3 w' w.heap.size (fun k_ => some k_ ≠ (v2_ : Value).ownBlock) v0_ r1 ∧ Kd.R (Kd.int .i64) 3 w' w.heap.size (fun k_ => some k_ ≠ (v0_ : Value).ownBlock) v2_ r3 ∧ Kd.R k115 115 w' w.heap.size (fun _ => True) v3_ r4 ∧ Below w.heap.size w w' := by
 have bL := am hr0_0
 clear hr0_0 hc0_0
 have bg := am hr0_2
 clear hr0_2 hc0_2
 have bV := am hr0_3
 clear hr0_3 hc0_3
 have HB := am (Below.refl w.heap.size w)
 have H : ((some (([] : List Int) : List Int)).bind fun aj => (if aj.length + l0_0.length < 17592186044416 then ((some (([] : List Int) : List Int)).bind fun af => (if af.length + l0_2.length < 17592186044416 then (qAm.l0 k 0 l0_0 a0_1 l0_2 l0_3 (aj ++ l0_0) a0_1 (af ++ l0_2) ([] : List (S115))) else (none))) else (none))) = some (r1, r2, r3, r4) := h
 clear h
 obtain ⟨aj, bY⟩ : ∃ y_ : List Int, y_ = ([] : List Int) := ⟨_, rfl⟩
 replace H : (if aj.length + l0_0.length < 17592186044416 then ((some (([] : List Int) : List Int)).bind fun af => (if af.length + l0_2.length < 17592186044416 then (qAm.l0 k 0 l0_0 a0_1 l0_2 l0_3 (aj ++ l0_0) a0_1 (af ++ l0_2) ([] : List (S115))) else (none))) else (none)) = some (r1, r2, r3, r4) := by (have H2_ := (Option.bind_some _ _).symm.trans H; rw [bY]; with_reducible exact H2_)
 have bM := am bY
 clear bY
 by_cases c2 : aj.length + l0_0.length < 17592186044416
 ·rw [if_pos c2] at H
  have b6 := am c2
  clear c2
  obtain ⟨a5, bZ⟩ : ∃ y_ : List Int, y_ = (aj ++ l0_0) := ⟨_, rfl⟩
  replace H : ((some (([] : List Int) : List Int)).bind fun af => (if af.length + l0_2.length < 17592186044416 then (qAm.l0 k 0 l0_0 a0_1 l0_2 l0_3 a5 a0_1 (af ++ l0_2) ([] : List (S115))) else (none))) = some (r1, r2, r3, r4) := by (rw [bZ]; with_reducible exact H)
  have bN := am bZ
  clear bZ
  obtain ⟨af, b0⟩ : ∃ y_ : List Int, y_ = ([] : List Int) := ⟨_, rfl⟩
  replace H : (if af.length + l0_2.length < 17592186044416 then (qAm.l0 k 0 l0_0 a0_1 l0_2 l0_3 a5 a0_1 (af ++ l0_2) ([] : List (S115))) else (none)) = some (r1, r2, r3, r4) := by (have H2_ := (Option.bind_some _ _).symm.trans H; rw [b0]; with_reducible exact H2_)
  have bF := am b0
  clear b0
  by_cases c3 : af.length + l0_2.length < 17592186044416
  ·rw [if_pos c3] at H
   have cG := am c3
   clear c3
   obtain ⟨ag, b1⟩ : ∃ y_ : List Int, y_ = (af ++ l0_2) := ⟨_, rfl⟩
   replace H : (qAm.l0 k 0 l0_0 a0_1 l0_2 l0_3 a5 a0_1 ag ([] : List (S115))) = some (r1, r2, r3, r4) := by (rw [b1]; with_reducible exact H)
   have bh := am b1
   clear b1
   have H' := am H
   clear H
   go_enter Try.func37, Try.ntmps37
   try go_wp2_with (first | ((with_reducible refine qAJ (N := 1) rfl ?_); refine bx 1 #[.slice aV l0_0.length aX, .int .i64 a0_1, .slice aW l0_2.length aY, .slice a4 l0_3.length aZ] 98 ?_; intro aE hg w4 hbox hb; have n_ := a2 (qAj HB.o hb) (am (hbox)); clear HB; obtain ⟨HB, aA⟩ := n_; clear hb hbox hg) | ((with_reducible refine qAJ (N := 2) rfl ?_); refine bx 2 #[.slice none 0 0, .int .i64 0, .slice none 0 0, .slice none 0 0] 77 ?_; intro aI hg w5 hbox hb; have n_ := a2 (qAd aA.o hb) (a2 (qAj HB.o hb) (a2 (hbox) (am (by rw [hg]; exact (qAe HB.o) : w.heap.size ≤ aI)))); clear aA HB; obtain ⟨aA, HB, aC, cE⟩ := n_; clear hb hbox hg))
   have n_ := a2 (qAU aA.o) (a2 (qAU aC.o) (am (qBi HB.o)))
   clear aA aC HB
   obtain ⟨aA, aC, HB⟩ := n_
   refine qCY (n := 16) (S := fun w' => w'.cell? ⟨aE, 0, none⟩ = some (.slice aV l0_0.length aX) ∧ w'.cell? ⟨aE, 1, none⟩ = some (.int .i64 a0_1) ∧ w'.cell? ⟨aE, 2, none⟩ = some (.slice aW l0_2.length aY) ∧ w'.cell? ⟨aE, 3, none⟩ = some (.slice a4 l0_3.length aZ)) (ds := []) (mK 16 0) (by kernel_rfl) rfl rfl (c4_ _ aA.o) (fun hHeld => ?_); refine qB8 qAm.tab1 qAm.bits1 (fun HT_ HW_ => ?_)
   generalize w5.drew = w6 at aA aC HB hHeld ⊢
   refine pu 1 6 (mK 16 2) (qA8 HT_.o (by kernel_rfl)) ?_
   refine pu 2 7 (mK 16 6) (qA8 HT_.o (by kernel_rfl)) ?_
   refine pu 5 10 (mK 16 38) (qA8 HT_.o (by kernel_rfl)) ?_
   refine pu 6 11 (mK 16 102) (qA8 HT_.o (by kernel_rfl)) ?_
   refine pu 10 15 (mK 16 1126) (qA8 HT_.o (by kernel_rfl)) ?_
   refine tk 3 8 (mK 16 1134) (qAQ HT_.o HW_.o (by kernel_rfl)) hHeld ?_
   refine tk 7 12 (mK 16 1262) (qAQ HT_.o HW_.o (by kernel_rfl)) hHeld ?_
   refine tk 11 16 (mK 16 3310) (qAQ HT_.o HW_.o (by kernel_rfl)) hHeld ?_
   refine qCc (σ := Value × Value × Value × Value × Nat) 1 (mK 16 32767) (fun s_ => [(5, s_.1), (9, s_.2.1), (14, s_.2.2.1), (17, s_.2.2.2.1), (3, .pointer (some ⟨s_.2.2.2.2, 0, none⟩)), (13, .agg #[s_.2.1, .int .i64 a0_1]), (18, .agg #[s_.2.1, .int .i64 a0_1, s_.2.2.2.1, .slice none 0 0])]) (fun s_ w' => (w'.cell? ⟨aE, 0, none⟩ = some (.slice aV l0_0.length aX) ∧ w'.cell? ⟨aE, 1, none⟩ = some (.int .i64 a0_1) ∧ w'.cell? ⟨aE, 2, none⟩ = some (.slice aW l0_2.length aY) ∧ w'.cell? ⟨aE, 3, none⟩ = some (.slice a4 l0_3.length aZ)) ∧ (Kd.R (Kd.int .i64) 3 w' w.heap.size (fun k_ => some k_ ≠ (s_.2.2.2.1 : Value).ownBlock) s_.2.1 a5) ∧ (Kd.R (Kd.int .i64) 3 w' w.heap.size (fun k_ => some k_ ≠ (s_.2.1 : Value).ownBlock) s_.2.2.2.1 ag) ∧ (w'.heap[aE]? = some (.cells #[.slice aV l0_0.length aX, .int .i64 a0_1, .slice aW l0_2.length aY, .slice a4 l0_3.length aZ] 98 (0, 0))) ∧ (w'.heap[aI]? = some (.cells #[.slice none 0 0, .int .i64 0, .slice none 0 0, .slice none 0 0] 77 (0, 0))) ∧ (w'.heap[s_.2.2.2.2]? = some (.cells #[.slice none 0 0, .int .i64 0, .slice none 0 0, .slice none 0 0] 77 (0, 0))) ∧ (w.heap.size ≤ s_.2.2.2.2) ∧ (w.heap.size ≤ s_.2.2.2.2) ∧ (aE ≠ s_.2.2.2.2) ∧ (s_.2.2.2.2 ≠ aE) ∧ (aI ≠ s_.2.2.2.2) ∧ (s_.2.2.2.2 ≠ aI) ∧ (Below w.heap.size w w')) ?_ ?_
   rotate_left
   ·intro hJ0_4_9_12_14
    refine qCc (σ := Value × Value × Value × Value) 2 (mK 16 16383) (fun s_ => [(5, s_.1), (9, s_.2.1), (14, s_.2.2.1), (17, s_.2.2.2), (13, .agg #[s_.2.1, .int .i64 a0_1]), (18, .agg #[s_.2.1, .int .i64 a0_1, s_.2.2.2, .slice none 0 0])]) (fun s_ w' => (w'.cell? ⟨aE, 0, none⟩ = some (.slice aV l0_0.length aX) ∧ w'.cell? ⟨aE, 1, none⟩ = some (.int .i64 a0_1) ∧ w'.cell? ⟨aE, 2, none⟩ = some (.slice aW l0_2.length aY) ∧ w'.cell? ⟨aE, 3, none⟩ = some (.slice a4 l0_3.length aZ)) ∧ (Kd.R (Kd.int .i64) 3 w' w.heap.size (fun k_ => some k_ ≠ (s_.2.2.2 : Value).ownBlock) s_.2.1 a5) ∧ (Kd.R (Kd.int .i64) 3 w' w.heap.size (fun k_ => some k_ ≠ (s_.2.1 : Value).ownBlock) s_.2.2.2 ag) ∧ (w'.heap[aE]? = some (.cells #[.slice aV l0_0.length aX, .int .i64 a0_1, .slice aW l0_2.length aY, .slice a4 l0_3.length aZ] 98 (0, 0))) ∧ (w'.heap[aI]? = some (.cells #[.slice none 0 0, .int .i64 0, .slice none 0 0, .slice none 0 0] 77 (0, 0))) ∧ (Below w.heap.size w w')) ?_ ?_
    rotate_left
    ·intro hJ0_4_9_12
     refine qCc (σ := Value × Value × Value × Nat) 3 (mK 16 20479) (fun s_ => [(5, s_.1), (9, s_.2.1), (14, s_.2.2.1), (3, .pointer (some ⟨s_.2.2.2, 0, none⟩)), (13, .agg #[s_.2.1, .int .i64 a0_1])]) (fun s_ w' => (w'.cell? ⟨aE, 0, none⟩ = some (.slice aV l0_0.length aX) ∧ w'.cell? ⟨aE, 1, none⟩ = some (.int .i64 a0_1) ∧ w'.cell? ⟨aE, 2, none⟩ = some (.slice aW l0_2.length aY) ∧ w'.cell? ⟨aE, 3, none⟩ = some (.slice a4 l0_3.length aZ)) ∧ (Kd.R (Kd.int .i64) 3 w' w.heap.size (fun k_ => some k_ ≠ (s_.2.2.1 : Value).ownBlock) s_.2.1 a5) ∧ (Kd.R (Kd.int .i64) 3 w' w.heap.size (fun k_ => some k_ ≠ (s_.2.1 : Value).ownBlock) s_.2.2.1 af) ∧ (w'.heap[aE]? = some (.cells #[.slice aV l0_0.length aX, .int .i64 a0_1, .slice aW l0_2.length aY, .slice a4 l0_3.length aZ] 98 (0, 0))) ∧ (w'.heap[aI]? = some (.cells #[.slice none 0 0, .int .i64 0, .slice none 0 0, .slice none 0 0] 77 (0, 0))) ∧ (w'.heap[s_.2.2.2]? = some (.cells #[.slice none 0 0, .int .i64 0, .slice none 0 0, .slice none 0 0] 77 (0, 0))) ∧ (w.heap.size ≤ s_.2.2.2) ∧ (w.heap.size ≤ s_.2.2.2) ∧ (aE ≠ s_.2.2.2) ∧ (s_.2.2.2 ≠ aE) ∧ (aI ≠ s_.2.2.2) ∧ (s_.2.2.2 ≠ aI) ∧ (Below w.heap.size w w')) ?_ ?_
     rotate_left
     ·intro hJ0_4_9_14
      refine qCc (σ := Value × Value × Value) 4 (mK 16 4095) (fun s_ => [(5, s_.1), (9, s_.2.1), (14, s_.2.2), (13, .agg #[s_.2.1, .int .i64 a0_1])]) (fun s_ w' => (w'.cell? ⟨aE, 0, none⟩ = some (.slice aV l0_0.length aX) ∧ w'.cell? ⟨aE, 1, none⟩ = some (.int .i64 a0_1) ∧ w'.cell? ⟨aE, 2, none⟩ = some (.slice aW l0_2.length aY) ∧ w'.cell? ⟨aE, 3, none⟩ = some (.slice a4 l0_3.length aZ)) ∧ (Kd.R (Kd.int .i64) 3 w' w.heap.size (fun k_ => some k_ ≠ (s_.2.2 : Value).ownBlock) s_.2.1 a5) ∧ (Kd.R (Kd.int .i64) 3 w' w.heap.size (fun k_ => some k_ ≠ (s_.2.1 : Value).ownBlock) s_.2.2 af) ∧ (w'.heap[aE]? = some (.cells #[.slice aV l0_0.length aX, .int .i64 a0_1, .slice aW l0_2.length aY, .slice a4 l0_3.length aZ] 98 (0, 0))) ∧ (w'.heap[aI]? = some (.cells #[.slice none 0 0, .int .i64 0, .slice none 0 0, .slice none 0 0] 77 (0, 0))) ∧ (Below w.heap.size w w')) ?_ ?_
      rotate_left
      ·intro hJ0_4_9
       refine qCc (σ := Value × Value × Nat) 4 (mK 16 19967) (fun s_ => [(5, s_.1), (9, s_.2.1), (3, .pointer (some ⟨s_.2.2, 0, none⟩)), (13, .agg #[s_.2.1, .int .i64 a0_1])]) (fun s_ w' => (w'.cell? ⟨aE, 0, none⟩ = some (.slice aV l0_0.length aX) ∧ w'.cell? ⟨aE, 1, none⟩ = some (.int .i64 a0_1) ∧ w'.cell? ⟨aE, 2, none⟩ = some (.slice aW l0_2.length aY) ∧ w'.cell? ⟨aE, 3, none⟩ = some (.slice a4 l0_3.length aZ)) ∧ (Kd.R (Kd.int .i64) 3 w' w.heap.size (fun _ => True) s_.2.1 a5) ∧ (w'.heap[aE]? = some (.cells #[.slice aV l0_0.length aX, .int .i64 a0_1, .slice aW l0_2.length aY, .slice a4 l0_3.length aZ] 98 (0, 0))) ∧ (w'.heap[aI]? = some (.cells #[.slice none 0 0, .int .i64 0, .slice none 0 0, .slice none 0 0] 77 (0, 0))) ∧ (w'.heap[s_.2.2]? = some (.cells #[.slice none 0 0, .int .i64 0, .slice none 0 0, .slice none 0 0] 77 (0, 0))) ∧ (w.heap.size ≤ s_.2.2) ∧ (w.heap.size ≤ s_.2.2) ∧ (aE ≠ s_.2.2) ∧ (s_.2.2 ≠ aE) ∧ (aI ≠ s_.2.2) ∧ (s_.2.2 ≠ aI) ∧ (Below w.heap.size w w')) ?_ ?_
       rotate_left
       ·intro hJ0_4_14
        refine qCc (σ := Value × Value × Nat) 5 (mK 16 20207) (fun s_ => [(5, s_.1), (14, s_.2.1), (3, .pointer (some ⟨s_.2.2, 0, none⟩))]) (fun s_ w' => (w'.cell? ⟨aE, 0, none⟩ = some (.slice aV l0_0.length aX) ∧ w'.cell? ⟨aE, 1, none⟩ = some (.int .i64 a0_1) ∧ w'.cell? ⟨aE, 2, none⟩ = some (.slice aW l0_2.length aY) ∧ w'.cell? ⟨aE, 3, none⟩ = some (.slice a4 l0_3.length aZ)) ∧ (Kd.R (Kd.int .i64) 3 w' w.heap.size (fun k_ => some k_ ≠ (s_.2.1 : Value).ownBlock) s_.1 aj) ∧ (Kd.R (Kd.int .i64) 3 w' w.heap.size (fun k_ => some k_ ≠ (s_.1 : Value).ownBlock) s_.2.1 af) ∧ (w'.heap[aE]? = some (.cells #[.slice aV l0_0.length aX, .int .i64 a0_1, .slice aW l0_2.length aY, .slice a4 l0_3.length aZ] 98 (0, 0))) ∧ (w'.heap[aI]? = some (.cells #[.slice none 0 0, .int .i64 0, .slice none 0 0, .slice none 0 0] 77 (0, 0))) ∧ (w'.heap[s_.2.2]? = some (.cells #[.slice none 0 0, .int .i64 0, .slice none 0 0, .slice none 0 0] 77 (0, 0))) ∧ (w.heap.size ≤ s_.2.2) ∧ (w.heap.size ≤ s_.2.2) ∧ (aE ≠ s_.2.2) ∧ (s_.2.2 ≠ aE) ∧ (aI ≠ s_.2.2) ∧ (s_.2.2 ≠ aI) ∧ (Below w.heap.size w w')) ?_ ?_
        rotate_left
        ·intro hJ0_9_14
         refine qCc (σ := Value × Value) 5 (mK 16 3583) (fun s_ => [(5, s_.1), (9, s_.2), (13, .agg #[s_.2, .int .i64 a0_1])]) (fun s_ w' => (w'.cell? ⟨aE, 0, none⟩ = some (.slice aV l0_0.length aX) ∧ w'.cell? ⟨aE, 1, none⟩ = some (.int .i64 a0_1) ∧ w'.cell? ⟨aE, 2, none⟩ = some (.slice aW l0_2.length aY) ∧ w'.cell? ⟨aE, 3, none⟩ = some (.slice a4 l0_3.length aZ)) ∧ (Kd.R (Kd.int .i64) 3 w' w.heap.size (fun _ => True) s_.2 a5) ∧ (w'.heap[aE]? = some (.cells #[.slice aV l0_0.length aX, .int .i64 a0_1, .slice aW l0_2.length aY, .slice a4 l0_3.length aZ] 98 (0, 0))) ∧ (w'.heap[aI]? = some (.cells #[.slice none 0 0, .int .i64 0, .slice none 0 0, .slice none 0 0] 77 (0, 0))) ∧ (Below w.heap.size w w')) ?_ ?_
         rotate_left
         ·intro hJ0_4
          refine qCc (σ := Value × Value) 6 (mK 16 3823) (fun s_ => [(5, s_.1), (14, s_.2)]) (fun s_ w' => (w'.cell? ⟨aE, 0, none⟩ = some (.slice aV l0_0.length aX) ∧ w'.cell? ⟨aE, 1, none⟩ = some (.int .i64 a0_1) ∧ w'.cell? ⟨aE, 2, none⟩ = some (.slice aW l0_2.length aY) ∧ w'.cell? ⟨aE, 3, none⟩ = some (.slice a4 l0_3.length aZ)) ∧ (Kd.R (Kd.int .i64) 3 w' w.heap.size (fun k_ => some k_ ≠ (s_.2 : Value).ownBlock) s_.1 aj) ∧ (Kd.R (Kd.int .i64) 3 w' w.heap.size (fun k_ => some k_ ≠ (s_.1 : Value).ownBlock) s_.2 af) ∧ (w'.heap[aE]? = some (.cells #[.slice aV l0_0.length aX, .int .i64 a0_1, .slice aW l0_2.length aY, .slice a4 l0_3.length aZ] 98 (0, 0))) ∧ (w'.heap[aI]? = some (.cells #[.slice none 0 0, .int .i64 0, .slice none 0 0, .slice none 0 0] 77 (0, 0))) ∧ (Below w.heap.size w w')) ?_ ?_
          rotate_left
          ·intro hJ0_9
           refine qCc (σ := Value × Nat) 6 (mK 16 19695) (fun s_ => [(5, s_.1), (3, .pointer (some ⟨s_.2, 0, none⟩))]) (fun s_ w' => (w'.cell? ⟨aE, 0, none⟩ = some (.slice aV l0_0.length aX) ∧ w'.cell? ⟨aE, 1, none⟩ = some (.int .i64 a0_1) ∧ w'.cell? ⟨aE, 2, none⟩ = some (.slice aW l0_2.length aY) ∧ w'.cell? ⟨aE, 3, none⟩ = some (.slice a4 l0_3.length aZ)) ∧ (Kd.R (Kd.int .i64) 3 w' w.heap.size (fun _ => True) s_.1 aj) ∧ (w'.heap[aE]? = some (.cells #[.slice aV l0_0.length aX, .int .i64 a0_1, .slice aW l0_2.length aY, .slice a4 l0_3.length aZ] 98 (0, 0))) ∧ (w'.heap[aI]? = some (.cells #[.slice none 0 0, .int .i64 0, .slice none 0 0, .slice none 0 0] 77 (0, 0))) ∧ (w'.heap[s_.2]? = some (.cells #[.slice none 0 0, .int .i64 0, .slice none 0 0, .slice none 0 0] 77 (0, 0))) ∧ (w.heap.size ≤ s_.2) ∧ (w.heap.size ≤ s_.2) ∧ (aE ≠ s_.2) ∧ (s_.2 ≠ aE) ∧ (aI ≠ s_.2) ∧ (s_.2 ≠ aI) ∧ (Below w.heap.size w w')) ?_ ?_
           rotate_left
           ·intro hJ0_14
            refine qCc (σ := Value × Nat) 6 (mK 16 20206) (fun s_ => [(14, s_.1), (3, .pointer (some ⟨s_.2, 0, none⟩))]) (fun s_ w' => (w'.cell? ⟨aE, 0, none⟩ = some (.slice aV l0_0.length aX) ∧ w'.cell? ⟨aE, 1, none⟩ = some (.int .i64 a0_1) ∧ w'.cell? ⟨aE, 2, none⟩ = some (.slice aW l0_2.length aY) ∧ w'.cell? ⟨aE, 3, none⟩ = some (.slice a4 l0_3.length aZ)) ∧ (Kd.R (Kd.int .i64) 3 w' w.heap.size (fun _ => True) s_.1 af) ∧ (w'.heap[aE]? = some (.cells #[.slice aV l0_0.length aX, .int .i64 a0_1, .slice aW l0_2.length aY, .slice a4 l0_3.length aZ] 98 (0, 0))) ∧ (w'.heap[aI]? = some (.cells #[.slice none 0 0, .int .i64 0, .slice none 0 0, .slice none 0 0] 77 (0, 0))) ∧ (w'.heap[s_.2]? = some (.cells #[.slice none 0 0, .int .i64 0, .slice none 0 0, .slice none 0 0] 77 (0, 0))) ∧ (w.heap.size ≤ s_.2) ∧ (w.heap.size ≤ s_.2) ∧ (aE ≠ s_.2) ∧ (s_.2 ≠ aE) ∧ (aI ≠ s_.2) ∧ (s_.2 ≠ aI) ∧ (Below w.heap.size w w')) ?_ ?_
            rotate_left
            ·intro hJ9_14
             refine qCc (σ := Value) 7 (mK 16 3311) (fun s_ => [(5, s_)]) (fun s_ w' => (w'.cell? ⟨aE, 0, none⟩ = some (.slice aV l0_0.length aX) ∧ w'.cell? ⟨aE, 1, none⟩ = some (.int .i64 a0_1) ∧ w'.cell? ⟨aE, 2, none⟩ = some (.slice aW l0_2.length aY) ∧ w'.cell? ⟨aE, 3, none⟩ = some (.slice a4 l0_3.length aZ)) ∧ (Kd.R (Kd.int .i64) 3 w' w.heap.size (fun _ => True) s_ aj) ∧ (w'.heap[aE]? = some (.cells #[.slice aV l0_0.length aX, .int .i64 a0_1, .slice aW l0_2.length aY, .slice a4 l0_3.length aZ] 98 (0, 0))) ∧ (w'.heap[aI]? = some (.cells #[.slice none 0 0, .int .i64 0, .slice none 0 0, .slice none 0 0] 77 (0, 0))) ∧ (Below w.heap.size w w')) ?_ ?_
             rotate_left
             ·intro hJ0
              refine qCc (σ := Value) 7 (mK 16 3822) (fun s_ => [(14, s_)]) (fun s_ w' => (w'.cell? ⟨aE, 0, none⟩ = some (.slice aV l0_0.length aX) ∧ w'.cell? ⟨aE, 1, none⟩ = some (.int .i64 a0_1) ∧ w'.cell? ⟨aE, 2, none⟩ = some (.slice aW l0_2.length aY) ∧ w'.cell? ⟨aE, 3, none⟩ = some (.slice a4 l0_3.length aZ)) ∧ (Kd.R (Kd.int .i64) 3 w' w.heap.size (fun _ => True) s_ af) ∧ (w'.heap[aE]? = some (.cells #[.slice aV l0_0.length aX, .int .i64 a0_1, .slice aW l0_2.length aY, .slice a4 l0_3.length aZ] 98 (0, 0))) ∧ (w'.heap[aI]? = some (.cells #[.slice none 0 0, .int .i64 0, .slice none 0 0, .slice none 0 0] 77 (0, 0))) ∧ (Below w.heap.size w w')) ?_ ?_
              rotate_left
              ·intro hJ9
               refine qCc (σ := Nat) 7 (mK 16 19694) (fun s_ => [(3, .pointer (some ⟨s_, 0, none⟩))]) (fun s_ w' => (w'.cell? ⟨aE, 0, none⟩ = some (.slice aV l0_0.length aX) ∧ w'.cell? ⟨aE, 1, none⟩ = some (.int .i64 a0_1) ∧ w'.cell? ⟨aE, 2, none⟩ = some (.slice aW l0_2.length aY) ∧ w'.cell? ⟨aE, 3, none⟩ = some (.slice a4 l0_3.length aZ)) ∧ (w'.heap[aE]? = some (.cells #[.slice aV l0_0.length aX, .int .i64 a0_1, .slice aW l0_2.length aY, .slice a4 l0_3.length aZ] 98 (0, 0))) ∧ (w'.heap[aI]? = some (.cells #[.slice none 0 0, .int .i64 0, .slice none 0 0, .slice none 0 0] 77 (0, 0))) ∧ (w'.heap[s_]? = some (.cells #[.slice none 0 0, .int .i64 0, .slice none 0 0, .slice none 0 0] 77 (0, 0))) ∧ (w.heap.size ≤ s_) ∧ (w.heap.size ≤ s_) ∧ (aE ≠ s_) ∧ (s_ ≠ aE) ∧ (aI ≠ s_) ∧ (s_ ≠ aI) ∧ (Below w.heap.size w w')) ?_ ?_
               rotate_left
               ·intro hJ14
                refine three_ (i := 0) (j := 9) (k := 14) (Ni := some 5) (Nj := some 14) (Nk := some 3) (mK 16 3311) (mK 16 3822) (mK 16 19694) rfl rfl rfl rfl rfl rfl (qEt HT_.o (by kernel_rfl)) (by decide) (by decide) (by decide) (fun K hK => ?_) (fun K hK => ?_) (fun K hK => ?_)
                ·skip
                 refine Kd.R_lit_step (Kd.int .i64) _ 3 ?hg (N := 5) ?hd (xs := ([] : List Int)) (inner := []) (ok := fun _ => True) (okp := fun _ => True) ?hr ?hp (fun _ hk => hk) trivial (Below.refl _ _) (Nat.le_refl _) (by simp) ?_; (case hd => rfl); (case hg => rfl); (case hr => (go_simp; done)); (case hp => exact (Reps.none _ _))
                 intro a9 w7 bu hb hg_ hnew_
                 clear hg_ hnew_
                 (rw [← bM.o] at bu)
                 have n_ := a2 (Kd.R_lower bu (qAe HB.o)) (a2 (qAd aA.o hb) (a2 (qAd aC.o hb) (am (qAj HB.o hb))))
                 clear aA aC HB
                 obtain ⟨aT, aA, aC, HB⟩ := n_
                 clear hb bu
                 refine hK.o _ _ (c4_ _ aA.o) (fun hHeld => ?_)
                 clear hK K
                 refine nm ?_
                 exact nq (hJ0 (a9) _ ⟨hHeld, aT.o, aA.o, aC.o, HB.o⟩)
                ·skip
                 refine Kd.R_lit_step (Kd.int .i64) _ 3 ?hg (N := 14) ?hd (xs := ([] : List Int)) (inner := []) (ok := fun _ => True) (okp := fun _ => True) ?hr ?hp (fun _ hk => hk) trivial (Below.refl _ _) (Nat.le_refl _) (by simp) ?_; (case hd => rfl); (case hg => rfl); (case hr => (go_simp; done)); (case hp => exact (Reps.none _ _))
                 intro a8 w7 bu hb hg_ hnew_
                 clear hg_ hnew_
                 (rw [← bF.o] at bu)
                 have n_ := a2 (Kd.R_lower bu (qAe HB.o)) (a2 (qAd aA.o hb) (a2 (qAd aC.o hb) (am (qAj HB.o hb))))
                 clear aA aC HB
                 obtain ⟨aN, aA, aC, HB⟩ := n_
                 clear hb bu
                 refine hK.o _ _ (c4_ _ aA.o) (fun hHeld => ?_)
                 clear hK K
                 refine nm ?_
                 exact nq (hJ9 (a8) _ ⟨hHeld, aN.o, aA.o, aC.o, HB.o⟩)
                ·skip
                 refine qBp ?hg (N := 3) ?hd (cs := #[.slice none 0 0, .int .i64 0, .slice none 0 0, .slice none 0 0]) (t := 77) ?hr ?_; (case hd => rfl); (case hg => rfl); (case hr => (go_simp; done))
                 intro aD hg w7 hbox hb
                 have n_ := a2 (qAd aA.o hb) (a2 (qAd aC.o hb) (a2 (qAj HB.o hb) (a2 (hbox) (a2 (by rw [hg]; exact (qAe HB.o) : w.heap.size ≤ aD) (a2 (by rw [hg]; exact (qAe HB.o) : w.heap.size ≤ aD) (a2 (by rw [hg]; exact Nat.ne_of_lt (qAw aA.o) : aE ≠ aD) (a2 (by rw [hg]; exact Nat.ne_of_gt (qAw aA.o) : aD ≠ aE) (a2 (by rw [hg]; exact Nat.ne_of_lt (qAw aC.o) : aI ≠ aD) (am (by rw [hg]; exact Nat.ne_of_gt (qAw aC.o) : aD ≠ aI))))))))))
                 clear aA aC HB
                 obtain ⟨aA, aC, HB, aH, aa, a7, aG, aK, aJ, aM⟩ := n_
                 clear hb hbox hg
                 refine hK.o _ _ (c4_ _ aA.o) (fun hHeld => ?_)
                 clear hK K
                 refine nm ?_
                 exact nq (hJ14 (aD) _ ⟨hHeld, aA.o, aC.o, aH.o, aa.o, a7.o, aG.o, aK.o, aJ.o, aM.o, HB.o⟩)
               ·skip
                rintro aD w8 ⟨hS_, h0_, h1_, h2_, h3_, h4_, h5_, h6_, h7_, h8_, h9_⟩
                have n0_ : qAa (w8.heap[aE]? = some (.cells #[.slice aV l0_0.length aX, .int .i64 a0_1, .slice aW l0_2.length aY, .slice a4 l0_3.length aZ] 98 (0, 0))) := ⟨h0_⟩
                have n1_ : qAa (w8.heap[aI]? = some (.cells #[.slice none 0 0, .int .i64 0, .slice none 0 0, .slice none 0 0] 77 (0, 0))) := ⟨h1_⟩
                have n2_ : qAa (w8.heap[aD]? = some (.cells #[.slice none 0 0, .int .i64 0, .slice none 0 0, .slice none 0 0] 77 (0, 0))) := ⟨h2_⟩
                have n3_ : qAa (w.heap.size ≤ aD) := ⟨h3_⟩
                have n4_ : qAa (w.heap.size ≤ aD) := ⟨h4_⟩
                have n5_ : qAa (aE ≠ aD) := ⟨h5_⟩
                have n6_ : qAa (aD ≠ aE) := ⟨h6_⟩
                have n7_ : qAa (aI ≠ aD) := ⟨h7_⟩
                have n8_ : qAa (aD ≠ aI) := ⟨h8_⟩
                have n9_ : qAa (Below w.heap.size w w8) := ⟨h9_⟩
                clear aA aC HB h0_ h1_ h2_ h3_ h4_ h5_ h6_ h7_ h8_ h9_
                have aA := n0_
                have aC := n1_
                have aH := n2_
                have aa := n3_
                have a7 := n4_
                have aG := n5_
                have aK := n6_
                have aJ := n7_
                have aM := n8_
                have HB := n9_
                clear n0_ n1_ n2_ n3_ n4_ n5_ n6_ n7_ n8_ n9_
                refine qBX (a' := ?_) ?_ ?_
                rotate_left
                ·simp only [qBx, Act.put, List.setIfInBounds_toArray, List.set_cons_zero, List.set_cons_succ]
                 rfl
                refine two_ (i := 0) (j := 9) (Ni := some 5) (Nj := some 14) (mK 16 19695) (mK 16 20206) rfl rfl rfl rfl (qDb HT_.o (by kernel_rfl)) (by decide) (by decide) (fun K hK => ?_) (fun K hK => ?_)
                ·skip
                 refine Kd.R_lit_step (Kd.int .i64) _ 3 ?hg (N := 5) ?hd (xs := ([] : List Int)) (inner := []) (ok := fun _ => True) (okp := fun _ => True) ?hr ?hp (fun _ hk => hk) trivial (Below.refl _ _) (Nat.le_refl _) (by simp) ?_; (case hd => rfl); (case hg => rfl); (case hr => (go_simp; done)); (case hp => exact (Reps.none _ _))
                 intro a9 w9 ho10 hb hg_ hnew_
                 clear hg_ hnew_
                 (rw [← bM.o] at ho10)
                 have n_ := a2 (Kd.R_lower ho10 (qAe HB.o)) (a2 (qAd aA.o hb) (a2 (qAd aC.o hb) (a2 (qAd aH.o hb) (am (qAj HB.o hb)))))
                 clear aA aC aH HB
                 obtain ⟨aT, aA, aC, aH, HB⟩ := n_
                 clear hb ho10
                 refine hK.o _ _ (c4_ _ aA.o) (fun hHeld => ?_)
                 clear hK K
                 refine nm ?_
                 exact nq (hJ0_14 (a9, aD) _ ⟨hHeld, aT.o, aA.o, aC.o, aH.o, aa.o, a7.o, aG.o, aK.o, aJ.o, aM.o, HB.o⟩)
                ·skip
                 refine Kd.R_lit_step (Kd.int .i64) _ 3 ?hg (N := 14) ?hd (xs := ([] : List Int)) (inner := []) (ok := fun _ => True) (okp := fun _ => True) ?hr ?hp (fun _ hk => hk) trivial (Below.refl _ _) (Nat.le_refl _) (by simp) ?_; (case hd => rfl); (case hg => rfl); (case hr => (go_simp; done)); (case hp => exact (Reps.none _ _))
                 intro a8 w9 ho10 hb hg_ hnew_
                 clear hg_ hnew_
                 (rw [← bF.o] at ho10)
                 have n_ := a2 (Kd.R_lower ho10 (qAe HB.o)) (a2 (qAd aA.o hb) (a2 (qAd aC.o hb) (a2 (qAd aH.o hb) (am (qAj HB.o hb)))))
                 clear aA aC aH HB
                 obtain ⟨aN, aA, aC, aH, HB⟩ := n_
                 clear hb ho10
                 refine hK.o _ _ (c4_ _ aA.o) (fun hHeld => ?_)
                 clear hK K
                 refine nm ?_
                 exact nq (hJ9_14 (a8, aD) _ ⟨hHeld, aN.o, aA.o, aC.o, aH.o, aa.o, a7.o, aG.o, aK.o, aJ.o, aM.o, HB.o⟩)
              ·skip
               rintro a8 w9 ⟨hS_, h0_, h1_, h2_, h3_⟩
               have n0_ : qAa (Kd.R (Kd.int .i64) 3 w9 w.heap.size (fun _ => True) a8 af) := ⟨h0_⟩
               have n1_ : qAa (w9.heap[aE]? = some (.cells #[.slice aV l0_0.length aX, .int .i64 a0_1, .slice aW l0_2.length aY, .slice a4 l0_3.length aZ] 98 (0, 0))) := ⟨h1_⟩
               have n2_ : qAa (w9.heap[aI]? = some (.cells #[.slice none 0 0, .int .i64 0, .slice none 0 0, .slice none 0 0] 77 (0, 0))) := ⟨h2_⟩
               have n3_ : qAa (Below w.heap.size w w9) := ⟨h3_⟩
               clear aA aC HB h0_ h1_ h2_ h3_
               have aN := n0_
               have aA := n1_
               have aC := n2_
               have HB := n3_
               clear n0_ n1_ n2_ n3_
               refine qBX (a' := ?_) ?_ ?_
               rotate_left
               ·simp only [qBx, Act.put, List.setIfInBounds_toArray, List.set_cons_zero, List.set_cons_succ]
                rfl
               refine two_ (i := 0) (j := 14) (Ni := some 5) (Nj := some 3) (mK 16 3823) (mK 16 20206) rfl rfl rfl rfl (qDb HT_.o (by kernel_rfl)) (by decide) (by decide) (fun K hK => ?_) (fun K hK => ?_)
               ·skip
                refine Kd.R_lit_step (Kd.int .i64) _ 3 ?hg (N := 5) ?hd (xs := ([] : List Int)) (inner := []) (ok := fun _ => True) (okp := fun _ => True) ?hr ?hp (fun _ hk => hk) trivial (Below.refl _ _) (Nat.le_refl _) (by simp) ?_; (case hd => rfl); (case hg => rfl); (case hr => (go_simp; done)); (case hp => exact (Reps.none _ _))
                intro a9 bI ho11 hb hg_ hnew_
                clear hg_ hnew_
                (rw [← bM.o] at ho11)
                have n_ := a2 (Kd.R_elder' aN.o (Kd.R_base ho11) hb) (a2 (Kd.R_lower (Kd.R_new' ho11 (Kd.R_lt aN.o)) (qAe HB.o)) (a2 (qAd aA.o hb) (a2 (qAd aC.o hb) (am (qAj HB.o hb)))))
                clear aN aA aC HB
                obtain ⟨aN, aT, aA, aC, HB⟩ := n_
                clear hb ho11
                refine hK.o _ _ (c4_ _ aA.o) (fun hHeld => ?_)
                clear hK K
                refine nm ?_
                exact nq (hJ0_9 (a9, a8) _ ⟨hHeld, (by exact Kd.R_mono aT.o (fun _ hk => hk.2)), (by exact Kd.R_mono aN.o (fun _ hk => hk.2)), aA.o, aC.o, HB.o⟩)
               ·skip
                refine qBp ?hg (N := 3) ?hd (cs := #[.slice none 0 0, .int .i64 0, .slice none 0 0, .slice none 0 0]) (t := 77) ?hr ?_; (case hd => rfl); (case hg => rfl); (case hr => (go_simp; done))
                intro aD hg bI hbox hb
                have n_ := a2 (Kd.R_below aN.o hb) (a2 (qAd aA.o hb) (a2 (qAd aC.o hb) (a2 (qAj HB.o hb) (a2 (hbox) (a2 (by rw [hg]; exact (qAe HB.o) : w.heap.size ≤ aD) (a2 (by rw [hg]; exact (qAe HB.o) : w.heap.size ≤ aD) (a2 (by rw [hg]; exact Nat.ne_of_lt (qAw aA.o) : aE ≠ aD) (a2 (by rw [hg]; exact Nat.ne_of_gt (qAw aA.o) : aD ≠ aE) (a2 (by rw [hg]; exact Nat.ne_of_lt (qAw aC.o) : aI ≠ aD) (am (by rw [hg]; exact Nat.ne_of_gt (qAw aC.o) : aD ≠ aI)))))))))))
                clear aN aA aC HB
                obtain ⟨aN, aA, aC, HB, aH, aa, a7, aG, aK, aJ, aM⟩ := n_
                clear hb hbox hg
                refine hK.o _ _ (c4_ _ aA.o) (fun hHeld => ?_)
                clear hK K
                refine nm ?_
                exact nq (hJ9_14 (a8, aD) _ ⟨hHeld, aN.o, aA.o, aC.o, aH.o, aa.o, a7.o, aG.o, aK.o, aJ.o, aM.o, HB.o⟩)
             ·skip
              rintro a9 w9 ⟨hS_, h0_, h1_, h2_, h3_⟩
              have n0_ : qAa (Kd.R (Kd.int .i64) 3 w9 w.heap.size (fun _ => True) a9 aj) := ⟨h0_⟩
              have n1_ : qAa (w9.heap[aE]? = some (.cells #[.slice aV l0_0.length aX, .int .i64 a0_1, .slice aW l0_2.length aY, .slice a4 l0_3.length aZ] 98 (0, 0))) := ⟨h1_⟩
              have n2_ : qAa (w9.heap[aI]? = some (.cells #[.slice none 0 0, .int .i64 0, .slice none 0 0, .slice none 0 0] 77 (0, 0))) := ⟨h2_⟩
              have n3_ : qAa (Below w.heap.size w w9) := ⟨h3_⟩
              clear aA aC HB h0_ h1_ h2_ h3_
              have aT := n0_
              have aA := n1_
              have aC := n2_
              have HB := n3_
              clear n0_ n1_ n2_ n3_
              refine qBX (a' := ?_) ?_ ?_
              rotate_left
              ·simp only [qBx, Act.put, List.setIfInBounds_toArray, List.set_cons_zero, List.set_cons_succ]
               rfl
              refine three_ (i := 4) (j := 9) (k := 14) (Ni := some 9) (Nj := some 14) (Nk := some 3) (mK 16 3327) (mK 16 3823) (mK 16 19695) rfl rfl rfl rfl rfl rfl (qEt HT_.o (by kernel_rfl)) (by decide) (by decide) (by decide) (fun K hK => ?_) (fun K hK => ?_) (fun K hK => ?_)
              ·skip
               refine Kd.R_append_rows_step (Kd.int .i64) (w0 := w) w.heap.size (by rfl) (.tmp 5) (.tmp 8) 72 3 (.int .i64 0) 8 rfl Try.underlying72 info3 rfl (by decide) (by omega) a9 aj l0_0 _ _ _ (fun _ => True) (fun _ => False) rfl rfl ?aO ?aR (fun _ _ h => h) (fun _ h => h.elim) ?aF ?aB ?aS ?aL ?_
               (case aR => exact (Kd.C_below bL.o HB.o))
               (case aB => exact HB.o)
               (case aF => exact (fun _ _ => trivial))
               (case aO => exact aT.o)
               (case aS => exact (qAe HB.o))
               (case aL => have := b6.o; omega)
               intro an bI ho hb hg bH
               rw [← bN.o] at ho
               have n_ := a2 (qAH (g := aE) (o := .cells #[.slice aV l0_0.length aX, .int .i64 a0_1, .slice aW l0_2.length aY, .slice a4 l0_3.length aZ] 98 (0, 0)) aA.o hg (Kd.R_ne aT.o aA.o (by decide))) (a2 (qAH (g := aI) (o := .cells #[.slice none 0 0, .int .i64 0, .slice none 0 0, .slice none 0 0] 77 (0, 0)) aC.o hg (Kd.R_ne aT.o aC.o (by decide))) (a2 (hb) (am (ho))))
               clear aA aC HB aT
               obtain ⟨aA, aC, HB, aQ⟩ := n_
               clear ho hb hg bH
               obtain ⟨ca, cc, cg⟩ := Kd.R_slice aQ.o
               (subst cg)
               refine hK.o _ _ (c4_ _ aA.o) (fun hHeld => ?_)
               clear hK K
               refine nm ?_
               refine pu 8 13 (mK 16 3583) (qA8 HT_.o (by kernel_rfl)) ?_
               exact nq (hJ0_4 (a9, .slice ca a5.length cc) _ ⟨hHeld, aQ.o, aA.o, aC.o, HB.o⟩)
              ·skip
               refine Kd.R_lit_step (Kd.int .i64) _ 3 ?hg (N := 14) ?hd (xs := ([] : List Int)) (inner := []) (ok := fun _ => True) (okp := fun _ => True) ?hr ?hp (fun _ hk => hk) trivial (Below.refl _ _) (Nat.le_refl _) (by simp) ?_; (case hd => rfl); (case hg => rfl); (case hr => (go_simp; done)); (case hp => exact (Reps.none _ _))
               intro a8 bI ho11 hb hg_ hnew_
               clear hg_ hnew_
               (rw [← bF.o] at ho11)
               have n_ := a2 (Kd.R_elder' aT.o (Kd.R_base ho11) hb) (a2 (Kd.R_lower (Kd.R_new' ho11 (Kd.R_lt aT.o)) (qAe HB.o)) (a2 (qAd aA.o hb) (a2 (qAd aC.o hb) (am (qAj HB.o hb)))))
               clear aT aA aC HB
               obtain ⟨aT, aN, aA, aC, HB⟩ := n_
               clear hb ho11
               refine hK.o _ _ (c4_ _ aA.o) (fun hHeld => ?_)
               clear hK K
               refine nm ?_
               exact nq (hJ0_9 (a9, a8) _ ⟨hHeld, (by exact Kd.R_mono aT.o (fun _ hk => hk.2)), (by exact Kd.R_mono aN.o (fun _ hk => hk.2)), aA.o, aC.o, HB.o⟩)
              ·skip
               refine qBp ?hg (N := 3) ?hd (cs := #[.slice none 0 0, .int .i64 0, .slice none 0 0, .slice none 0 0]) (t := 77) ?hr ?_; (case hd => rfl); (case hg => rfl); (case hr => (go_simp; done))
               intro aD hg bI hbox hb
               have n_ := a2 (Kd.R_below aT.o hb) (a2 (qAd aA.o hb) (a2 (qAd aC.o hb) (a2 (qAj HB.o hb) (a2 (hbox) (a2 (by rw [hg]; exact (qAe HB.o) : w.heap.size ≤ aD) (a2 (by rw [hg]; exact (qAe HB.o) : w.heap.size ≤ aD) (a2 (by rw [hg]; exact Nat.ne_of_lt (qAw aA.o) : aE ≠ aD) (a2 (by rw [hg]; exact Nat.ne_of_gt (qAw aA.o) : aD ≠ aE) (a2 (by rw [hg]; exact Nat.ne_of_lt (qAw aC.o) : aI ≠ aD) (am (by rw [hg]; exact Nat.ne_of_gt (qAw aC.o) : aD ≠ aI)))))))))))
               clear aT aA aC HB
               obtain ⟨aT, aA, aC, HB, aH, aa, a7, aG, aK, aJ, aM⟩ := n_
               clear hb hbox hg
               refine hK.o _ _ (c4_ _ aA.o) (fun hHeld => ?_)
               clear hK K
               refine nm ?_
               exact nq (hJ0_14 (a9, aD) _ ⟨hHeld, aT.o, aA.o, aC.o, aH.o, aa.o, a7.o, aG.o, aK.o, aJ.o, aM.o, HB.o⟩)
            ·skip
             rintro ⟨a8, aD⟩ bI ⟨hS_, h0_, h1_, h2_, h3_, h4_, h5_, h6_, h7_, h8_, h9_, h10_⟩
             have n0_ : qAa (Kd.R (Kd.int .i64) 3 bI w.heap.size (fun _ => True) a8 af) := ⟨h0_⟩
             have n1_ : qAa (bI.heap[aE]? = some (.cells #[.slice aV l0_0.length aX, .int .i64 a0_1, .slice aW l0_2.length aY, .slice a4 l0_3.length aZ] 98 (0, 0))) := ⟨h1_⟩
             have n2_ : qAa (bI.heap[aI]? = some (.cells #[.slice none 0 0, .int .i64 0, .slice none 0 0, .slice none 0 0] 77 (0, 0))) := ⟨h2_⟩
             have n3_ : qAa (bI.heap[aD]? = some (.cells #[.slice none 0 0, .int .i64 0, .slice none 0 0, .slice none 0 0] 77 (0, 0))) := ⟨h3_⟩
             have n4_ : qAa (w.heap.size ≤ aD) := ⟨h4_⟩
             have n5_ : qAa (w.heap.size ≤ aD) := ⟨h5_⟩
             have n6_ : qAa (aE ≠ aD) := ⟨h6_⟩
             have n7_ : qAa (aD ≠ aE) := ⟨h7_⟩
             have n8_ : qAa (aI ≠ aD) := ⟨h8_⟩
             have n9_ : qAa (aD ≠ aI) := ⟨h9_⟩
             have n10_ : qAa (Below w.heap.size w bI) := ⟨h10_⟩
             clear aA aC HB h0_ h1_ h2_ h3_ h4_ h5_ h6_ h7_ h8_ h9_ h10_
             have aN := n0_
             have aA := n1_
             have aC := n2_
             have aH := n3_
             have aa := n4_
             have a7 := n5_
             have aG := n6_
             have aK := n7_
             have aJ := n8_
             have aM := n9_
             have HB := n10_
             clear n0_ n1_ n2_ n3_ n4_ n5_ n6_ n7_ n8_ n9_ n10_
             refine qBX (a' := ?_) ?_ ?_
             rotate_left
             ·simp only [qBx, Act.put, List.setIfInBounds_toArray, List.set_cons_zero, List.set_cons_succ]
              rfl
             refine one_ (i := 0) (N := some 5) (mK 16 20207) rfl rfl (qBf HT_.o (by kernel_rfl)) (by decide) (fun K hK => ?_)
             refine Kd.R_lit_step (Kd.int .i64) _ 3 ?hg (N := 5) ?hd (xs := ([] : List Int)) (inner := []) (ok := fun _ => True) (okp := fun _ => True) ?hr ?hp (fun _ hk => hk) trivial (Below.refl _ _) (Nat.le_refl _) (by simp) ?_; (case hd => rfl); (case hg => rfl); (case hr => (go_simp; done)); (case hp => exact (Reps.none _ _))
             intro a9 bS ho12 hb hg_ hnew_
             clear hg_ hnew_
             (rw [← bM.o] at ho12)
             have n_ := a2 (Kd.R_elder' aN.o (Kd.R_base ho12) hb) (a2 (Kd.R_lower (Kd.R_new' ho12 (Kd.R_lt aN.o)) (qAe HB.o)) (a2 (qAd aA.o hb) (a2 (qAd aC.o hb) (a2 (qAd aH.o hb) (am (qAj HB.o hb))))))
             clear aN aA aC aH HB
             obtain ⟨aN, aT, aA, aC, aH, HB⟩ := n_
             clear hb ho12
             refine hK.o _ _ (c4_ _ aA.o) (fun hHeld => ?_)
             clear hK K
             refine nm ?_
             exact nq (hJ0_9_14 (a9, a8, aD) _ ⟨hHeld, (by exact Kd.R_mono aT.o (fun _ hk => hk.2)), (by exact Kd.R_mono aN.o (fun _ hk => hk.2)), aA.o, aC.o, aH.o, aa.o, a7.o, aG.o, aK.o, aJ.o, aM.o, HB.o⟩)
           ·skip
            rintro ⟨a9, aD⟩ bI ⟨hS_, h0_, h1_, h2_, h3_, h4_, h5_, h6_, h7_, h8_, h9_, h10_⟩
            have n0_ : qAa (Kd.R (Kd.int .i64) 3 bI w.heap.size (fun _ => True) a9 aj) := ⟨h0_⟩
            have n1_ : qAa (bI.heap[aE]? = some (.cells #[.slice aV l0_0.length aX, .int .i64 a0_1, .slice aW l0_2.length aY, .slice a4 l0_3.length aZ] 98 (0, 0))) := ⟨h1_⟩
            have n2_ : qAa (bI.heap[aI]? = some (.cells #[.slice none 0 0, .int .i64 0, .slice none 0 0, .slice none 0 0] 77 (0, 0))) := ⟨h2_⟩
            have n3_ : qAa (bI.heap[aD]? = some (.cells #[.slice none 0 0, .int .i64 0, .slice none 0 0, .slice none 0 0] 77 (0, 0))) := ⟨h3_⟩
            have n4_ : qAa (w.heap.size ≤ aD) := ⟨h4_⟩
            have n5_ : qAa (w.heap.size ≤ aD) := ⟨h5_⟩
            have n6_ : qAa (aE ≠ aD) := ⟨h6_⟩
            have n7_ : qAa (aD ≠ aE) := ⟨h7_⟩
            have n8_ : qAa (aI ≠ aD) := ⟨h8_⟩
            have n9_ : qAa (aD ≠ aI) := ⟨h9_⟩
            have n10_ : qAa (Below w.heap.size w bI) := ⟨h10_⟩
            clear aA aC HB h0_ h1_ h2_ h3_ h4_ h5_ h6_ h7_ h8_ h9_ h10_
            have aT := n0_
            have aA := n1_
            have aC := n2_
            have aH := n3_
            have aa := n4_
            have a7 := n5_
            have aG := n6_
            have aK := n7_
            have aJ := n8_
            have aM := n9_
            have HB := n10_
            clear n0_ n1_ n2_ n3_ n4_ n5_ n6_ n7_ n8_ n9_ n10_
            refine qBX (a' := ?_) ?_ ?_
            rotate_left
            ·simp only [qBx, Act.put, List.setIfInBounds_toArray, List.set_cons_zero, List.set_cons_succ]
             rfl
            refine two_ (i := 4) (j := 9) (Ni := some 9) (Nj := some 14) (mK 16 19711) (mK 16 20207) rfl rfl rfl rfl (qDb HT_.o (by kernel_rfl)) (by decide) (by decide) (fun K hK => ?_) (fun K hK => ?_)
            ·skip
             refine Kd.R_append_rows_step (Kd.int .i64) (w0 := w) w.heap.size (by rfl) (.tmp 5) (.tmp 8) 72 3 (.int .i64 0) 8 rfl Try.underlying72 info3 rfl (by decide) (by omega) a9 aj l0_0 _ _ _ (fun _ => True) (fun _ => False) rfl rfl ?aO ?aR (fun _ _ h => h) (fun _ h => h.elim) ?aF ?aB ?aS ?aL ?_
             (case aR => exact (Kd.C_below bL.o HB.o))
             (case aB => exact HB.o)
             (case aF => exact (fun _ _ => trivial))
             (case aO => exact aT.o)
             (case aS => exact (qAe HB.o))
             (case aL => have := b6.o; omega)
             intro an bS ho hb hg bH
             rw [← bN.o] at ho
             have n_ := a2 (qAH (g := aE) (o := .cells #[.slice aV l0_0.length aX, .int .i64 a0_1, .slice aW l0_2.length aY, .slice a4 l0_3.length aZ] 98 (0, 0)) aA.o hg (Kd.R_ne aT.o aA.o (by decide))) (a2 (qAH (g := aI) (o := .cells #[.slice none 0 0, .int .i64 0, .slice none 0 0, .slice none 0 0] 77 (0, 0)) aC.o hg (Kd.R_ne aT.o aC.o (by decide))) (a2 (qAH (g := aD) (o := .cells #[.slice none 0 0, .int .i64 0, .slice none 0 0, .slice none 0 0] 77 (0, 0)) aH.o hg (Kd.R_ne aT.o aH.o (by decide))) (a2 (hb) (am (ho)))))
             clear aA aC aH HB aT
             obtain ⟨aA, aC, aH, HB, aQ⟩ := n_
             clear ho hb hg bH
             obtain ⟨b3, b7, bp⟩ := Kd.R_slice aQ.o
             (subst bp)
             refine hK.o _ _ (c4_ _ aA.o) (fun hHeld => ?_)
             clear hK K
             refine nm ?_
             refine pu 8 13 (mK 16 19967) (qA8 HT_.o (by kernel_rfl)) ?_
             exact nq (hJ0_4_14 (a9, .slice b3 a5.length b7, aD) _ ⟨hHeld, aQ.o, aA.o, aC.o, aH.o, aa.o, a7.o, aG.o, aK.o, aJ.o, aM.o, HB.o⟩)
            ·skip
             refine Kd.R_lit_step (Kd.int .i64) _ 3 ?hg (N := 14) ?hd (xs := ([] : List Int)) (inner := []) (ok := fun _ => True) (okp := fun _ => True) ?hr ?hp (fun _ hk => hk) trivial (Below.refl _ _) (Nat.le_refl _) (by simp) ?_; (case hd => rfl); (case hg => rfl); (case hr => (go_simp; done)); (case hp => exact (Reps.none _ _))
             intro a8 bS ho12 hb hg_ hnew_
             clear hg_ hnew_
             (rw [← bF.o] at ho12)
             have n_ := a2 (Kd.R_elder' aT.o (Kd.R_base ho12) hb) (a2 (Kd.R_lower (Kd.R_new' ho12 (Kd.R_lt aT.o)) (qAe HB.o)) (a2 (qAd aA.o hb) (a2 (qAd aC.o hb) (a2 (qAd aH.o hb) (am (qAj HB.o hb))))))
             clear aT aA aC aH HB
             obtain ⟨aT, aN, aA, aC, aH, HB⟩ := n_
             clear hb ho12
             refine hK.o _ _ (c4_ _ aA.o) (fun hHeld => ?_)
             clear hK K
             refine nm ?_
             exact nq (hJ0_9_14 (a9, a8, aD) _ ⟨hHeld, (by exact Kd.R_mono aT.o (fun _ hk => hk.2)), (by exact Kd.R_mono aN.o (fun _ hk => hk.2)), aA.o, aC.o, aH.o, aa.o, a7.o, aG.o, aK.o, aJ.o, aM.o, HB.o⟩)
          ·skip
           rintro ⟨a9, a8⟩ bS ⟨hS_, h0_, h1_, h2_, h3_, h4_⟩
           have n0_ : qAa (Kd.R (Kd.int .i64) 3 bS w.heap.size (fun k_ => some k_ ≠ (a8 : Value).ownBlock) a9 aj) := ⟨h0_⟩
           have n1_ : qAa (Kd.R (Kd.int .i64) 3 bS w.heap.size (fun k_ => some k_ ≠ (a9 : Value).ownBlock) a8 af) := ⟨h1_⟩
           have n2_ : qAa (bS.heap[aE]? = some (.cells #[.slice aV l0_0.length aX, .int .i64 a0_1, .slice aW l0_2.length aY, .slice a4 l0_3.length aZ] 98 (0, 0))) := ⟨h2_⟩
           have n3_ : qAa (bS.heap[aI]? = some (.cells #[.slice none 0 0, .int .i64 0, .slice none 0 0, .slice none 0 0] 77 (0, 0))) := ⟨h3_⟩
           have n4_ : qAa (Below w.heap.size w bS) := ⟨h4_⟩
           clear aA aC HB h0_ h1_ h2_ h3_ h4_
           have aT := n0_
           have aN := n1_
           have aA := n2_
           have aC := n3_
           have HB := n4_
           clear n0_ n1_ n2_ n3_ n4_
           refine qBX (a' := ?_) ?_ ?_
           rotate_left
           ·simp only [qBx, Act.put, List.setIfInBounds_toArray, List.set_cons_zero, List.set_cons_succ]
            rfl
           refine two_ (i := 4) (j := 14) (Ni := some 9) (Nj := some 3) (mK 16 3839) (mK 16 20207) rfl rfl rfl rfl (qDb HT_.o (by kernel_rfl)) (by decide) (by decide) (fun K hK => ?_) (fun K hK => ?_)
           ·skip
            refine Kd.R_append_rows_step (Kd.int .i64) (w0 := w) w.heap.size (by rfl) (.tmp 5) (.tmp 8) 72 3 (.int .i64 0) 8 rfl Try.underlying72 info3 rfl (by decide) (by omega) a9 aj l0_0 _ _ _ (fun k_ => some k_ ≠ (a8 : Value).ownBlock) (fun _ => False) rfl rfl ?aO ?aR (fun _ _ h => h) (fun _ h => h.elim) ?aF ?aB ?aS ?aL ?_
            (case aR => exact (Kd.C_below bL.o HB.o))
            (case aB => exact HB.o)
            (case aF => exact (fun k_ hk => Kd.fresh' (Kd.R_lt aN.o) k_ hk))
            (case aO => exact aT.o)
            (case aS => exact (qAe HB.o))
            (case aL => have := b6.o; omega)
            intro an bO ho hb hg bH
            rw [← bN.o] at ho
            have n_ := a2 (qAH (g := aE) (o := .cells #[.slice aV l0_0.length aX, .int .i64 a0_1, .slice aW l0_2.length aY, .slice a4 l0_3.length aZ] 98 (0, 0)) aA.o hg (Kd.R_ne aT.o aA.o (by decide))) (a2 (qAH (g := aI) (o := .cells #[.slice none 0 0, .int .i64 0, .slice none 0 0, .slice none 0 0] 77 (0, 0)) aC.o hg (Kd.R_ne aT.o aC.o (by decide))) (a2 (Kd.R_after (ok := (fun _ => True)) (by exact Kd.R_mono aN.o (fun _ hk => ⟨trivial, hk⟩)) hg bH) (a2 (hb) (am (ho)))))
            clear aA aC aN HB aT
            obtain ⟨aA, aC, aN, HB, aQ⟩ := n_
            clear ho hb hg bH
            obtain ⟨bj, bl, bq⟩ := Kd.R_slice aQ.o
            (subst bq)
            refine hK.o _ _ (c4_ _ aA.o) (fun hHeld => ?_)
            clear hK K
            refine nm ?_
            refine pu 8 13 (mK 16 4095) (qA8 HT_.o (by kernel_rfl)) ?_
            exact nq (hJ0_4_9 (a9, .slice bj a5.length bl, a8) _ ⟨hHeld, aQ.o, (by exact Kd.R_mono aN.o (fun _ hk => hk.2)), aA.o, aC.o, HB.o⟩)
           ·skip
            refine qBp ?hg (N := 3) ?hd (cs := #[.slice none 0 0, .int .i64 0, .slice none 0 0, .slice none 0 0]) (t := 77) ?hr ?_; (case hd => rfl); (case hg => rfl); (case hr => (go_simp; done))
            intro aD hg bO hbox hb
            have n_ := a2 (Kd.R_below aT.o hb) (a2 (Kd.R_below aN.o hb) (a2 (qAd aA.o hb) (a2 (qAd aC.o hb) (a2 (qAj HB.o hb) (a2 (hbox) (a2 (by rw [hg]; exact (qAe HB.o) : w.heap.size ≤ aD) (a2 (by rw [hg]; exact (qAe HB.o) : w.heap.size ≤ aD) (a2 (by rw [hg]; exact Nat.ne_of_lt (qAw aA.o) : aE ≠ aD) (a2 (by rw [hg]; exact Nat.ne_of_gt (qAw aA.o) : aD ≠ aE) (a2 (by rw [hg]; exact Nat.ne_of_lt (qAw aC.o) : aI ≠ aD) (am (by rw [hg]; exact Nat.ne_of_gt (qAw aC.o) : aD ≠ aI))))))))))))
            clear aT aN aA aC HB
            obtain ⟨aT, aN, aA, aC, HB, aH, aa, a7, aG, aK, aJ, aM⟩ := n_
            clear hb hbox hg
            refine hK.o _ _ (c4_ _ aA.o) (fun hHeld => ?_)
            clear hK K
            refine nm ?_
            exact nq (hJ0_9_14 (a9, a8, aD) _ ⟨hHeld, aT.o, aN.o, aA.o, aC.o, aH.o, aa.o, a7.o, aG.o, aK.o, aJ.o, aM.o, HB.o⟩)
         ·skip
          rintro ⟨a9, an⟩ bS ⟨hS_, h0_, h1_, h2_, h3_⟩
          have n0_ : qAa (Kd.R (Kd.int .i64) 3 bS w.heap.size (fun _ => True) an a5) := ⟨h0_⟩
          have n1_ : qAa (bS.heap[aE]? = some (.cells #[.slice aV l0_0.length aX, .int .i64 a0_1, .slice aW l0_2.length aY, .slice a4 l0_3.length aZ] 98 (0, 0))) := ⟨h1_⟩
          have n2_ : qAa (bS.heap[aI]? = some (.cells #[.slice none 0 0, .int .i64 0, .slice none 0 0, .slice none 0 0] 77 (0, 0))) := ⟨h2_⟩
          have n3_ : qAa (Below w.heap.size w bS) := ⟨h3_⟩
          clear aA aC HB h0_ h1_ h2_ h3_
          have aQ := n0_
          have aA := n1_
          have aC := n2_
          have HB := n3_
          clear n0_ n1_ n2_ n3_
          obtain ⟨b3, b7, bp⟩ := Kd.R_slice aQ.o
          (subst bp)
          refine qBX (a' := ?_) ?_ ?_
          rotate_left
          ·simp only [qBx, Act.put, List.setIfInBounds_toArray, List.set_cons_zero, List.set_cons_succ]
           rfl
          refine two_ (i := 9) (j := 14) (Ni := some 14) (Nj := some 3) (mK 16 4095) (mK 16 19967) rfl rfl rfl rfl (qDb HT_.o (by kernel_rfl)) (by decide) (by decide) (fun K hK => ?_) (fun K hK => ?_)
          ·skip
           refine Kd.R_lit_step (Kd.int .i64) _ 3 ?hg (N := 14) ?hd (xs := ([] : List Int)) (inner := []) (ok := fun _ => True) (okp := fun _ => True) ?hr ?hp (fun _ hk => hk) trivial (Below.refl _ _) (Nat.le_refl _) (by simp) ?_; (case hd => rfl); (case hg => rfl); (case hr => (go_simp; done)); (case hp => exact (Reps.none _ _))
           intro a8 bi ho14 hb hg_ hnew_
           clear hg_ hnew_
           (rw [← bF.o] at ho14)
           have n_ := a2 (Kd.R_elder' aQ.o (Kd.R_base ho14) hb) (a2 (Kd.R_lower (Kd.R_new' ho14 (Kd.R_lt aQ.o)) (qAe HB.o)) (a2 (qAd aA.o hb) (a2 (qAd aC.o hb) (am (qAj HB.o hb)))))
           clear aQ aA aC HB
           obtain ⟨aQ, aN, aA, aC, HB⟩ := n_
           clear hb ho14
           refine hK.o _ _ (c4_ _ aA.o) (fun hHeld => ?_)
           clear hK K
           refine nm ?_
           exact nq (hJ0_4_9 (a9, .slice b3 a5.length b7, a8) _ ⟨hHeld, (by exact Kd.R_mono aQ.o (fun _ hk => hk.2)), (by exact Kd.R_mono aN.o (fun _ hk => hk.2)), aA.o, aC.o, HB.o⟩)
          ·skip
           refine qBp ?hg (N := 3) ?hd (cs := #[.slice none 0 0, .int .i64 0, .slice none 0 0, .slice none 0 0]) (t := 77) ?hr ?_; (case hd => rfl); (case hg => rfl); (case hr => (go_simp; done))
           intro aD hg bi hbox hb
           have n_ := a2 (Kd.R_below aQ.o hb) (a2 (qAd aA.o hb) (a2 (qAd aC.o hb) (a2 (qAj HB.o hb) (a2 (hbox) (a2 (by rw [hg]; exact (qAe HB.o) : w.heap.size ≤ aD) (a2 (by rw [hg]; exact (qAe HB.o) : w.heap.size ≤ aD) (a2 (by rw [hg]; exact Nat.ne_of_lt (qAw aA.o) : aE ≠ aD) (a2 (by rw [hg]; exact Nat.ne_of_gt (qAw aA.o) : aD ≠ aE) (a2 (by rw [hg]; exact Nat.ne_of_lt (qAw aC.o) : aI ≠ aD) (am (by rw [hg]; exact Nat.ne_of_gt (qAw aC.o) : aD ≠ aI)))))))))))
           clear aQ aA aC HB
           obtain ⟨aQ, aA, aC, HB, aH, aa, a7, aG, aK, aJ, aM⟩ := n_
           clear hb hbox hg
           refine hK.o _ _ (c4_ _ aA.o) (fun hHeld => ?_)
           clear hK K
           refine nm ?_
           exact nq (hJ0_4_14 (a9, .slice b3 a5.length b7, aD) _ ⟨hHeld, aQ.o, aA.o, aC.o, aH.o, aa.o, a7.o, aG.o, aK.o, aJ.o, aM.o, HB.o⟩)
        ·skip
         rintro ⟨a9, a8, aD⟩ bO ⟨hS_, h0_, h1_, h2_, h3_, h4_, h5_, h6_, h7_, h8_, h9_, h10_, h11_⟩
         have n0_ : qAa (Kd.R (Kd.int .i64) 3 bO w.heap.size (fun k_ => some k_ ≠ (a8 : Value).ownBlock) a9 aj) := ⟨h0_⟩
         have n1_ : qAa (Kd.R (Kd.int .i64) 3 bO w.heap.size (fun k_ => some k_ ≠ (a9 : Value).ownBlock) a8 af) := ⟨h1_⟩
         have n2_ : qAa (bO.heap[aE]? = some (.cells #[.slice aV l0_0.length aX, .int .i64 a0_1, .slice aW l0_2.length aY, .slice a4 l0_3.length aZ] 98 (0, 0))) := ⟨h2_⟩
         have n3_ : qAa (bO.heap[aI]? = some (.cells #[.slice none 0 0, .int .i64 0, .slice none 0 0, .slice none 0 0] 77 (0, 0))) := ⟨h3_⟩
         have n4_ : qAa (bO.heap[aD]? = some (.cells #[.slice none 0 0, .int .i64 0, .slice none 0 0, .slice none 0 0] 77 (0, 0))) := ⟨h4_⟩
         have n5_ : qAa (w.heap.size ≤ aD) := ⟨h5_⟩
         have n6_ : qAa (w.heap.size ≤ aD) := ⟨h6_⟩
         have n7_ : qAa (aE ≠ aD) := ⟨h7_⟩
         have n8_ : qAa (aD ≠ aE) := ⟨h8_⟩
         have n9_ : qAa (aI ≠ aD) := ⟨h9_⟩
         have n10_ : qAa (aD ≠ aI) := ⟨h10_⟩
         have n11_ : qAa (Below w.heap.size w bO) := ⟨h11_⟩
         clear aA aC HB h0_ h1_ h2_ h3_ h4_ h5_ h6_ h7_ h8_ h9_ h10_ h11_
         have aT := n0_
         have aN := n1_
         have aA := n2_
         have aC := n3_
         have aH := n4_
         have aa := n5_
         have a7 := n6_
         have aG := n7_
         have aK := n8_
         have aJ := n9_
         have aM := n10_
         have HB := n11_
         clear n0_ n1_ n2_ n3_ n4_ n5_ n6_ n7_ n8_ n9_ n10_ n11_
         refine qBX (a' := ?_) ?_ ?_
         rotate_left
         ·simp only [qBx, Act.put, List.setIfInBounds_toArray, List.set_cons_zero, List.set_cons_succ]
          rfl
         refine one_ (i := 4) (N := some 9) (mK 16 20223) rfl rfl (qBf HT_.o (by kernel_rfl)) (by decide) (fun K hK => ?_)
         refine Kd.R_append_rows_step (Kd.int .i64) (w0 := w) w.heap.size (by rfl) (.tmp 5) (.tmp 8) 72 3 (.int .i64 0) 8 rfl Try.underlying72 info3 rfl (by decide) (by omega) a9 aj l0_0 _ _ _ (fun k_ => some k_ ≠ (a8 : Value).ownBlock) (fun _ => False) rfl rfl ?aO ?aR (fun _ _ h => h) (fun _ h => h.elim) ?aF ?aB ?aS ?aL ?_
         (case aR => exact (Kd.C_below bL.o HB.o))
         (case aB => exact HB.o)
         (case aF => exact (fun k_ hk => Kd.fresh' (Kd.R_lt aN.o) k_ hk))
         (case aO => exact aT.o)
         (case aS => exact (qAe HB.o))
         (case aL => have := b6.o; omega)
         intro an bi ho hb hg bH
         rw [← bN.o] at ho
         have n_ := a2 (qAH (g := aE) (o := .cells #[.slice aV l0_0.length aX, .int .i64 a0_1, .slice aW l0_2.length aY, .slice a4 l0_3.length aZ] 98 (0, 0)) aA.o hg (Kd.R_ne aT.o aA.o (by decide))) (a2 (qAH (g := aI) (o := .cells #[.slice none 0 0, .int .i64 0, .slice none 0 0, .slice none 0 0] 77 (0, 0)) aC.o hg (Kd.R_ne aT.o aC.o (by decide))) (a2 (Kd.R_after (ok := (fun _ => True)) (by exact Kd.R_mono aN.o (fun _ hk => ⟨trivial, hk⟩)) hg bH) (a2 (qAH (g := aD) (o := .cells #[.slice none 0 0, .int .i64 0, .slice none 0 0, .slice none 0 0] 77 (0, 0)) aH.o hg (Kd.R_ne aT.o aH.o (by decide))) (a2 (hb) (am (ho))))))
         clear aA aC aN aH HB aT
         obtain ⟨aA, aC, aN, aH, HB, aQ⟩ := n_
         clear ho hb hg bH
         obtain ⟨bU, bW, br⟩ := Kd.R_slice aQ.o
         (subst br)
         refine hK.o _ _ (c4_ _ aA.o) (fun hHeld => ?_)
         clear hK K
         refine nm ?_
         refine pu 8 13 (mK 16 20479) (qA8 HT_.o (by kernel_rfl)) ?_
         exact nq (hJ0_4_9_14 (a9, .slice bU a5.length bW, a8, aD) _ ⟨hHeld, aQ.o, (by exact Kd.R_mono aN.o (fun _ hk => hk.2)), aA.o, aC.o, aH.o, aa.o, a7.o, aG.o, aK.o, aJ.o, aM.o, HB.o⟩)
       ·skip
        rintro ⟨a9, an, aD⟩ bO ⟨hS_, h0_, h1_, h2_, h3_, h4_, h5_, h6_, h7_, h8_, h9_, h10_⟩
        have n0_ : qAa (Kd.R (Kd.int .i64) 3 bO w.heap.size (fun _ => True) an a5) := ⟨h0_⟩
        have n1_ : qAa (bO.heap[aE]? = some (.cells #[.slice aV l0_0.length aX, .int .i64 a0_1, .slice aW l0_2.length aY, .slice a4 l0_3.length aZ] 98 (0, 0))) := ⟨h1_⟩
        have n2_ : qAa (bO.heap[aI]? = some (.cells #[.slice none 0 0, .int .i64 0, .slice none 0 0, .slice none 0 0] 77 (0, 0))) := ⟨h2_⟩
        have n3_ : qAa (bO.heap[aD]? = some (.cells #[.slice none 0 0, .int .i64 0, .slice none 0 0, .slice none 0 0] 77 (0, 0))) := ⟨h3_⟩
        have n4_ : qAa (w.heap.size ≤ aD) := ⟨h4_⟩
        have n5_ : qAa (w.heap.size ≤ aD) := ⟨h5_⟩
        have n6_ : qAa (aE ≠ aD) := ⟨h6_⟩
        have n7_ : qAa (aD ≠ aE) := ⟨h7_⟩
        have n8_ : qAa (aI ≠ aD) := ⟨h8_⟩
        have n9_ : qAa (aD ≠ aI) := ⟨h9_⟩
        have n10_ : qAa (Below w.heap.size w bO) := ⟨h10_⟩
        clear aA aC HB h0_ h1_ h2_ h3_ h4_ h5_ h6_ h7_ h8_ h9_ h10_
        have aQ := n0_
        have aA := n1_
        have aC := n2_
        have aH := n3_
        have aa := n4_
        have a7 := n5_
        have aG := n6_
        have aK := n7_
        have aJ := n8_
        have aM := n9_
        have HB := n10_
        clear n0_ n1_ n2_ n3_ n4_ n5_ n6_ n7_ n8_ n9_ n10_
        obtain ⟨bj, bl, bq⟩ := Kd.R_slice aQ.o
        (subst bq)
        refine qBX (a' := ?_) ?_ ?_
        rotate_left
        ·simp only [qBx, Act.put, List.setIfInBounds_toArray, List.set_cons_zero, List.set_cons_succ]
         rfl
        refine one_ (i := 9) (N := some 14) (mK 16 20479) rfl rfl (qBf HT_.o (by kernel_rfl)) (by decide) (fun K hK => ?_)
        refine Kd.R_lit_step (Kd.int .i64) _ 3 ?hg (N := 14) ?hd (xs := ([] : List Int)) (inner := []) (ok := fun _ => True) (okp := fun _ => True) ?hr ?hp (fun _ hk => hk) trivial (Below.refl _ _) (Nat.le_refl _) (by simp) ?_; (case hd => rfl); (case hg => rfl); (case hr => (go_simp; done)); (case hp => exact (Reps.none _ _))
        intro a8 cA ho15 hb hg_ hnew_
        clear hg_ hnew_
        (rw [← bF.o] at ho15)
        have n_ := a2 (Kd.R_elder' aQ.o (Kd.R_base ho15) hb) (a2 (Kd.R_lower (Kd.R_new' ho15 (Kd.R_lt aQ.o)) (qAe HB.o)) (a2 (qAd aA.o hb) (a2 (qAd aC.o hb) (a2 (qAd aH.o hb) (am (qAj HB.o hb))))))
        clear aQ aA aC aH HB
        obtain ⟨aQ, aN, aA, aC, aH, HB⟩ := n_
        clear hb ho15
        refine hK.o _ _ (c4_ _ aA.o) (fun hHeld => ?_)
        clear hK K
        refine nm ?_
        exact nq (hJ0_4_9_14 (a9, .slice bj a5.length bl, a8, aD) _ ⟨hHeld, (by exact Kd.R_mono aQ.o (fun _ hk => hk.2)), (by exact Kd.R_mono aN.o (fun _ hk => hk.2)), aA.o, aC.o, aH.o, aa.o, a7.o, aG.o, aK.o, aJ.o, aM.o, HB.o⟩)
      ·skip
       rintro ⟨a9, an, a8⟩ bi ⟨hS_, h0_, h1_, h2_, h3_, h4_⟩
       have n0_ : qAa (Kd.R (Kd.int .i64) 3 bi w.heap.size (fun k_ => some k_ ≠ (a8 : Value).ownBlock) an a5) := ⟨h0_⟩
       have n1_ : qAa (Kd.R (Kd.int .i64) 3 bi w.heap.size (fun k_ => some k_ ≠ (an : Value).ownBlock) a8 af) := ⟨h1_⟩
       have n2_ : qAa (bi.heap[aE]? = some (.cells #[.slice aV l0_0.length aX, .int .i64 a0_1, .slice aW l0_2.length aY, .slice a4 l0_3.length aZ] 98 (0, 0))) := ⟨h2_⟩
       have n3_ : qAa (bi.heap[aI]? = some (.cells #[.slice none 0 0, .int .i64 0, .slice none 0 0, .slice none 0 0] 77 (0, 0))) := ⟨h3_⟩
       have n4_ : qAa (Below w.heap.size w bi) := ⟨h4_⟩
       clear aA aC HB h0_ h1_ h2_ h3_ h4_
       have aQ := n0_
       have aN := n1_
       have aA := n2_
       have aC := n3_
       have HB := n4_
       clear n0_ n1_ n2_ n3_ n4_
       obtain ⟨bU, bW, br⟩ := Kd.R_slice aQ.o
       (subst br)
       refine qBX (a' := ?_) ?_ ?_
       rotate_left
       ·simp only [qBx, Act.put, List.setIfInBounds_toArray, List.set_cons_zero, List.set_cons_succ]
        rfl
       refine two_ (i := 12) (j := 14) (Ni := some 17) (Nj := some 3) (mK 16 8191) (mK 16 20479) rfl rfl rfl rfl (qDb HT_.o (by kernel_rfl)) (by decide) (by decide) (fun K hK => ?_) (fun K hK => ?_)
       ·skip
        refine Kd.R_append_rows_step (Kd.int .i64) (w0 := w) w.heap.size (by rfl) (.tmp 14) (.tmp 16) 72 3 (.int .i64 0) 8 rfl Try.underlying72 info3 rfl (by decide) (by omega) a8 af l0_2 _ _ _ (fun k_ => some k_ ≠ (.slice bU a5.length bW : Value).ownBlock) (fun _ => False) rfl rfl ?aO ?aR (fun _ _ h => h) (fun _ h => h.elim) ?aF ?aB ?aS ?aL ?_
        (case aR => exact (Kd.C_below bg.o HB.o))
        (case aB => exact HB.o)
        (case aF => exact (fun k_ hk => Kd.fresh' (Kd.R_lt aQ.o) k_ hk))
        (case aO => exact aN.o)
        (case aS => exact (qAe HB.o))
        (case aL => have := cG.o; omega)
        intro bJ cB ho hb hg bH
        rw [← bh.o] at ho
        have n_ := a2 (qAH (g := aE) (o := .cells #[.slice aV l0_0.length aX, .int .i64 a0_1, .slice aW l0_2.length aY, .slice a4 l0_3.length aZ] 98 (0, 0)) aA.o hg (Kd.R_ne aN.o aA.o (by decide))) (a2 (qAH (g := aI) (o := .cells #[.slice none 0 0, .int .i64 0, .slice none 0 0, .slice none 0 0] 77 (0, 0)) aC.o hg (Kd.R_ne aN.o aC.o (by decide))) (a2 (Kd.R_after (ok := (fun _ => True)) (by exact Kd.R_mono aQ.o (fun _ hk => ⟨trivial, hk⟩)) hg bH) (a2 (hb) (am (ho)))))
        clear aA aC aQ HB aN
        obtain ⟨aA, aC, aQ, HB, ak⟩ := n_
        clear ho hb hg bH
        obtain ⟨bk, bo, bs⟩ := Kd.R_slice ak.o
        (subst bs)
        refine hK.o _ _ (c4_ _ aA.o) (fun hHeld => ?_)
        clear hK K
        refine nm ?_
        refine pu 13 18 (mK 16 16383) (qA8 HT_.o (by kernel_rfl)) ?_
        exact nq (hJ0_4_9_12 (a9, .slice bU a5.length bW, a8, .slice bk ag.length bo) _ ⟨hHeld, (by exact Kd.R_mono aQ.o (fun _ hk => hk.2)), ak.o, aA.o, aC.o, HB.o⟩)
       ·skip
        refine qBp ?hg (N := 3) ?hd (cs := #[.slice none 0 0, .int .i64 0, .slice none 0 0, .slice none 0 0]) (t := 77) ?hr ?_; (case hd => rfl); (case hg => rfl); (case hr => (go_simp; done))
        intro aD hg cB hbox hb
        have n_ := a2 (Kd.R_below aQ.o hb) (a2 (Kd.R_below aN.o hb) (a2 (qAd aA.o hb) (a2 (qAd aC.o hb) (a2 (qAj HB.o hb) (a2 (hbox) (a2 (by rw [hg]; exact (qAe HB.o) : w.heap.size ≤ aD) (a2 (by rw [hg]; exact (qAe HB.o) : w.heap.size ≤ aD) (a2 (by rw [hg]; exact Nat.ne_of_lt (qAw aA.o) : aE ≠ aD) (a2 (by rw [hg]; exact Nat.ne_of_gt (qAw aA.o) : aD ≠ aE) (a2 (by rw [hg]; exact Nat.ne_of_lt (qAw aC.o) : aI ≠ aD) (am (by rw [hg]; exact Nat.ne_of_gt (qAw aC.o) : aD ≠ aI))))))))))))
        clear aQ aN aA aC HB
        obtain ⟨aQ, aN, aA, aC, HB, aH, aa, a7, aG, aK, aJ, aM⟩ := n_
        clear hb hbox hg
        refine hK.o _ _ (c4_ _ aA.o) (fun hHeld => ?_)
        clear hK K
        refine nm ?_
        exact nq (hJ0_4_9_14 (a9, .slice bU a5.length bW, a8, aD) _ ⟨hHeld, aQ.o, aN.o, aA.o, aC.o, aH.o, aa.o, a7.o, aG.o, aK.o, aJ.o, aM.o, HB.o⟩)
     ·skip
      rintro ⟨a9, an, a8, aD⟩ cA ⟨hS_, h0_, h1_, h2_, h3_, h4_, h5_, h6_, h7_, h8_, h9_, h10_, h11_⟩
      have n0_ : qAa (Kd.R (Kd.int .i64) 3 cA w.heap.size (fun k_ => some k_ ≠ (a8 : Value).ownBlock) an a5) := ⟨h0_⟩
      have n1_ : qAa (Kd.R (Kd.int .i64) 3 cA w.heap.size (fun k_ => some k_ ≠ (an : Value).ownBlock) a8 af) := ⟨h1_⟩
      have n2_ : qAa (cA.heap[aE]? = some (.cells #[.slice aV l0_0.length aX, .int .i64 a0_1, .slice aW l0_2.length aY, .slice a4 l0_3.length aZ] 98 (0, 0))) := ⟨h2_⟩
      have n3_ : qAa (cA.heap[aI]? = some (.cells #[.slice none 0 0, .int .i64 0, .slice none 0 0, .slice none 0 0] 77 (0, 0))) := ⟨h3_⟩
      have n4_ : qAa (cA.heap[aD]? = some (.cells #[.slice none 0 0, .int .i64 0, .slice none 0 0, .slice none 0 0] 77 (0, 0))) := ⟨h4_⟩
      have n5_ : qAa (w.heap.size ≤ aD) := ⟨h5_⟩
      have n6_ : qAa (w.heap.size ≤ aD) := ⟨h6_⟩
      have n7_ : qAa (aE ≠ aD) := ⟨h7_⟩
      have n8_ : qAa (aD ≠ aE) := ⟨h8_⟩
      have n9_ : qAa (aI ≠ aD) := ⟨h9_⟩
      have n10_ : qAa (aD ≠ aI) := ⟨h10_⟩
      have n11_ : qAa (Below w.heap.size w cA) := ⟨h11_⟩
      clear aA aC HB h0_ h1_ h2_ h3_ h4_ h5_ h6_ h7_ h8_ h9_ h10_ h11_
      have aQ := n0_
      have aN := n1_
      have aA := n2_
      have aC := n3_
      have aH := n4_
      have aa := n5_
      have a7 := n6_
      have aG := n7_
      have aK := n8_
      have aJ := n9_
      have aM := n10_
      have HB := n11_
      clear n0_ n1_ n2_ n3_ n4_ n5_ n6_ n7_ n8_ n9_ n10_ n11_
      obtain ⟨cD, cL, ch⟩ := Kd.R_slice aQ.o
      (subst ch)
      refine qBX (a' := ?_) ?_ ?_
      rotate_left
      ·simp only [qBx, Act.put, List.setIfInBounds_toArray, List.set_cons_zero, List.set_cons_succ]
       rfl
      refine one_ (i := 12) (N := some 17) (mK 16 24575) rfl rfl (qBf HT_.o (by kernel_rfl)) (by decide) (fun K hK => ?_)
      refine Kd.R_append_rows_step (Kd.int .i64) (w0 := w) w.heap.size (by rfl) (.tmp 14) (.tmp 16) 72 3 (.int .i64 0) 8 rfl Try.underlying72 info3 rfl (by decide) (by omega) a8 af l0_2 _ _ _ (fun k_ => some k_ ≠ (.slice cD a5.length cL : Value).ownBlock) (fun _ => False) rfl rfl ?aO ?aR (fun _ _ h => h) (fun _ h => h.elim) ?aF ?aB ?aS ?aL ?_
      (case aR => exact (Kd.C_below bg.o HB.o))
      (case aB => exact HB.o)
      (case aF => exact (fun k_ hk => Kd.fresh' (Kd.R_lt aQ.o) k_ hk))
      (case aO => exact aN.o)
      (case aS => exact (qAe HB.o))
      (case aL => have := cG.o; omega)
      intro bJ bK ho hb hg bH
      rw [← bh.o] at ho
      have n_ := a2 (qAH (g := aE) (o := .cells #[.slice aV l0_0.length aX, .int .i64 a0_1, .slice aW l0_2.length aY, .slice a4 l0_3.length aZ] 98 (0, 0)) aA.o hg (Kd.R_ne aN.o aA.o (by decide))) (a2 (qAH (g := aI) (o := .cells #[.slice none 0 0, .int .i64 0, .slice none 0 0, .slice none 0 0] 77 (0, 0)) aC.o hg (Kd.R_ne aN.o aC.o (by decide))) (a2 (Kd.R_after (ok := (fun _ => True)) (by exact Kd.R_mono aQ.o (fun _ hk => ⟨trivial, hk⟩)) hg bH) (a2 (qAH (g := aD) (o := .cells #[.slice none 0 0, .int .i64 0, .slice none 0 0, .slice none 0 0] 77 (0, 0)) aH.o hg (Kd.R_ne aN.o aH.o (by decide))) (a2 (hb) (am (ho))))))
      clear aA aC aQ aH HB aN
      obtain ⟨aA, aC, aQ, aH, HB, ak⟩ := n_
      clear ho hb hg bH
      obtain ⟨ah, ai, bX⟩ := Kd.R_slice ak.o
      (subst bX)
      refine hK.o _ _ (c4_ _ aA.o) (fun hHeld => ?_)
      clear hK K
      refine nm ?_
      refine pu 13 18 (mK 16 32767) (qA8 HT_.o (by kernel_rfl)) ?_
      exact nq (hJ0_4_9_12_14 (a9, .slice cD a5.length cL, a8, .slice ah ag.length ai, aD) _ ⟨hHeld, (by exact Kd.R_mono aQ.o (fun _ hk => hk.2)), ak.o, aA.o, aC.o, aH.o, aa.o, a7.o, aG.o, aK.o, aJ.o, aM.o, HB.o⟩)
    ·skip
     rintro ⟨a9, an, a8, bJ⟩ cB ⟨hS_, h0_, h1_, h2_, h3_, h4_⟩
     have n0_ : qAa (Kd.R (Kd.int .i64) 3 cB w.heap.size (fun k_ => some k_ ≠ (bJ : Value).ownBlock) an a5) := ⟨h0_⟩
     have n1_ : qAa (Kd.R (Kd.int .i64) 3 cB w.heap.size (fun k_ => some k_ ≠ (an : Value).ownBlock) bJ ag) := ⟨h1_⟩
     have n2_ : qAa (cB.heap[aE]? = some (.cells #[.slice aV l0_0.length aX, .int .i64 a0_1, .slice aW l0_2.length aY, .slice a4 l0_3.length aZ] 98 (0, 0))) := ⟨h2_⟩
     have n3_ : qAa (cB.heap[aI]? = some (.cells #[.slice none 0 0, .int .i64 0, .slice none 0 0, .slice none 0 0] 77 (0, 0))) := ⟨h3_⟩
     have n4_ : qAa (Below w.heap.size w cB) := ⟨h4_⟩
     clear aA aC HB h0_ h1_ h2_ h3_ h4_
     have aQ := n0_
     have ak := n1_
     have aA := n2_
     have aC := n3_
     have HB := n4_
     clear n0_ n1_ n2_ n3_ n4_
     obtain ⟨bk, bo, bs⟩ := Kd.R_slice aQ.o
     (subst bs)
     obtain ⟨ah, ai, bX⟩ := Kd.R_slice ak.o
     (subst bX)
     refine qBX (a' := ?_) ?_ ?_
     rotate_left
     ·simp only [qBx, Act.put, List.setIfInBounds_toArray, List.set_cons_zero, List.set_cons_succ]
      rfl
     refine one_ (i := 14) (N := some 3) (mK 16 32767) rfl rfl (qBf HT_.o (by kernel_rfl)) (by decide) (fun K hK => ?_)
     refine qBp ?hg (N := 3) ?hd (cs := #[.slice none 0 0, .int .i64 0, .slice none 0 0, .slice none 0 0]) (t := 77) ?hr ?_; (case hd => rfl); (case hg => rfl); (case hr => (go_simp; done))
     intro aD hg ct hbox hb
     have n_ := a2 (Kd.R_below aQ.o hb) (a2 (Kd.R_below ak.o hb) (a2 (qAd aA.o hb) (a2 (qAd aC.o hb) (a2 (qAj HB.o hb) (a2 (hbox) (a2 (by rw [hg]; exact (qAe HB.o) : w.heap.size ≤ aD) (a2 (by rw [hg]; exact (qAe HB.o) : w.heap.size ≤ aD) (a2 (by rw [hg]; exact Nat.ne_of_lt (qAw aA.o) : aE ≠ aD) (a2 (by rw [hg]; exact Nat.ne_of_gt (qAw aA.o) : aD ≠ aE) (a2 (by rw [hg]; exact Nat.ne_of_lt (qAw aC.o) : aI ≠ aD) (am (by rw [hg]; exact Nat.ne_of_gt (qAw aC.o) : aD ≠ aI))))))))))))
     clear aQ ak aA aC HB
     obtain ⟨aQ, ak, aA, aC, HB, aH, aa, a7, aG, aK, aJ, aM⟩ := n_
     clear hb hbox hg
     refine hK.o _ _ (c4_ _ aA.o) (fun hHeld => ?_)
     clear hK K
     refine nm ?_
     exact nq (hJ0_4_9_12_14 (a9, .slice bk a5.length bo, a8, .slice ah ag.length ai, aD) _ ⟨hHeld, aQ.o, ak.o, aA.o, aC.o, aH.o, aa.o, a7.o, aG.o, aK.o, aJ.o, aM.o, HB.o⟩)
   rintro ⟨a9, an, a8, bJ, aD⟩ bK ⟨hS_, h0_, h1_, h2_, h3_, h4_, h5_, h6_, h7_, h8_, h9_, h10_, h11_⟩
   have n0_ : qAa (Kd.R (Kd.int .i64) 3 bK w.heap.size (fun k_ => some k_ ≠ (bJ : Value).ownBlock) an a5) := ⟨h0_⟩
   have n1_ : qAa (Kd.R (Kd.int .i64) 3 bK w.heap.size (fun k_ => some k_ ≠ (an : Value).ownBlock) bJ ag) := ⟨h1_⟩
   have n2_ : qAa (bK.heap[aE]? = some (.cells #[.slice aV l0_0.length aX, .int .i64 a0_1, .slice aW l0_2.length aY, .slice a4 l0_3.length aZ] 98 (0, 0))) := ⟨h2_⟩
   have n3_ : qAa (bK.heap[aI]? = some (.cells #[.slice none 0 0, .int .i64 0, .slice none 0 0, .slice none 0 0] 77 (0, 0))) := ⟨h3_⟩
   have n4_ : qAa (bK.heap[aD]? = some (.cells #[.slice none 0 0, .int .i64 0, .slice none 0 0, .slice none 0 0] 77 (0, 0))) := ⟨h4_⟩
   have n5_ : qAa (w.heap.size ≤ aD) := ⟨h5_⟩
   have n6_ : qAa (w.heap.size ≤ aD) := ⟨h6_⟩
   have n7_ : qAa (aE ≠ aD) := ⟨h7_⟩
   have n8_ : qAa (aD ≠ aE) := ⟨h8_⟩
   have n9_ : qAa (aI ≠ aD) := ⟨h9_⟩
   have n10_ : qAa (aD ≠ aI) := ⟨h10_⟩
   have n11_ : qAa (Below w.heap.size w bK) := ⟨h11_⟩
   clear aA aC HB h0_ h1_ h2_ h3_ h4_ h5_ h6_ h7_ h8_ h9_ h10_ h11_
   have aQ := n0_
   have ak := n1_
   have aA := n2_
   have aC := n3_
   have aH := n4_
   have a7 := n6_
   have aG := n7_
   have aJ := n9_
   have HB := n11_
   clear n0_ n1_ n2_ n3_ n4_ n5_ n6_ n7_ n8_ n9_ n10_ n11_
   have hHeld : bK.cell? ⟨aE, 0, none⟩ = some (.slice aV l0_0.length aX) ∧ bK.cell? ⟨aE, 1, none⟩ = some (.int .i64 a0_1) ∧ bK.cell? ⟨aE, 2, none⟩ = some (.slice aW l0_2.length aY) ∧ bK.cell? ⟨aE, 3, none⟩ = some (.slice a4 l0_3.length aZ) := hS_
   obtain ⟨ah, ai, bX⟩ := Kd.R_slice aQ.o
   (subst bX)
   obtain ⟨ap, aq, ci⟩ := Kd.R_slice ak.o
   (subst ci)
   refine qBX (a' := ?_) ?_ ?_
   rotate_left
   ·simp only [qBx, Act.put, List.setIfInBounds_toArray, List.set_cons_zero, List.set_cons_succ]
    rfl
   refine one_ (i := 15) (N := none) (mK 16 65535) rfl rfl (qBf HT_.o (by kernel_rfl)) (by decide) (fun K hK => ?_)
   have hs19 := c1_ bK aH.o
   have hfs19 := qAr aH.o 0
   obtain ⟨-, hs20⟩ := c2_ bK aH.o
   have hfs20 := qAr aH.o 1
   obtain ⟨-, -, hs21⟩ := c3_ bK aH.o
   have hfs21 := qAr aH.o 2
   obtain ⟨-, -, -, hs22⟩ := c4_ bK aH.o
   have hfs22 := qAr aH.o 3
   refine skip_ (w1 := ?_) (by rfl) rfl ?_ ?_
   rotate_left
   ·go_simp
    rfl
   refine hK.o _ _ ⟨((qA0 (p := ⟨aD, _, none⟩) aG.o _).trans ((qA0 (p := ⟨aD, _, none⟩) aG.o _).trans ((qA0 (p := ⟨aD, _, none⟩) aG.o _).trans ((qA0 (p := ⟨aD, _, none⟩) aG.o _).trans (hHeld.1))))), ((qA0 (p := ⟨aD, _, none⟩) aG.o _).trans ((qA0 (p := ⟨aD, _, none⟩) aG.o _).trans ((qA0 (p := ⟨aD, _, none⟩) aG.o _).trans ((qA0 (p := ⟨aD, _, none⟩) aG.o _).trans (hHeld.2.1))))), ((qA0 (p := ⟨aD, _, none⟩) aG.o _).trans ((qA0 (p := ⟨aD, _, none⟩) aG.o _).trans ((qA0 (p := ⟨aD, _, none⟩) aG.o _).trans ((qA0 (p := ⟨aD, _, none⟩) aG.o _).trans (hHeld.2.2.1))))), ((qA0 (p := ⟨aD, _, none⟩) aG.o _).trans ((qA0 (p := ⟨aD, _, none⟩) aG.o _).trans ((qA0 (p := ⟨aD, _, none⟩) aG.o _).trans ((qA0 (p := ⟨aD, _, none⟩) aG.o _).trans (hHeld.2.2.2)))))⟩ (fun hHeld => ?_)
   clear hK K
   refine qE1 (qCk HT_.o (by kernel_rfl)) ?_
   try go_wp2
   go_loopg [4] k (fun kq v4 w' => ∃ (aU : Int) (ac : List (S115)) (al : Value), v4 = .int .i64 aU ∧ qAa (qAm.l0 kq aU l0_0 a0_1 l0_2 l0_3 a5 a0_1 ag ac = some (r1, r2, r3, r4)) ∧ qAa (kq ≤ k) ∧ qAa (Kd.R (Kd.int .i64) 3 w' w.heap.size (fun k_ => some k_ ≠ ((.slice ap ag.length aq) : Value).ownBlock) (.slice ah a5.length ai) a5) ∧ qAa (Kd.R (Kd.int .i64) 3 w' w.heap.size (fun k_ => some k_ ≠ ((.slice ah a5.length ai) : Value).ownBlock) (.slice ap ag.length aq) ag) ∧ qAa (Kd.R k115 115 w' w.heap.size (fun _ => True) al ac) ∧ qAa (w'.heap[aE]? = some (.cells #[(.slice aV l0_0.length aX), .int .i64 a0_1, (.slice aW l0_2.length aY), (.slice a4 l0_3.length aZ)] 98 (0, 0))) ∧ qAa (w'.heap[aI]? = some (.cells #[(.slice none 0 0), .int .i64 0, (.slice none 0 0), (.slice none 0 0)] 77 (0, 0))) ∧ qAa (w'.heap[aD]? = some (.cells #[(.slice ah a5.length ai), .int .i64 a0_1, (.slice ap ag.length aq), al] 77 (0, 0))) ∧ qAa (Below w.heap.size w w'))
   case atStart => exact ⟨(0), ([] : List (S115)), (.slice none 0 0), (by rfl), H', ⟨Nat.le_refl _⟩, ⟨by exact Kd.R_mono (Kd.R_far (p := ⟨aD, 3, none⟩) (Kd.R_far (p := ⟨aD, 2, none⟩) (Kd.R_far (p := ⟨aD, 1, none⟩) (Kd.R_far (p := ⟨aD, 0, none⟩) (Kd.R_types aQ.o aH.o (by decide)) (fun _ hk => hk.2) (.slice ah a5.length ai)) (fun _ hk => hk.2) (.int .i64 a0_1)) (fun _ hk => hk.2) (.slice ap ag.length aq)) (fun _ hk => hk.2) (.slice none 0 0)) (fun _ hk => hk.1)⟩, ⟨by exact Kd.R_mono (Kd.R_far (p := ⟨aD, 3, none⟩) (Kd.R_far (p := ⟨aD, 2, none⟩) (Kd.R_far (p := ⟨aD, 1, none⟩) (Kd.R_far (p := ⟨aD, 0, none⟩) (Kd.R_types ak.o aH.o (by decide)) (fun _ hk => hk.2) (.slice ah a5.length ai)) (fun _ hk => hk.2) (.int .i64 a0_1)) (fun _ hk => hk.2) (.slice ap ag.length aq)) (fun _ hk => hk.2) (.slice none 0 0)) (fun _ hk => hk.1)⟩, ⟨by (exact Kd.R_nil _ _ _ _ _)⟩, ⟨by refine qAg ?_ aG.o _; refine qAg ?_ aG.o _; refine qAg ?_ aG.o _; refine qAg ?_ aG.o _; exact aA.o⟩, ⟨by refine qAg ?_ aJ.o _; refine qAg ?_ aJ.o _; refine qAg ?_ aJ.o _; refine qAg ?_ aJ.o _; exact aC.o⟩, ⟨by refine qAo (cs := #[.slice ah a5.length ai, .int .i64 a0_1, .slice ap ag.length aq, .slice none 0 0]) ?_ 3 _ rfl; refine qAo (cs := #[.slice ah a5.length ai, .int .i64 a0_1, .slice none 0 0, .slice none 0 0]) ?_ 2 _ rfl; refine qAo (cs := #[.slice ah a5.length ai, .int .i64 0, .slice none 0 0, .slice none 0 0]) ?_ 1 _ rfl; refine qAo (cs := #[.slice none 0 0, .int .i64 0, .slice none 0 0, .slice none 0 0]) ?_ 0 _ rfl; exact aH.o⟩, ⟨by repeat (with_reducible first | exact HB.o | refine qAq ?_ a7.o)⟩⟩
   case round =>
    clear H'
    obtain ⟨aU, ac, al, rfl, HA, cp, ad, ae, a6, aA, aC, aH, HB⟩ := hrel
    cases gk with
    | zero => exact absurd HA.o (by simp [qAm.l0])
    | succ k1 =>
     have H := HA.o
     clear HA
     simp only [qAm.l0] at H
     by_cases cC : aU < (l0_3.length : Int)
     rotate_left
     ·rw [if_neg cC] at H
      replace cC := d0 cC
      simp only [Option.some.injEq, Prod.mk.injEq] at H
      obtain ⟨rfl, rfl, rfl, rfl⟩ := H
      obtain ⟨-, -, -, cP⟩ := c4_ wr aA.o
      obtain ⟨cQ, cR, cS, cT⟩ := c4_ wr aH.o
      obtain ⟨cU, cV, cW, cX⟩ := c4_ wr aC.o
      obtain ⟨cY, cZ, c0, c1⟩ := z4_ aC.o
      obtain ⟨b5, b9, ck⟩ := Kd.R_slice a6.o
      subst ck
      go_wp2
      refine bodyPost_ret (results_cell_row rfl _ _ aI 77 #[.slice ah a5.length ai, .int .i64 a0_1, .slice ap ag.length aq, .slice b5 ac.length b9] (0, 0) _ rfl (by refine qAo (cs := #[.slice ah a5.length ai, .int .i64 a0_1, .slice ap ag.length aq, .slice none 0 0]) ?_ 3 _ rfl; refine qAo (cs := #[.slice ah a5.length ai, .int .i64 a0_1, .slice none 0 0, .slice none 0 0]) ?_ 2 _ rfl; refine qAo (cs := #[.slice ah a5.length ai, .int .i64 0, .slice none 0 0, .slice none 0 0]) ?_ 1 _ rfl; refine qAo (cs := #[.slice none 0 0, .int .i64 0, .slice none 0 0, .slice none 0 0]) ?_ 0 _ rfl; exact aC.o) Try.underlying77 rfl (by kernel_rfl)) rfl ?_
      exact ⟨_, _, _, by rfl, by exact Kd.R_mono (Kd.R_far (p := ⟨aI, 3, none⟩) (Kd.R_far (p := ⟨aI, 2, none⟩) (Kd.R_far (p := ⟨aI, 1, none⟩) (Kd.R_far (p := ⟨aI, 0, none⟩) (Kd.R_types ad.o aC.o (by decide)) (fun _ hk => hk.2) (.slice ah a5.length ai)) (fun _ hk => hk.2) (.int .i64 a0_1)) (fun _ hk => hk.2) (.slice ap ag.length aq)) (fun _ hk => hk.2) (.slice b5 ac.length b9)) (fun _ hk => hk.1), by exact Kd.R_mono (Kd.R_far (p := ⟨aI, 3, none⟩) (Kd.R_far (p := ⟨aI, 2, none⟩) (Kd.R_far (p := ⟨aI, 1, none⟩) (Kd.R_far (p := ⟨aI, 0, none⟩) (Kd.R_types ae.o aC.o (by decide)) (fun _ hk => hk.2) (.slice ah a5.length ai)) (fun _ hk => hk.2) (.int .i64 a0_1)) (fun _ hk => hk.2) (.slice ap ag.length aq)) (fun _ hk => hk.2) (.slice b5 ac.length b9)) (fun _ hk => hk.1), by exact Kd.R_mono (Kd.R_far (p := ⟨aI, 3, none⟩) (Kd.R_far (p := ⟨aI, 2, none⟩) (Kd.R_far (p := ⟨aI, 1, none⟩) (Kd.R_far (p := ⟨aI, 0, none⟩) (Kd.R_types a6.o aC.o (by decide)) (fun _ hk => hk.2) (.slice ah a5.length ai)) (fun _ hk => hk.2) (.int .i64 a0_1)) (fun _ hk => hk.2) (.slice ap ag.length aq)) (fun _ hk => hk.2) (.slice b5 ac.length b9)) (fun _ hk => trivial), by repeat (with_reducible first | exact HB.o | refine qAq ?_ cE.o)⟩
     rw [if_pos cC] at H
     replace cC := d1 cC
     obtain ⟨cM, H⟩ := gd H
     replace cM := d1 cM
     obtain ⟨cN, H⟩ := gd H
     have cF := am cN
     clear cN
     obtain ⟨bT, b2⟩ : ∃ y_ : List (S115), y_ = (ac ++ [(⟨(qAX l0_3 aU).f0, (qAX l0_3 aU).f1, (⟨(qAX l0_3 aU).f2.f0, (qAX l0_3 aU).f2.f1⟩ : S69)⟩ : S115)]) := ⟨_, rfl⟩
     replace H : (qAm.l0 k1 (wrap64 (aU + 1)) l0_0 a0_1 l0_2 l0_3 a5 a0_1 ag bT) = some (r1, r2, r3, r4) := by (rw [b2]; with_reducible exact H)
     have cH := am b2
     clear b2
     have H' := am H
     clear H
     obtain ⟨-, -, -, cO⟩ := c4_ wr aA.o
     try go_wp2
     have n_ := a2 (Kd.R_drew ad.o) (a2 (Kd.R_drew ae.o) (a2 (Kd.R_drew a6.o) (a2 (qAU aA.o) (a2 (qAU aC.o) (a2 (qAU aH.o) (am (qBi HB.o)))))))
     clear ad ae a6 aA aC aH HB
     obtain ⟨ad, ae, a6, aA, aC, aH, HB⟩ := n_
     have bw : 0 ≤ aU := od (by assumption)
     have bz : aU < (l0_3.length : Int) := od (by assumption)
     obtain ⟨ab, cd, ar, au, av, aw⟩ := at_T150 bV.o aU bw bz
     have hw376_3 := aw
     have hw376_2 := av
     have hw376_1 := au
     have hw376_0 := ar
     cases cd
     replace ar := (HB.o.cell (World.block_lt_of_cell? w _ ar)).trans ar
     replace au := (HB.o.cell (World.block_lt_of_cell? w _ au)).trans au
     replace av := (HB.o.cell (World.block_lt_of_cell? w _ av)).trans av
     replace aw := (HB.o.cell (World.block_lt_of_cell? w _ aw)).trans aw
     replace bw := eq_true bw
     replace bz := eq_true bz
     have cl : 0 ≤ aU := od (by assumption)
     have cn : aU < (l0_3.length : Int) := od (by assumption)
     obtain ⟨cI, ce, ax, ay, az, bA⟩ := at_T150 bV.o aU cl cn
     have hw377_3 := bA
     have hw377_2 := az
     have hw377_1 := ay
     have hw377_0 := ax
     obtain rfl : ab = cI := (by injection ce)
     replace ax := (HB.o.cell (World.block_lt_of_cell? w _ ax)).trans ax
     replace ay := (HB.o.cell (World.block_lt_of_cell? w _ ay)).trans ay
     replace az := (HB.o.cell (World.block_lt_of_cell? w _ az)).trans az
     replace bA := (HB.o.cell (World.block_lt_of_cell? w _ bA)).trans bA
     have cm : 0 ≤ aU := od (by assumption)
     have co : aU < (l0_3.length : Int) := od (by assumption)
     obtain ⟨cJ, cf, bB, bC, bD, bE⟩ := at_T150 bV.o aU cm co
     have hw378_3 := bE
     have hw378_2 := bD
     have hw378_1 := bC
     have hw378_0 := bB
     obtain rfl : ab = cJ := (by injection cf)
     replace bB := (HB.o.cell (World.block_lt_of_cell? w _ bB)).trans bB
     replace bC := (HB.o.cell (World.block_lt_of_cell? w _ bC)).trans bC
     replace bD := (HB.o.cell (World.block_lt_of_cell? w _ bD)).trans bD
     replace bE := (HB.o.cell (World.block_lt_of_cell? w _ bE)).trans bE
     refine qCY (n := 25) (S := fun w' => w'.cell? ⟨aD, 0, none⟩ = some (.slice ah a5.length ai) ∧ w'.cell? ⟨aD, 1, none⟩ = some (.int .i64 a0_1) ∧ w'.cell? ⟨aD, 2, none⟩ = some (.slice ap ag.length aq) ∧ w'.cell? ⟨aD, 3, none⟩ = some (al) ∧ w'.cell? ⟨aE, 0, none⟩ = some (.slice aV l0_0.length aX) ∧ w'.cell? ⟨aE, 1, none⟩ = some (.int .i64 a0_1) ∧ w'.cell? ⟨aE, 2, none⟩ = some (.slice aW l0_2.length aY) ∧ w'.cell? ⟨aE, 3, none⟩ = some (.slice (some ab) l0_3.length aZ) ∧ w'.cell? (ab.add ((aU).toNat * 4)) = some (.int .i64 ((qAX l0_3 aU).f0)) ∧ w'.cell? ⟨(ab.add ((aU).toNat * 4)).block, (ab.add ((aU).toNat * 4)).off + 1, none⟩ = some (.int .i64 ((qAX l0_3 aU).f1)) ∧ w'.cell? ⟨(ab.add ((aU).toNat * 4)).block, (ab.add ((aU).toNat * 4)).off + 2, none⟩ = some (.int .i64 ((qAX l0_3 aU).f2.f0)) ∧ w'.cell? ⟨(ab.add ((aU).toNat * 4)).block, (ab.add ((aU).toNat * 4)).off + 3, none⟩ = some (.int .u64 ((qAX l0_3 aU).f2.f1)) ∧ w'.cell? (ab.add ((aU).toNat * 4)) = some (.int .i64 ((qAX l0_3 aU).f0)) ∧ w'.cell? ⟨(ab.add ((aU).toNat * 4)).block, (ab.add ((aU).toNat * 4)).off + 1, none⟩ = some (.int .i64 ((qAX l0_3 aU).f1)) ∧ w'.cell? ⟨(ab.add ((aU).toNat * 4)).block, (ab.add ((aU).toNat * 4)).off + 2, none⟩ = some (.int .i64 ((qAX l0_3 aU).f2.f0)) ∧ w'.cell? ⟨(ab.add ((aU).toNat * 4)).block, (ab.add ((aU).toNat * 4)).off + 3, none⟩ = some (.int .u64 ((qAX l0_3 aU).f2.f1)) ∧ w'.cell? (ab.add ((aU).toNat * 4)) = some (.int .i64 ((qAX l0_3 aU).f0)) ∧ w'.cell? ⟨(ab.add ((aU).toNat * 4)).block, (ab.add ((aU).toNat * 4)).off + 1, none⟩ = some (.int .i64 ((qAX l0_3 aU).f1)) ∧ w'.cell? ⟨(ab.add ((aU).toNat * 4)).block, (ab.add ((aU).toNat * 4)).off + 2, none⟩ = some (.int .i64 ((qAX l0_3 aU).f2.f0)) ∧ w'.cell? ⟨(ab.add ((aU).toNat * 4)).block, (ab.add ((aU).toNat * 4)).off + 3, none⟩ = some (.int .u64 ((qAX l0_3 aU).f2.f1))) (ds := [24]) (mK 25 0) (by kernel_rfl) rfl rfl ⟨(qAb aH.o 0).trans rfl, (qAb aH.o 1).trans rfl, (qAb aH.o 2).trans rfl, (qAb aH.o 3).trans rfl, (qAb aA.o 0).trans rfl, (qAb aA.o 1).trans rfl, (qAb aA.o 2).trans rfl, (qAb aA.o 3).trans rfl, ((HB.o.cell (World.block_lt_of_cell? w _ hw376_0)).trans hw376_0), ((HB.o.cell (World.block_lt_of_cell? w _ hw376_1)).trans hw376_1), ((HB.o.cell (World.block_lt_of_cell? w _ hw376_2)).trans hw376_2), ((HB.o.cell (World.block_lt_of_cell? w _ hw376_3)).trans hw376_3), ((HB.o.cell (World.block_lt_of_cell? w _ hw377_0)).trans hw377_0), ((HB.o.cell (World.block_lt_of_cell? w _ hw377_1)).trans hw377_1), ((HB.o.cell (World.block_lt_of_cell? w _ hw377_2)).trans hw377_2), ((HB.o.cell (World.block_lt_of_cell? w _ hw377_3)).trans hw377_3), ((HB.o.cell (World.block_lt_of_cell? w _ hw378_0)).trans hw378_0), ((HB.o.cell (World.block_lt_of_cell? w _ hw378_1)).trans hw378_1), ((HB.o.cell (World.block_lt_of_cell? w _ hw378_2)).trans hw378_2), ((HB.o.cell (World.block_lt_of_cell? w _ hw378_3)).trans hw378_3)⟩ (fun hHeld => ?_); refine qB8 qAm.tab5 qAm.bits5 (fun HT_ HW_ => ?_)
     generalize wr.drew = cu at ad ae a6 aA aC aH HB ar au av aw ax ay az bA bB bC bD bE hHeld ⊢
     refine pu 0 26 (mK 25 1) (qA8 HT_.o (by kernel_rfl)) ?_
     refine pu 2 28 (mK 25 5) (qA8 HT_.o (by kernel_rfl)) ?_
     refine pu 4 30 (mK 25 21) (qA8 HT_.o (by kernel_rfl)) ?_
     refine pu 8 34 (mK 25 277) (qA8 HT_.o (by kernel_rfl)) ?_
     refine pu 10 36 (mK 25 1301) (qA8 HT_.o (by kernel_rfl)) ?_
     refine pu 14 40 (mK 25 17685) (qA8 HT_.o (by kernel_rfl)) ?_
     refine pu 16 42 (mK 25 83221) (qA8 HT_.o (by kernel_rfl)) ?_
     refine tk 1 27 (mK 25 83223) (qAQ HT_.o HW_.o (by kernel_rfl)) hHeld ?_
     refine tk 3 29 (mK 25 83231) (qAQ HT_.o HW_.o (by kernel_rfl)) hHeld ?_
     refine pu 5 31 (mK 25 83263) (qA8 HT_.o (by kernel_rfl)) ?_
     refine pu 6 32 (mK 25 83327) (qA8 HT_.o (by kernel_rfl)) ?_
     refine tk 7 33 (mK 25 83455) (qAQ HT_.o HW_.o (by kernel_rfl)) hHeld ?_
     refine tk 9 35 (mK 25 83967) (qAQ HT_.o HW_.o (by kernel_rfl)) hHeld ?_
     refine pu 11 37 (mK 25 86015) (qA8 HT_.o (by kernel_rfl)) ?_
     refine pu 12 38 (mK 25 90111) (qA8 HT_.o (by kernel_rfl)) ?_
     refine tk 13 39 (mK 25 98303) (qAQ HT_.o HW_.o (by kernel_rfl)) hHeld ?_
     refine tk 15 41 (mK 25 131071) (qAQ HT_.o HW_.o (by kernel_rfl)) hHeld ?_
     refine pu 17 43 (mK 25 262143) (qA8 HT_.o (by kernel_rfl)) ?_
     refine pu 18 44 (mK 25 524287) (qA8 HT_.o (by kernel_rfl)) ?_
     refine tk 19 45 (mK 25 1048575) (qAQ HT_.o HW_.o (by kernel_rfl)) hHeld ?_
     refine pu 20 46 (mK 25 2097151) (qA8 HT_.o (by kernel_rfl)) ?_
     refine one_ (i := 21) (N := some 47) (mK 25 4194303) rfl rfl (qBf HT_.o (by kernel_rfl)) (by decide) (fun K hK => ?_)
     refine value_ (w1 := ?_) (v := ?_) (by rfl) rfl ?_ ?_
     rotate_left 2
     ·go_simp
      constructor
      ·rfl
      rfl
     refine hK.o _ _ ⟨(qAb (qAE aH.o _) 0).trans rfl, (qAb (qAE aH.o _) 1).trans rfl, (qAb (qAE aH.o _) 2).trans rfl, (qAb (qAE aH.o _) 3).trans rfl, (qAb (qAE aA.o _) 0).trans rfl, (qAb (qAE aA.o _) 1).trans rfl, (qAb (qAE aA.o _) 2).trans rfl, (qAb (qAE aA.o _) 3).trans rfl, (World.cell?_alloc_lt _ _ _ (World.block_lt_of_cell? _ _ ((HB.o.cell (World.block_lt_of_cell? w _ hw376_0)).trans hw376_0))).trans ((HB.o.cell (World.block_lt_of_cell? w _ hw376_0)).trans hw376_0), (World.cell?_alloc_lt _ _ _ (World.block_lt_of_cell? _ _ ((HB.o.cell (World.block_lt_of_cell? w _ hw376_1)).trans hw376_1))).trans ((HB.o.cell (World.block_lt_of_cell? w _ hw376_1)).trans hw376_1), (World.cell?_alloc_lt _ _ _ (World.block_lt_of_cell? _ _ ((HB.o.cell (World.block_lt_of_cell? w _ hw376_2)).trans hw376_2))).trans ((HB.o.cell (World.block_lt_of_cell? w _ hw376_2)).trans hw376_2), (World.cell?_alloc_lt _ _ _ (World.block_lt_of_cell? _ _ ((HB.o.cell (World.block_lt_of_cell? w _ hw376_3)).trans hw376_3))).trans ((HB.o.cell (World.block_lt_of_cell? w _ hw376_3)).trans hw376_3), (World.cell?_alloc_lt _ _ _ (World.block_lt_of_cell? _ _ ((HB.o.cell (World.block_lt_of_cell? w _ hw377_0)).trans hw377_0))).trans ((HB.o.cell (World.block_lt_of_cell? w _ hw377_0)).trans hw377_0), (World.cell?_alloc_lt _ _ _ (World.block_lt_of_cell? _ _ ((HB.o.cell (World.block_lt_of_cell? w _ hw377_1)).trans hw377_1))).trans ((HB.o.cell (World.block_lt_of_cell? w _ hw377_1)).trans hw377_1), (World.cell?_alloc_lt _ _ _ (World.block_lt_of_cell? _ _ ((HB.o.cell (World.block_lt_of_cell? w _ hw377_2)).trans hw377_2))).trans ((HB.o.cell (World.block_lt_of_cell? w _ hw377_2)).trans hw377_2), (World.cell?_alloc_lt _ _ _ (World.block_lt_of_cell? _ _ ((HB.o.cell (World.block_lt_of_cell? w _ hw377_3)).trans hw377_3))).trans ((HB.o.cell (World.block_lt_of_cell? w _ hw377_3)).trans hw377_3), (World.cell?_alloc_lt _ _ _ (World.block_lt_of_cell? _ _ ((HB.o.cell (World.block_lt_of_cell? w _ hw378_0)).trans hw378_0))).trans ((HB.o.cell (World.block_lt_of_cell? w _ hw378_0)).trans hw378_0), (World.cell?_alloc_lt _ _ _ (World.block_lt_of_cell? _ _ ((HB.o.cell (World.block_lt_of_cell? w _ hw378_1)).trans hw378_1))).trans ((HB.o.cell (World.block_lt_of_cell? w _ hw378_1)).trans hw378_1), (World.cell?_alloc_lt _ _ _ (World.block_lt_of_cell? _ _ ((HB.o.cell (World.block_lt_of_cell? w _ hw378_2)).trans hw378_2))).trans ((HB.o.cell (World.block_lt_of_cell? w _ hw378_2)).trans hw378_2), (World.cell?_alloc_lt _ _ _ (World.block_lt_of_cell? _ _ ((HB.o.cell (World.block_lt_of_cell? w _ hw378_3)).trans hw378_3))).trans ((HB.o.cell (World.block_lt_of_cell? w _ hw378_3)).trans hw378_3)⟩ (fun hHeld => ?_)
     clear hK K
     refine nm ?_
     refine one_ (i := 22) (N := some 48) (mK 25 8388607) rfl rfl (qBf HT_.o (by kernel_rfl)) (by decide) (fun K hK => ?_)
     refine Kd.R_append_step k115 (w0 := w) w.heap.size (by rfl) (.tmp 27) (.tmp 47) 75 115 (.agg #[(.int .i64 0), (.int .i64 0), (.int .i64 0), (.int .u64 0)]) 32 rfl Try.underlying75 info115 rfl (by decide) (by omega) al ac (⟨(qAX l0_3 aU).f0, (qAX l0_3 aU).f1, (⟨(qAX l0_3 aU).f2.f0, (qAX l0_3 aU).f2.f1⟩ : S69)⟩ : S115) [.int .i64 ((qAX l0_3 aU).f0), .int .i64 ((qAX l0_3 aU).f1), .int .i64 ((qAX l0_3 aU).f2.f0), .int .u64 ((qAX l0_3 aU).f2.f1)] (fun _ => True) (fun _ => False) rfl rfl ?aP (fun _ hk => hk.elim) ?aF ?aO ?aB ?aS ?aL ?_
     (case aP => exact k115_mkM _ _ _ (⟨(qAX l0_3 aU).f0, (qAX l0_3 aU).f1, (⟨(qAX l0_3 aU).f2.f0, (qAX l0_3 aU).f2.f1⟩ : S69)⟩ : S115))
     (case aB => exact HB.o)
     (case aF => exact (fun _ _ => trivial))
     (case aO => exact a6.o)
     (case aS => exact (qAe HB.o))
     (case aL => have := cF.o; omega)
     intro cr cv ho hb hg bH
     rw [← cH.o] at ho
     have n_ := a2 (Kd.R_over' ad.o (Kd.R_typed a6.o) (by decide) hg) (a2 (Kd.R_over' ae.o (Kd.R_typed a6.o) (by decide) hg) (a2 (qAH (g := aE) (o := .cells #[.slice aV l0_0.length aX, .int .i64 a0_1, .slice aW l0_2.length aY, .slice (some ab) l0_3.length aZ] 98 (0, 0)) aA.o hg (Kd.R_ne a6.o aA.o (by decide))) (a2 (qAH (g := aI) (o := .cells #[.slice none 0 0, .int .i64 0, .slice none 0 0, .slice none 0 0] 77 (0, 0)) aC.o hg (Kd.R_ne a6.o aC.o (by decide))) (a2 (qAH (g := aD) (o := .cells #[.slice ah a5.length ai, .int .i64 a0_1, .slice ap ag.length aq, al] 77 (0, 0)) aH.o hg (Kd.R_ne a6.o aH.o (by decide))) (a2 (hb) (am (ho)))))))
     clear ad ae aA aC aH HB a6
     obtain ⟨ad, ae, aA, aC, aH, HB, bd⟩ := n_
     clear ho hb hg bH
     obtain ⟨b4, b8, cj⟩ := Kd.R_slice bd.o
     (subst cj)
     refine hK.o _ _ ⟨(qAb aH.o 0).trans rfl, (qAb aH.o 1).trans rfl, (qAb aH.o 2).trans rfl, (qAb aH.o 3).trans rfl, (qAb aA.o 0).trans rfl, (qAb aA.o 1).trans rfl, (qAb aA.o 2).trans rfl, (qAb aA.o 3).trans rfl, ((HB.o.cell (World.block_lt_of_cell? w _ hw376_0)).trans hw376_0), ((HB.o.cell (World.block_lt_of_cell? w _ hw376_1)).trans hw376_1), ((HB.o.cell (World.block_lt_of_cell? w _ hw376_2)).trans hw376_2), ((HB.o.cell (World.block_lt_of_cell? w _ hw376_3)).trans hw376_3), ((HB.o.cell (World.block_lt_of_cell? w _ hw377_0)).trans hw377_0), ((HB.o.cell (World.block_lt_of_cell? w _ hw377_1)).trans hw377_1), ((HB.o.cell (World.block_lt_of_cell? w _ hw377_2)).trans hw377_2), ((HB.o.cell (World.block_lt_of_cell? w _ hw377_3)).trans hw377_3), ((HB.o.cell (World.block_lt_of_cell? w _ hw378_0)).trans hw378_0), ((HB.o.cell (World.block_lt_of_cell? w _ hw378_1)).trans hw378_1), ((HB.o.cell (World.block_lt_of_cell? w _ hw378_2)).trans hw378_2), ((HB.o.cell (World.block_lt_of_cell? w _ hw378_3)).trans hw378_3)⟩ (fun hHeld => ?_)
     clear hK K
     refine nm ?_
     refine pu 23 49 (mK 25 16777215) (qA8 HT_.o (by kernel_rfl)) ?_
     refine last_ (i := 24) (N := none) (mK 25 33554431) rfl rfl (qBf HT_.o (by kernel_rfl)) (by decide) (fun K hK => ?_)
     have hfs32 := qAr aH.o 3
     refine skip_ (w1 := ?_) (by rfl) rfl ?_ ?_
     rotate_left
     ·go_simp
      rfl
     refine hK.o _ _ ?_
     clear hK K
     refine qE1 (qCk HT_.o (by kernel_rfl)) ?_
     try go_wp2
     go_roundg k1
     case measure => have := cp.o; omega
     case rel => exact ⟨(wrap64 (aU + 1)), (bT), (.slice b4 bT.length b8), (by rfl), H', ⟨by have := cp.o; omega⟩, ⟨by exact Kd.R_mono (Kd.R_far (p := ⟨aD, 3, none⟩) (Kd.R_types ad.o aH.o (by decide)) (fun _ hk => hk.2) (.slice b4 bT.length b8)) (fun _ hk => hk.1)⟩, ⟨by exact Kd.R_mono (Kd.R_far (p := ⟨aD, 3, none⟩) (Kd.R_types ae.o aH.o (by decide)) (fun _ hk => hk.2) (.slice b4 bT.length b8)) (fun _ hk => hk.1)⟩, ⟨by exact Kd.R_mono (Kd.R_far (p := ⟨aD, 3, none⟩) (Kd.R_types bd.o aH.o (by decide)) (fun _ hk => hk.2) (.slice b4 bT.length b8)) (fun _ hk => trivial)⟩, ⟨by refine qAg ?_ aG.o _; exact aA.o⟩, ⟨by refine qAg ?_ aJ.o _; exact aC.o⟩, ⟨by refine qAo (cs := #[.slice ah a5.length ai, .int .i64 a0_1, .slice ap ag.length aq, al]) ?_ 3 _ rfl; exact aH.o⟩, ⟨by repeat (with_reducible first | exact HB.o | refine qAq ?_ a7.o)⟩⟩
  ·rw [if_neg c3] at H
   exact absurd H (by simp)
 ·rw [if_neg c2] at H
  exact absurd H (by simp)
end Q
end
end Go.Proofs.Ytfjpnjbinbhcfaa
