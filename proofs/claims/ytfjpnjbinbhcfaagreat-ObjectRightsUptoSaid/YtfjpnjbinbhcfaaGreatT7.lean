/- The program's object.Right of any object and the document's tell the same, where what is read is of bulk at most 1048576: Rows.ObjectRightsUptoSaid. Part 7 of 10. -/
import Derived.Test.YtfjpnjbinbhcfaaGreatT6
set_option maxHeartbeats 8000000
set_option maxRecDepth 100000
set_option linter.unusedVariables false
set_option linter.unusedSimpArgs false
namespace Go.Proofs.YtfjpnjbinbhcfaaGreat
section
namespace Q
open Go.RowKit PA PC PB
open DecLaw
def bytesP : Nat → List Int → Ps (List Int)
 | 0, acc => fun r => some (acc, r)
 | n + 1, acc => fun r => (byteP r).bind fun a => bytesP n (acc ++ [a.1]) a.2
def qDI : Ps (List Int) := fun r => (byteP r).bind fun a => bytesP a.1.toNat [] a.2
def decP (c : List Int) : List Enc.InsD × Int := decL (c.length + 1) [] c
def codeP' : Ps (List S144) := fun r => (rawP 16384 r).bind fun a => if (decP a.1).2 = 0 then some ((decP a.1).1.map toS, a.2) else none
abbrev Fn4 := List Int × Int × List Int × List S144
def fnP : Ps Fn4 := fun r => (qDI r).bind fun a => (byteP a.2).bind fun b => (qDI b.2).bind fun c => (codeP' c.2).bind fun d => some ((a.1, b.1, c.1, d.1), d.2)
def varP : Ps S85 := fun r => (textP 32 r).bind fun a => (byteP a.2).bind fun b => (numP 8 b.2).bind fun c => some (⟨a.1, ⟨b.1, c.1⟩⟩, c.2)
def nfnP : Ps S92 := fun r => (textP 32 r).bind fun a => (fnP a.2).bind fun b => some (⟨a.1, ⟨⟨b.1.1, b.1.2.1⟩, b.1.2.2.1, b.1.2.2.2⟩⟩, b.2)
def relP : Ps S104 := fun r => (numP 2 r).bind fun a => (numP 2 a.2).bind fun b => (byteP b.2).bind fun c => (textP 32 c.2).bind fun d => (textP 32 d.2).bind fun e => some (⟨a.1, b.1, c.1, d.1, e.1⟩, e.2)
abbrev Obj4 := ByteArray × List S85 × List S92 × List S104
def endO (o : Obj4) (r : List Int) : Option Obj4 := if r = [] then some o else none
def relsC : Nat → ByteArray → List S85 → List S92 → List S104 → List Int → Option Obj4
 | 0, m, vs, fs, acc, r => endO (m, vs, fs, acc) r
 | n + 1, m, vs, fs, acc, r => (relP r).bind fun a => relsC n m vs fs (acc ++ [a.1]) a.2
def relsI (m : ByteArray) (vs : List S85) (fs : List S92) (r : List Int) : Option Obj4 := (intP r).bind fun a => relsC a.1.toNat m vs fs [] a.2
def fnsC : Nat → ByteArray → List S85 → List S92 → List Int → Option Obj4
 | 0, m, vs, acc, r => relsI m vs acc r
 | n + 1, m, vs, acc, r => (nfnP r).bind fun a => fnsC n m vs (acc ++ [a.1]) a.2
def fnsI (m : ByteArray) (vs : List S85) (r : List Int) : Option Obj4 := (intP r).bind fun a => fnsC a.1.toNat m vs [] a.2
def varsC : Nat → ByteArray → List S85 → List Int → Option Obj4
 | 0, m, acc, r => fnsI m acc r
 | n + 1, m, acc, r => (varP r).bind fun a => varsC n m (acc ++ [a.1]) a.2
def objC (r : List Int) : Option Obj4 := (textP 32 r).bind fun a => (intP a.2).bind fun b => varsC b.1.toNat a.1 [] b.2
structure Fin {σ γ : Type} (tail : σ → Nat → Option γ) (err : γ) (s : Option σ) (R : γ) : Prop where
 yes : ∀ o, s = some o → Ev (tail o) R
 no : s = none → R = err
theorem Rd.fin {α σ γ : Type} {f0 : List Int} {g : Nat → Option (α × Int × Int)} {s : Option (α × List Int)} {h : Nat → α × Int × Int → Option γ} {t : α × List Int → Option σ} {tail : σ → Nat → Option γ} {err R : γ} (hg : Rd f0 g s) (hF : Fin tail err (s.bind t) R)
  (good : ∀ x p, Pl f0 p → s = some (x, f0.drop p.toNat) → Fin tail err (t (x, f0.drop p.toNat)) R → Ev (fun k => h k (x, p, 0)) R) (bad : ∀ x p e, e ≠ 0 → R = err → Ev (fun k => h k (x, p, e)) R) : Ev (fun k => (g k).bind (h k)) R := by
 obtain ⟨v, p, e, hv, hs⟩ := hg
 cases s with
 | none => exact Ev.bind hv (bad v p e hs (hF.no rfl))
 | some a =>
  obtain ⟨x, r⟩ := a
  obtain ⟨rfl, rfl, h0, h1, rfl⟩ := hs
  exact Ev.bind hv (good v p ⟨h0, h1⟩ rfl ⟨fun o ho => hF.yes o ho, fun hn => hF.no hn⟩)
theorem qCs {r : List Int} (hb : qB6 r) {a : Int × List Int} (h : byteP r = some a) : 0 ≤ a.1 ∧ a.1 < 256 := by
 cases r with
 | nil => cases h
 | cons x r => obtain rfl := Option.some.inj h; exact hb x List.mem_cons_self
theorem qCL {x : Int} (h : 0 ≤ x ∧ x < 256) : wrap64 x = x := by unfold wrap64; omega
section
variable (f0 : List Int) (hb : qB6 f0) (hl : f0.length ≤ 4294967296)
theorem kinds_bad (n : Int) (hn : 0 ≤ n ∧ n < 256) (p e : Int) (he : e ≠ 0) : ∀ (d : Nat) (i : Int) (acc : List Int), 0 ≤ i → n - i = d → acc.length + d ≤ 512 → ∃ l, Ev (fun k => qA8.l0 k acc n i f0 p e) (l, p, e) := by
 intro d
 induction d with
 | zero =>
  intro i acc h0 hd ha
  refine ⟨acc, Ev.step (f := fun _ => some (acc, p, e)) (fun k => ?_) (Ev.now _)⟩
  simp only [qA8.l0]; rw [if_neg (by omega)]
 | succ d ih =>
  intro i acc h0 hd ha
  obtain ⟨l, hl⟩ := ih (i + 1) (acc ++ [wrap64 0]) (by omega) (by omega) (by simp; omega)
  refine ⟨l, Ev.step (fun k => ?_) hl⟩
  simp only [qA8.l0]
  rw [if_pos (by omega), show qAu.f f0 p e = some (0, p, e) from by simp [qAu.f, he]]
  simp only [Option.bind_some]
  rw [if_pos (by omega), show wrap64 (i + 1) = i + 1 from by unfold wrap64; omega]
theorem kinds_loop (hb : qB6 f0) (n : Int) (hn : 0 ≤ n ∧ n < 256) : ∀ (d : Nat) (i : Int) (acc : List Int) (p : Int), 0 ≤ i → n - i = d → acc.length + d ≤ 512 → Pl f0 p → Rd f0 (fun k => qA8.l0 k acc n i f0 p 0) (bytesP d acc (f0.drop p.toNat)) := by
 intro d
 induction d with
 | zero =>
  intro i acc p h0 hd ha hp
  refine Rd.ok (Ev.step (f := fun _ => some (acc, p, 0)) (fun k => ?_) (Ev.now _)) hp
  simp only [qA8.l0]; rw [if_neg (by omega)]
 | succ d ih =>
  intro i acc p h0 hd ha hp
  have hw : wrap64 (i + 1) = i + 1 := by unfold wrap64; omega
  have hstep : Rd f0 (fun k => (qAu.f f0 p 0).bind fun b => (if acc.length < 17592186044416 then qA8.l0 k (acc ++ [wrap64 b.1]) n (wrap64 (i + 1)) f0 b.2.1 b.2.2 else none)) ((byteP (f0.drop p.toNat)).bind fun a => bytesP d (acc ++ [a.1]) a.2) := by
   refine Rd.bind (qDc f0 hb p hp) (h := fun k b => (if acc.length < 17592186044416 then qA8.l0 k (acc ++ [wrap64 b.1]) n (wrap64 (i + 1)) f0 b.2.1 b.2.2 else none)) (fun x p2 hp2 hs => ?_) (fun x p2 e he => ?_)
   ·have hx := qCs (qBO hb _) hs
    simp only [show acc.length < 17592186044416 from by omega, if_true, hw, qCL hx]
    exact ih (i + 1) _ p2 (by omega) (by omega) (by simp; omega) hp2
   simp only [show acc.length < 17592186044416 from by omega, if_true, hw]
   obtain ⟨l, hl⟩ := kinds_bad f0 n hn p2 e he d (i + 1) (acc ++ [wrap64 x]) (by omega) (by omega) (by simp; omega)
   exact Rd.no hl he
  obtain ⟨v, p', e', hev, hs⟩ := hstep
  refine ⟨v, p', e', Ev.step (fun k => ?_) hev, hs⟩
  simp only [qA8.l0]
  rw [if_pos (by omega)]
theorem kinds_good (hb : qB6 f0) (p : Int) (hp : Pl f0 p) : Rd f0 (fun k => qA8.f k f0 p 0) (qDI (f0.drop p.toNat)) := by
 cases hs : byteP (f0.drop p.toNat) with
 | none =>
  have hlt : ¬ p < f0.length := by
   intro hlt
   have hc : (f0.drop p.toNat).length ≠ 0 := by rw [List.length_drop]; have := hp.1; omega
   cases hd : f0.drop p.toNat with
   | nil => rw [hd] at hc; exact hc rfl
   | cons x r => rw [hd] at hs; cases hs
  have e : qDI (f0.drop p.toNat) = none := by unfold qDI; rw [hs]; rfl
  rw [e]
  refine Rd.no (x := []) (p := p) (e := 40) (Ev.congr (f := fun k => qA8.l0 k [] 0 0 f0 p 40) (fun k => ?_) (Ev.step (f := fun _ => some ([], p, 40)) (fun k => ?_) (Ev.now _))) (by decide)
  ·unfold qA8.f
   rw [show qAu.f f0 p 0 = some (0, p, 40) from by simp [qAu.f, hlt]]
   simp only [Option.bind_some]
   rw [show wrap64 0 = 0 from by unfold wrap64; omega]
  simp only [qA8.l0]; rw [if_neg (by omega)]
 | some a =>
  obtain ⟨x, r⟩ := a
  have hx := qCs (qBO hb _) hs
  obtain ⟨v, q, e, hev, hq⟩ := qDc f0 hb p hp
  rw [hs] at hq
  obtain ⟨rfl, rfl, q0, q1, rfl⟩ := hq
  have e : qDI (f0.drop p.toNat) = bytesP v.toNat [] (f0.drop q.toNat) := by unfold qDI; rw [hs]; rfl
  rw [e]
  obtain ⟨v2, p2, e2, h2, hs2⟩ := kinds_loop f0 hb v hx v.toNat 0 [] q (by omega) (by have := hx.1; simp only at this; omega) (by have := hx.2; simp only at this; simp; omega) ⟨q0, q1⟩
  refine ⟨v2, p2, e2, ?_, hs2⟩
  refine Ev.congr (f := fun k => (qAu.f f0 p 0).bind fun b => qA8.l0 k [] (wrap64 b.1) 0 f0 b.2.1 b.2.2) (fun k => rfl) (Ev.bind hev ?_)
  simp only [qCL hx]
  exact h2
theorem kinds_badF (p e : Int) (he : e ≠ 0) : Ev (fun k => qA8.f k f0 p e) ([], p, e) := by
 refine Ev.congr (f := fun k => qA8.l0 k [] 0 0 f0 p e) (fun k => ?_) (Ev.step (f := fun _ => some ([], p, e)) (fun k => ?_) (Ev.now _))
 ·unfold qA8.f
  rw [show qAu.f f0 p e = some (0, p, e) from by simp [qAu.f, he]]
  simp only [Option.bind_some]
  rw [show wrap64 0 = 0 from by unfold wrap64; omega]
 simp only [qA8.l0]; rw [if_neg (by omega)]
def RdF (g : Nat → Option (List Int × Int × List Int × List S144 × Int × Int)) (s : Option (Fn4 × List Int)) : Prop :=
 ∃ a b c d p e, Ev g (a, b, c, d, p, e) ∧ match s with
  | some (x, r) => x = (a, b, c, d) ∧ e = 0 ∧ 0 ≤ p ∧ p ≤ f0.length ∧ r = f0.drop p.toNat
  | none => e ≠ 0
theorem qDd (c : List Int) (hb : qB6 c) : qBk.f c = some ((decP c).1.map toS, (decP c).2) := by
 unfold qBk.f
 rw [if_pos (List.all_eq_true.2 fun x hx => decide_eq_true (hb x hx))]; rfl
theorem rawP_bytes {most : Int} {r : List Int} (hb : qB6 r) {a : List Int × List Int} (h : rawP most r = some a) : qB6 a.1 := by
 unfold rawP at h
 cases hi : intP r with
 | none => rw [hi] at h; cases h
 | some b =>
  rw [hi] at h
  simp only [Option.bind_some] at h
  split at h
  ·obtain rfl := Option.some.inj h
   refine qD4 ?_ _
   unfold intP at hi
   split at hi
   ·split at hi
    ·obtain rfl := Option.some.inj hi
     exact qBO hb 4
    cases hi
   cases hi
  cases h
theorem raw_empty (most p : Int) (v : List Int) (q e : Int) (h : qA9.f f0 p 0 most = some (v, q, e)) (he : e ≠ 0) : v = [] := by
 unfold qA9.f at h
 replace h := Option.some.inj h
 rw [if_neg (by simp)] at h
 (repeat' split at h) <;> (simp only [Prod.mk.injEq] at h; first | exact h.1.symm | exact absurd h.2.2.symm he)
theorem readFn_bad (p e : Int) (he : e ≠ 0) : ∃ a b c d, Ev (fun k => qB0.f k f0 p e) (a, b, c, d, p, e) := by
 have h1 := kinds_badF f0 p e he
 refine ⟨[], wrap64 0, [], (decP []).1.map toS, ?_⟩
 refine Ev.congr (f := fun k => (qA8.f k f0 p e).bind fun b1 => ((qAu.f f0 b1.2.1 b1.2.2).bind fun b2 => ((qA8.f k f0 b2.2.1 b2.2.2).bind fun b3 => ((qA9.f f0 b3.2.1 b3.2.2 16384).bind fun b4 => ((qBk.f b4.1).bind fun b5 => (if b5.2 = 0 then (some (b1.1, wrap64 (b2.1), b3.1, b5.1, b4.2.1, b4.2.2)) else ((qAG.f f0 b4.2.1 b4.2.2 52).bind fun b6 => (some (b1.1, wrap64 (b2.1), b3.1, b5.1, b6.1, b6.2))))))))) (fun k => rfl) (Ev.bind h1 ?_)
 simp only [show qAu.f f0 p e = some (0, p, e) from by simp [qAu.f, he], Option.bind_some]
 refine Ev.bind h1 ?_
 have hr : qA9.f f0 p e 16384 = some ([], p, e) := by unfold qA9.f; rw [if_pos he]
 simp only [hr, Option.bind_some, qDd [] (by intro x hx; cases hx)]
 have hz : (decP []).2 = 0 := rfl
 simp only [hz, if_true]
 exact Ev.now _
theorem readFn_good (hb : qB6 f0) (p : Int) (hp : Pl f0 p) : RdF f0 (fun k => qB0.f k f0 p 0) (fnP (f0.drop p.toNat)) := by
 have hun : ∀ k, qB0.f k f0 p 0 = (qA8.f k f0 p 0).bind fun b1 => ((qAu.f f0 b1.2.1 b1.2.2).bind fun b2 => ((qA8.f k f0 b2.2.1 b2.2.2).bind fun b3 => ((qA9.f f0 b3.2.1 b3.2.2 16384).bind fun b4 => ((qBk.f b4.1).bind fun b5 => (if b5.2 = 0 then (some (b1.1, wrap64 (b2.1), b3.1, b5.1, b4.2.1, b4.2.2)) else ((qAG.f f0 b4.2.1 b4.2.2 52).bind fun b6 => (some (b1.1, wrap64 (b2.1), b3.1, b5.1, b6.1, b6.2)))))))) := fun k => rfl
 have tail4 : ∀ (q1 : List Int) (q2 : Int) (q3 : List Int) (p e : Int), e ≠ 0 → Ev (fun _ => (qA9.f f0 p e 16384).bind fun b4 => ((qBk.f b4.1).bind fun b5 => (if b5.2 = 0 then (some (q1, q2, q3, b5.1, b4.2.1, b4.2.2)) else ((qAG.f f0 b4.2.1 b4.2.2 52).bind fun b6 => (some (q1, q2, q3, b5.1, b6.1, b6.2)))))) (q1, q2, q3, (decP []).1.map toS, p, e) := fun q1 q2 q3 p e he => by
  have hr : qA9.f f0 p e 16384 = some ([], p, e) := by unfold qA9.f; rw [if_pos he]
  simp only [hr, Option.bind_some, qDd [] (by intro x hx; cases hx)]
  have hz : (decP []).2 = 0 := rfl
  simp only [hz, if_true]
  exact Ev.now _
 have tail3 : ∀ (q1 : List Int) (q2 : Int) (p e : Int), e ≠ 0 → ∃ l, Ev (fun k => (qA8.f k f0 p e).bind fun b3 => ((qA9.f f0 b3.2.1 b3.2.2 16384).bind fun b4 => ((qBk.f b4.1).bind fun b5 => (if b5.2 = 0 then (some (q1, q2, b3.1, b5.1, b4.2.1, b4.2.2)) else ((qAG.f f0 b4.2.1 b4.2.2 52).bind fun b6 => (some (q1, q2, b3.1, b5.1, b6.1, b6.2))))))) (q1, q2, [], l, p, e) := fun q1 q2 p e he =>
  ⟨_, Ev.bind (kinds_badF f0 p e he) (tail4 q1 q2 [] p e he)⟩
 obtain ⟨v1, p1, e1, h1, s1⟩ := kinds_good f0 hb p hp
 unfold fnP
 cases hk1 : qDI (f0.drop p.toNat) with
 | none =>
  rw [hk1] at s1
  obtain ⟨l, hl⟩ := tail3 v1 (wrap64 0) p1 e1 s1
  refine ⟨v1, wrap64 0, [], l, p1, e1, Ev.congr hun (Ev.bind h1 ?_), s1⟩
  simp only [show qAu.f f0 p1 e1 = some (0, p1, e1) from by simp [qAu.f, show e1 ≠ 0 from s1], Option.bind_some]
  exact hl
 | some a1 =>
  obtain ⟨x1, r1⟩ := a1
  rw [hk1] at s1
  obtain ⟨rfl, rfl, g0, g1, rfl⟩ := s1
  simp only [Option.bind_some]
  obtain ⟨v2, p2, e2, h2, s2⟩ := qDc f0 hb p1 ⟨g0, g1⟩
  cases hk2 : byteP (f0.drop p1.toNat) with
  | none =>
   rw [hk2] at s2
   obtain ⟨l, hl⟩ := tail3 v1 (wrap64 v2) p2 e2 s2
   exact ⟨v1, wrap64 v2, [], l, p2, e2, Ev.congr hun (Ev.bind h1 (Ev.bind h2 hl)), s2⟩
  | some a2 =>
   obtain ⟨x2, r2⟩ := a2
   have hx2 := qCs (qBO hb _) hk2
   rw [hk2] at s2
   obtain ⟨rfl, rfl, g0, g1, rfl⟩ := s2
   simp only [Option.bind_some]
   obtain ⟨v3, p3, e3, h3, s3⟩ := kinds_good f0 hb p2 ⟨g0, g1⟩
   cases hk3 : qDI (f0.drop p2.toNat) with
   | none =>
    rw [hk3] at s3
    exact ⟨v1, wrap64 v2, v3, _, p3, e3, Ev.congr hun (Ev.bind h1 (Ev.bind h2 (Ev.bind h3 (tail4 _ _ _ p3 e3 s3)))), s3⟩
   | some a3 =>
    obtain ⟨x3, r3⟩ := a3
    rw [hk3] at s3
    obtain ⟨rfl, rfl, g0, g1, rfl⟩ := s3
    simp only [Option.bind_some]
    obtain ⟨v4, p4, e4, h4, s4⟩ := raw_good f0 hb 16384 (by decide) p3 ⟨g0, g1⟩
    cases hk4 : rawP 16384 (f0.drop p3.toNat) with
    | none =>
     rw [hk4] at s4
     have he : codeP' (f0.drop p3.toNat) = none := by unfold codeP'; rw [hk4]; rfl
     rw [he]
     have hv4 : v4 = [] := by
      obtain ⟨k, hk⟩ := h4.rounds
      exact raw_empty f0 16384 p3 _ _ _ hk s4
     subst hv4
     by_cases hz : (decP []).2 = 0
     rotate_left
     ·exact absurd rfl hz
     refine ⟨v1, wrap64 v2, v3, (decP []).1.map toS, p4, e4, Ev.congr hun (Ev.bind h1 (Ev.bind h2 (Ev.bind h3 (Ev.bind h4 ?_)))), s4⟩
     simp only [qDd [] (by intro x hx; cases hx), Option.bind_some, hz, if_true]
     exact Ev.now _
    | some a4 =>
     obtain ⟨x4, r4⟩ := a4
     have hb4 := rawP_bytes (qBO hb _) hk4
     rw [hk4] at s4
     obtain ⟨rfl, rfl, g0, g1, rfl⟩ := s4
     have he : codeP' (f0.drop p3.toNat) = (if (decP v4).2 = 0 then some ((decP v4).1.map toS, f0.drop p4.toNat) else none) := by unfold codeP'; rw [hk4]; rfl
     rw [he]
     by_cases hz : (decP v4).2 = 0
     ·rw [if_pos hz]
      refine ⟨v1, v2, v3, (decP v4).1.map toS, p4, 0, Ev.congr hun (Ev.bind h1 (Ev.bind h2 (Ev.bind h3 (Ev.bind h4 ?_)))), rfl, rfl, g0, g1, rfl⟩
      simp only [qDd v4 hb4, Option.bind_some, hz, if_true, qCL hx2]
      exact Ev.now _
     rw [if_neg hz]
     refine ⟨v1, v2, v3, (decP v4).1.map toS, p4, 52, Ev.congr hun (Ev.bind h1 (Ev.bind h2 (Ev.bind h3 (Ev.bind h4 ?_)))), (by show (52 : Int) ≠ 0; decide)⟩
     simp only [qDd v4 hb4, Option.bind_some, hz, if_false, qCL hx2, qAG.f, if_true]
     exact Ev.now _
theorem qEz (p e : Int) (he : e ≠ 0) : qAu.f f0 p e = some (0, p, e) := by simp [qAu.f, he]
theorem short_err (p e : Int) (he : e ≠ 0) : qAQ.f f0 p e = some (0, p, e) := by simp [qAQ.f, he]
theorem long_err (p e : Int) (he : e ≠ 0) : qAZ.f f0 p e = some (0, p, e) := by simp [qAZ.f, he]
theorem int_err (p e : Int) (he : e ≠ 0) : qAN.f f0 p e = some (0, p, e) := by simp [qAN.f, he]
theorem raw_err (most p e : Int) (he : e ≠ 0) : qA9.f f0 p e most = some ([], p, e) := by unfold qA9.f; rw [if_pos he]
theorem qDQ (most p e : Int) (he : e ≠ 0) : qA7.f f0 p e most = some (strOfNums [], p, e) := by unfold qA7.f; rw [raw_err f0 most p e he]; rfl
theorem done_err (p e : Int) (he : e ≠ 0) : qAY.f f0 p e = some (e, p, e) := by
 unfold qAY.f qBo.f qAD.f
 simp [he]
abbrev Res := ByteArray × List S85 × List S92 × List S104 × Int
def errP : Res := (⟨#[]⟩, [], [], [], 52)
def tailP (x0 : List Int) (o : Obj4) (k : Nat) : Option Res := (qBh.f o.1 o.2.1 o.2.2.1 o.2.2.2).bind fun b => (if b.2 = 0 then ((qA4.f k x0 b.1).bind fun t => (if t = true then some (o.1, o.2.1, o.2.2.1, o.2.2.2, 0) else some errP)) else some errP)
theorem j6_bad (x0 : List Int) (n p e : Int) (he : e ≠ 0) (m : ByteArray) (vs : List S85) (fs : List S92) (acc : List S104) : Ev (fun k => qAg.j6 k x0 n false f0 p e m vs fs acc) errP := by
 refine Ev.step (f := fun _ => some errP) (fun k => ?_) (Ev.now _)
 simp only [qAg.j6]
 rw [if_neg (by decide), done_err f0 p e he]
 simp only [Option.bind_some]
 rw [if_neg he]; rfl
theorem l3_bad (x0 : List Int) (n p e : Int) (he : e ≠ 0) (m : ByteArray) (vs : List S85) (fs : List S92) (acc : List S104) : Ev (fun k => qAg.l3 k x0 n f0 p e m vs fs acc) errP := by
 refine Ev.step (fun k => ?_) (j6_bad f0 x0 n p e he m vs fs acc)
 simp only [qAg.l3, qAD.f, Option.bind_some, beq_eq_false_iff_ne.mpr he, ite_self]
theorem j4_bad (x0 : List Int) (n p e : Int) (he : e ≠ 0) (m : ByteArray) (vs : List S85) (fs : List S92) : Ev (fun k => qAg.j4 k x0 n false f0 p e m vs fs) errP := by
 refine Ev.step (fun k => ?_) (l3_bad f0 x0 0 p e he m vs fs [])
 simp only [qAg.j4]
 rw [if_neg (by decide), int_err f0 p e he]; rfl
theorem l2_bad (x0 : List Int) (n p e : Int) (he : e ≠ 0) (m : ByteArray) (vs : List S85) (fs : List S92) : Ev (fun k => qAg.l2 k x0 n f0 p e m vs fs) errP := by
 refine Ev.step (fun k => ?_) (j4_bad f0 x0 n p e he m vs fs)
 simp only [qAg.l2, qAD.f, Option.bind_some, beq_eq_false_iff_ne.mpr he, ite_self]
theorem j2_bad (x0 : List Int) (n p e : Int) (he : e ≠ 0) (m : ByteArray) (vs : List S85) : Ev (fun k => qAg.j2 k x0 n false f0 p e m vs) errP := by
 refine Ev.step (fun k => ?_) (l2_bad f0 x0 0 p e he m vs [])
 simp only [qAg.j2]
 rw [if_neg (by decide), int_err f0 p e he]; rfl
theorem l1_bad (x0 : List Int) (n p e : Int) (he : e ≠ 0) (m : ByteArray) (vs : List S85) : Ev (fun k => qAg.l1 k x0 n f0 p e m vs) errP := by
 refine Ev.step (fun k => ?_) (j2_bad f0 x0 n p e he m vs)
 simp only [qAg.l1, qAD.f, Option.bind_some, beq_eq_false_iff_ne.mpr he, ite_self]
theorem done_end (p : Int) (hp : Pl f0 p) (h : f0.drop p.toNat = []) : qAY.f f0 p 0 = some (0, p, 0) := by
 have h1 := hp.1; have h2 := hp.2
 have h3 := congrArg List.length h
 rw [List.length_drop] at h3
 simp only [List.length_nil] at h3
 unfold qAY.f qBo.f qAD.f
 simp only [Option.bind_some, if_true]
 rw [if_neg (by omega)]
theorem done_more (p : Int) (hp : Pl f0 p) (h : f0.drop p.toNat ≠ []) : qAY.f f0 p 0 = some (41, p, 0) := by
 have h1 := hp.1; have h2 := hp.2
 have h3 : 0 < (f0.drop p.toNat).length := List.length_pos_iff.2 h
 rw [List.length_drop] at h3
 unfold qAY.f qBo.f qAD.f
 simp only [Option.bind_some, if_true]
 rw [if_pos (by omega)]
theorem l3_good (hb : qB6 f0) (x0 : List Int) (m : ByteArray) (vs : List S85) (fs : List S92) (R : Res) : ∀ (n : Nat) (p : Int) (acc : List S104), Pl f0 p → acc.length + n ≤ 2147483647 → Fin (tailP x0) errP (relsC n m vs fs acc (f0.drop p.toNat)) R →
  Ev (fun k => qAg.l3 k x0 (n : Int) f0 p 0 m vs fs acc) R := by
 intro n
 induction n with
 | zero =>
  intro p acc hp hn hF
  refine Ev.step (f := fun k => qAg.j6 k x0 0 false f0 p 0 m vs fs acc) (fun k => ?_) ?_
  ·simp only [qAg.l3]; rw [if_neg (by decide)]; rfl
  simp only [relsC, endO] at hF
  by_cases hr : f0.drop p.toNat = []
  ·rw [if_pos hr] at hF
   refine Ev.step (f := tailP x0 (m, vs, fs, acc)) (fun k => ?_) (hF.yes _ rfl)
   simp only [qAg.j6]
   rw [if_neg (by decide), done_end f0 p hp hr]; rfl
  rw [if_neg hr] at hF
  rw [hF.no rfl]
  refine Ev.step (f := fun _ => some errP) (fun k => ?_) (Ev.now _)
  simp only [qAg.j6]
  rw [if_neg (by decide), done_more f0 p hp hr]; rfl
 | succ n ih =>
  intro p acc hp hn hF
  simp only [relsC, relP, Option.bind_assoc, Option.bind_some] at hF
  have hw : wrap64 (((n + 1 : Nat) : Int) - 1) = (n : Int) := by unfold wrap64; omega
  have hlen : acc.length < 2513169434916 := by omega
  refine Ev.step (f := fun k => qAg.j6 k x0 ((n + 1 : Nat) : Int) true f0 p 0 m vs fs acc) (fun k => ?_) (Ev.step (f := fun k => (qAQ.f f0 p 0).bind fun b1 => ((qAQ.f f0 b1.2.1 b1.2.2).bind fun b2 => ((qAu.f f0 b2.2.1 b2.2.2).bind fun b3 => ((qA7.f f0 b3.2.1 b3.2.2 32).bind fun b4 => ((qA7.f f0 b4.2.1 b4.2.2 32).bind fun b5 => qAg.l3 k x0 (n : Int) f0 b5.2.1 b5.2.2 m vs fs (acc ++ [⟨b1.1, b2.1, wrap64 b3.1, b4.1, b5.1⟩])))))) (fun k => ?_) ?_)
  ·simp only [qAg.l3, qAD.f, Option.bind_some]; rw [if_pos (by omega)]; rfl
  ·simp only [qAg.j6, if_true, hw]
   simp only [hlen, if_true]
  have bad : ∀ (x : List S104) (p e : Int), e ≠ 0 → R = errP → Ev (fun k => qAg.l3 k x0 (n : Int) f0 p e m vs fs x) R := fun x p e he hR => hR ▸ l3_bad f0 x0 n p e he m vs fs x
  refine Rd.fin (short_good f0 hb p hp) hF (fun x1 p1 hp1 hs1 hF1 => ?_) (fun x1 p1 e he hR => ?_)
  ·refine Rd.fin (short_good f0 hb p1 hp1) hF1 (fun x2 p2 hp2 hs2 hF2 => ?_) (fun x2 p2 e he hR => ?_)
   ·refine Rd.fin (qDc f0 hb p2 hp2) hF2 (fun x3 p3 hp3 hs3 hF3 => ?_) (fun x3 p3 e he hR => ?_)
    ·refine Rd.fin (qDp f0 hb 32 (by decide) p3 hp3) hF3 (fun x4 p4 hp4 hs4 hF4 => ?_) (fun x4 p4 e he hR => ?_)
     ·refine Rd.fin (qDp f0 hb 32 (by decide) p4 hp4) hF4 (fun x5 p5 hp5 hs5 hF5 => ?_) (fun x5 p5 e he hR => ?_)
      ·simp only [qCL (qCs (qBO hb _) hs3)]
       exact ih p5 _ hp5 (by simp; omega) hF5
      exact bad _ _ _ he hR
     simp only [qDQ f0 _ _ _ he, Option.bind_some]; exact bad _ _ _ he hR
    simp only [qDQ f0 _ _ _ he, Option.bind_some]; exact bad _ _ _ he hR
   simp only [qEz f0 _ _ he, qDQ f0 _ _ _ he, Option.bind_some]; exact bad _ _ _ he hR
  simp only [short_err f0 _ _ he, qEz f0 _ _ he, qDQ f0 _ _ _ he, Option.bind_some]; exact bad _ _ _ he hR
theorem RdF.fin {σ γ : Type} {g : Nat → Option (List Int × Int × List Int × List S144 × Int × Int)} {s : Option (Fn4 × List Int)} {h : Nat → List Int × Int × List Int × List S144 × Int × Int → Option γ} {t : Fn4 × List Int → Option σ} {tail : σ → Nat → Option γ} {err R : γ} (hg : RdF f0 g s) (hF : Fin tail err (s.bind t) R)
  (good : ∀ a b c d p, Pl f0 p → s = some ((a, b, c, d), f0.drop p.toNat) → Fin tail err (t ((a, b, c, d), f0.drop p.toNat)) R → Ev (fun k => h k (a, b, c, d, p, 0)) R) (bad : ∀ a b c d p e, e ≠ 0 → R = err → Ev (fun k => h k (a, b, c, d, p, e)) R) : Ev (fun k => (g k).bind (h k)) R := by
 obtain ⟨a, b, c, d, p, e, hv, hs⟩ := hg
 cases s with
 | none => exact Ev.bind hv (bad a b c d p e hs (hF.no rfl))
 | some x =>
  obtain ⟨x, r⟩ := x
  obtain ⟨rfl, rfl, h0, h1, rfl⟩ := hs
  exact Ev.bind hv (good a b c d p ⟨h0, h1⟩ rfl ⟨fun o ho => hF.yes o ho, fun hn => hF.no hn⟩)
theorem l2_good (hb : qB6 f0) (x0 : List Int) (m : ByteArray) (vs : List S85) (R : Res) : ∀ (n : Nat) (p : Int) (acc : List S92), Pl f0 p → acc.length + n ≤ 2147483647 → Fin (tailP x0) errP (fnsC n m vs acc (f0.drop p.toNat)) R →
  Ev (fun k => qAg.l2 k x0 (n : Int) f0 p 0 m vs acc) R := by
 intro n
 induction n with
 | zero =>
  intro p acc hp hn hF
  refine Ev.step (f := fun k => qAg.j4 k x0 0 false f0 p 0 m vs acc) (fun k => ?_) (Ev.step (f := fun k => (qAN.f f0 p 0).bind fun b => qAg.l3 k x0 b.1 f0 b.2.1 b.2.2 m vs acc []) (fun k => ?_) ?_)
  ·simp only [qAg.l2]; rw [if_neg (by decide)]; rfl
  ·simp only [qAg.j4]; rw [if_neg (by decide)]
  simp only [fnsC, relsI] at hF
  refine Rd.fin (int_good f0 hb p hp) hF (fun x1 p1 hp1 hs1 hF1 => ?_) (fun x1 p1 e he hR => ?_)
  ·have hx := qEc _ (qBO hb _) _ hs1
   obtain ⟨q, rfl⟩ := Int.eq_ofNat_of_zero_le hx.1
   exact l3_good f0 hb x0 m vs acc R q p1 [] hp1 (by have := hx.2; simp only at this; simp; omega) hF1
  exact hR ▸ l3_bad f0 x0 x1 p1 e he m vs acc []
 | succ n ih =>
  intro p acc hp hn hF
  simp only [fnsC, nfnP, Option.bind_assoc, Option.bind_some] at hF
  have hw : wrap64 (((n + 1 : Nat) : Int) - 1) = (n : Int) := by unfold wrap64; omega
  have hlen : acc.length < 1466015503701 := by omega
  refine Ev.step (f := fun k => qAg.j4 k x0 ((n + 1 : Nat) : Int) true f0 p 0 m vs acc) (fun k => ?_) (Ev.step (f := fun k => (qA7.f f0 p 0 32).bind fun b1 => ((qB0.f k f0 b1.2.1 b1.2.2).bind fun b2 => qAg.l2 k x0 (n : Int) f0 b2.2.2.2.2.1 b2.2.2.2.2.2 m vs (acc ++ [⟨b1.1, ⟨⟨b2.1, b2.2.1⟩, b2.2.2.1, b2.2.2.2.1⟩⟩]))) (fun k => ?_) ?_)
  ·simp only [qAg.l2, qAD.f, Option.bind_some]; rw [if_pos (by omega)]; rfl
  ·simp only [qAg.j4, if_true, hw]
   simp only [hlen, if_true]
  have bad : ∀ (x : List S92) (p e : Int), e ≠ 0 → R = errP → Ev (fun k => qAg.l2 k x0 (n : Int) f0 p e m vs x) R := fun x p e he hR => hR ▸ l2_bad f0 x0 n p e he m vs x
  refine Rd.fin (qDp f0 hb 32 (by decide) p hp) hF (fun x1 p1 hp1 hs1 hF1 => ?_) (fun x1 p1 e he hR => ?_)
  ·refine RdF.fin f0 (readFn_good f0 hb p1 hp1) hF1 (fun a b c d p2 hp2 hs2 hF2 => ?_) (fun a b c d p2 e he hR => ?_)
   ·exact ih p2 _ hp2 (by simp; omega) hF2
   exact bad _ _ _ he hR
  obtain ⟨a, b, c, d, hrf⟩ := readFn_bad f0 p1 e he
  exact Ev.bind hrf (bad _ _ _ he hR)
theorem l1_good (hb : qB6 f0) (x0 : List Int) (m : ByteArray) (R : Res) : ∀ (n : Nat) (p : Int) (acc : List S85), Pl f0 p → acc.length + n ≤ 2147483647 → Fin (tailP x0) errP (varsC n m acc (f0.drop p.toNat)) R →
  Ev (fun k => qAg.l1 k x0 (n : Int) f0 p 0 m acc) R := by
 intro n
 induction n with
 | zero =>
  intro p acc hp hn hF
  refine Ev.step (f := fun k => qAg.j2 k x0 0 false f0 p 0 m acc) (fun k => ?_) (Ev.step (f := fun k => (qAN.f f0 p 0).bind fun b => qAg.l2 k x0 b.1 f0 b.2.1 b.2.2 m acc []) (fun k => ?_) ?_)
  ·simp only [qAg.l1]; rw [if_neg (by decide)]; rfl
  ·simp only [qAg.j2]; rw [if_neg (by decide)]
  simp only [varsC, fnsI] at hF
  refine Rd.fin (int_good f0 hb p hp) hF (fun x1 p1 hp1 hs1 hF1 => ?_) (fun x1 p1 e he hR => ?_)
  ·have hx := qEc _ (qBO hb _) _ hs1
   obtain ⟨q, rfl⟩ := Int.eq_ofNat_of_zero_le hx.1
   exact l2_good f0 hb x0 m acc R q p1 [] hp1 (by have := hx.2; simp only at this; simp; omega) hF1
  exact hR ▸ l2_bad f0 x0 x1 p1 e he m acc []
 | succ n ih =>
  intro p acc hp hn hF
  simp only [varsC, varP, Option.bind_assoc, Option.bind_some] at hF
  have hw : wrap64 (((n + 1 : Nat) : Int) - 1) = (n : Int) := by unfold wrap64; omega
  have hlen : acc.length < 4398046511104 := by omega
  refine Ev.step (f := fun k => qAg.j2 k x0 ((n + 1 : Nat) : Int) true f0 p 0 m acc) (fun k => ?_) (Ev.step (f := fun k => (qA7.f f0 p 0 32).bind fun b1 => ((qAu.f f0 b1.2.1 b1.2.2).bind fun b2 => ((qAZ.f f0 b2.2.1 b2.2.2).bind fun b3 => qAg.l1 k x0 (n : Int) f0 b3.2.1 b3.2.2 m (acc ++ [⟨b1.1, ⟨wrap64 b2.1, b3.1⟩⟩])))) (fun k => ?_) ?_)
  ·simp only [qAg.l1, qAD.f, Option.bind_some]; rw [if_pos (by omega)]; rfl
  ·simp only [qAg.j2, if_true, hw]
   simp only [hlen, if_true]
  have bad : ∀ (x : List S85) (p e : Int), e ≠ 0 → R = errP → Ev (fun k => qAg.l1 k x0 (n : Int) f0 p e m x) R := fun x p e he hR => hR ▸ l1_bad f0 x0 n p e he m x
  refine Rd.fin (qDp f0 hb 32 (by decide) p hp) hF (fun x1 p1 hp1 hs1 hF1 => ?_) (fun x1 p1 e he hR => ?_)
  ·refine Rd.fin (qDc f0 hb p1 hp1) hF1 (fun x2 p2 hp2 hs2 hF2 => ?_) (fun x2 p2 e he hR => ?_)
   ·refine Rd.fin (long_good f0 hb p2 hp2) hF2 (fun x3 p3 hp3 hs3 hF3 => ?_) (fun x3 p3 e he hR => ?_)
    ·simp only [qCL (qCs (qBO hb _) hs2)]
     exact ih p3 _ hp3 (by simp; omega) hF3
    exact bad _ _ _ he hR
   simp only [long_err f0 _ _ he, Option.bind_some]; exact bad _ _ _ he hR
  simp only [qEz f0 _ _ he, long_err f0 _ _ he, Option.bind_some]; exact bad _ _ _ he hR
def MK : List Int := [102, 111, 98, 106]
theorem mk_rd (i : Int) (h0 : 0 ≤ i) (h : i < 4) : rd MK i ≠ 0 ∧ rd MK i = MK.getD i.toNat 0 := by
 refine ⟨?_, rfl⟩
 have hc : i = 0 ∨ i = 1 ∨ i = 2 ∨ i = 3 := by omega
 rcases hc with rfl | rfl | rfl | rfl <;> decide
theorem l0_bad (x0 : List Int) (p e : Int) (he : e ≠ 0) : ∀ (d : Nat) (i : Int), 0 ≤ i → 4 - i = d → Ev (fun k => qAg.l0 k x0 MK 4 i f0 p e) errP := by
 intro d
 induction d with
 | zero =>
  intro i h0 hd
  refine Ev.step (fun k => ?_) (l1_bad f0 x0 0 p e he (strOfNums []) [])
  simp only [qAg.l0]
  rw [if_neg (by omega), qDQ f0 32 p e he]
  simp only [Option.bind_some, int_err f0 p e he]
 | succ d ih =>
  intro i h0 hd
  refine Ev.step (fun k => ?_) (ih (i + 1) (by omega) (by omega))
  simp only [qAg.l0]
  rw [if_pos (by omega), if_pos h0, if_pos (by show i < 4; omega), qEz f0 p e he]
  simp only [Option.bind_some]
  rw [if_neg (fun hh => (mk_rd i h0 (by omega)).1 hh.symm), show wrap64 (i + 1) = i + 1 from by unfold wrap64; omega]
  simp only [qAG.f, if_neg he, Option.bind_some]
theorem l0_good (hb : qB6 f0) (x0 : List Int) (R : Res) : ∀ (d : Nat) (i : Int), 0 ≤ i → 4 - i = d → i ≤ f0.length → Fin (tailP x0) errP (if (f0.drop i.toNat).take d = MK.drop i.toNat then objC (f0.drop 4) else none) R →
  Ev (fun k => qAg.l0 k x0 MK 4 i f0 i 0) R := by
 intro d
 induction d with
 | zero =>
  intro i h0 hd hl hF
  have hi : i = 4 := by omega
  subst hi
  rw [if_pos (by rfl)] at hF
  have hp : Pl f0 4 := ⟨by omega, hl⟩
  refine Ev.step (f := fun k => (qA7.f f0 4 0 32).bind fun b1 => ((qAN.f f0 b1.2.1 b1.2.2).bind fun b2 => qAg.l1 k x0 b2.1 f0 b2.2.1 b2.2.2 b1.1 [])) (fun k => ?_) ?_
  ·simp only [qAg.l0]; rw [if_neg (by omega)]
  unfold objC at hF
  refine Rd.fin (qDp f0 hb 32 (by decide) 4 hp) hF (fun x1 p1 hp1 hs1 hF1 => ?_) (fun x1 p1 e he hR => ?_)
  ·refine Rd.fin (int_good f0 hb p1 hp1) hF1 (fun x2 p2 hp2 hs2 hF2 => ?_) (fun x2 p2 e he hR => ?_)
   ·have hx := qEc _ (qBO hb _) _ hs2
    obtain ⟨q, rfl⟩ := Int.eq_ofNat_of_zero_le hx.1
    exact l1_good f0 hb x0 x1 R q p2 [] hp2 (by have := hx.2; simp only at this; simp; omega) hF2
   exact hR ▸ l1_bad f0 x0 x2 p2 e he x1 []
  simp only [int_err f0 _ _ he, Option.bind_some]
  exact hR ▸ l1_bad f0 x0 0 p1 e he x1 []
 | succ d ih =>
  intro i h0 hd hl hF
  have hi4 : i < 4 := by omega
  obtain ⟨m1, m2⟩ := mk_rd i h0 hi4
  have hmk := drop_cons' MK 0 i h0 (by show i < 4; omega)
  rw [← m2] at hmk
  have hw : wrap64 (i + 1) = i + 1 := by unfold wrap64; omega
  by_cases hlt : i < f0.length
  rotate_left
  ·have hnil : f0.drop i.toNat = [] := List.drop_eq_nil_of_le (by omega)
   rw [hnil, hmk] at hF
   rw [if_neg (by simp)] at hF
   rw [hF.no rfl]
   refine Ev.step (fun k => ?_) (l0_bad f0 x0 i 40 (by decide) d (i + 1) (by omega) (by omega))
   simp only [qAg.l0]
   rw [if_pos hi4, if_pos h0, if_pos (by show i < 4; omega), show qAu.f f0 i 0 = some (0, i, 40) from by simp [qAu.f, hlt]]
   simp only [Option.bind_some]
   rw [if_neg (fun hh => m1 hh.symm), hw]
   simp only [qAG.f, Option.bind_some]; rfl
  have hc := drop_cons' f0 0 i h0 hlt
  rw [hc, hmk, List.take_succ_cons] at hF
  have hby : qAu.f f0 i 0 = some (f0.getD i.toNat 0, i + 1, 0) := by simp [qAu.f, hlt]
  by_cases he : f0.getD i.toNat 0 = rd MK i
  ·refine Ev.step (fun k => ?_) (ih (i + 1) (by omega) (by omega) (by omega) ?_)
   ·simp only [qAg.l0]
    rw [if_pos hi4, if_pos h0, if_pos (by show i < 4; omega), hby]
    simp only [Option.bind_some]
    rw [if_pos he, hw]
   rw [he] at hF
   simpa using hF
  have hne : ¬ (f0.getD i.toNat 0 :: (f0.drop (i + 1).toNat).take d = rd MK i :: MK.drop (i + 1).toNat) := fun hh => he (List.cons.inj hh).1
  rw [if_neg hne] at hF
  rw [hF.no rfl]
  refine Ev.step (fun k => ?_) (l0_bad f0 x0 (i + 1) 52 (by decide) d (i + 1) (by omega) (by omega))
  simp only [qAg.l0]
  rw [if_pos hi4, if_pos h0, if_pos (by show i < 4; omega), hby]
  simp only [Option.bind_some]
  rw [if_neg he, hw]
  simp only [qAG.f, if_true, Option.bind_some]
def wholeC (b : List Int) : Option Obj4 := if b.take 4 = MK then objC (b.drop 4) else none
theorem unpack_ev (hb : qB6 f0) (R : Res) (h4 : ¬ 16384 < f0.length) (hF : Fin (tailP f0) errP (wholeC f0) R) : Ev (fun k => qAg.f k f0) R := by
 refine Ev.congr (f := fun k => qAg.l0 k f0 MK 4 0 f0 0 0) (fun k => ?_) (l0_good f0 hb f0 R 4 0 (by omega) (by omega) (by omega) hF)
 unfold qAg.f qCy.f
 rw [if_neg (by omega), if_pos (by omega)]; rfl
end
end Q
end
section
namespace RIns
open Go.RowKit Base Val Tbl Ins
def widR (op : Int) : Int := if op = 2 ∨ op = 3 ∨ op = 6 ∨ op = 7 then 1 else if op = 4 ∨ op = 5 ∨ op = 8 ∨ op = 9 ∨ op = 10 ∨ op = 15 then 2 else 0
theorem width_1 (op : Int) (h : op = 2 ∨ op = 3 ∨ op = 6 ∨ op = 7) (w : World) : Calls Tryz.prog 152 #[.int .i64 op] w fun e w' => e = .returned (.int .i64 1) ∧ w' = w := by
 rcases h with rfl | rfl | rfl | rfl
 all_goals (go_enter Tryz.func152, Tryz.ntmps152; go_wp2; go_ret; exact ⟨rfl, rfl⟩)
theorem width_2 (op : Int) (h : op = 4 ∨ op = 5 ∨ op = 8 ∨ op = 9 ∨ op = 10 ∨ op = 15) (w : World) : Calls Tryz.prog 152 #[.int .i64 op] w fun e w' => e = .returned (.int .i64 2) ∧ w' = w := by
 rcases h with rfl | rfl | rfl | rfl | rfl | rfl
 all_goals (go_enter Tryz.func152, Tryz.ntmps152; go_wp2; go_ret; exact ⟨rfl, rfl⟩)
theorem width_0 (op : Int) (h2 : (op == 2) = false) (h3 : (op == 3) = false) (h6 : (op == 6) = false) (h7 : (op == 7) = false) (h4 : (op == 4) = false) (h5 : (op == 5) = false) (h8 : (op == 8) = false) (h9 : (op == 9) = false) (h10 : (op == 10) = false) (h15 : (op == 15) = false) (w : World) : Calls Tryz.prog 152 #[.int .i64 op] w fun e w' => e = .returned (.int .i64 0) ∧ w' = w := by
 go_enter Tryz.func152, Tryz.ntmps152
 go_wp2
 go_ret
 exact ⟨rfl, rfl⟩
theorem qDq (op : Int) (w : World) : Calls Tryz.prog 152 #[.int .i64 op] w fun e w' => e = .returned (.int .i64 (widR op)) ∧ w' = w := by
 unfold widR
 by_cases h1 : op = 2 ∨ op = 3 ∨ op = 6 ∨ op = 7
 ·rw [if_pos h1]; exact width_1 op h1 w
 by_cases h2 : op = 4 ∨ op = 5 ∨ op = 8 ∨ op = 9 ∨ op = 10 ∨ op = 15
 ·rw [if_neg h1, if_pos h2]; exact width_2 op h2 w
 rw [if_neg h1, if_neg h2]
 exact width_0 op (beq_eq_false_iff_ne.mpr (by omega)) (beq_eq_false_iff_ne.mpr (by omega)) (beq_eq_false_iff_ne.mpr (by omega)) (beq_eq_false_iff_ne.mpr (by omega)) (beq_eq_false_iff_ne.mpr (by omega)) (beq_eq_false_iff_ne.mpr (by omega)) (beq_eq_false_iff_ne.mpr (by omega)) (beq_eq_false_iff_ne.mpr (by omega)) (beq_eq_false_iff_ne.mpr (by omega)) (beq_eq_false_iff_ne.mpr (by omega)) w
theorem rright_lo (op n ty b : Int) (hlo : (decide (op < 1)) = true) (w : World) : Calls Tryz.prog 111 #[.agg #[.int .i64 op, .int .i64 n, .int .i64 ty, .int .u64 b]] w fun e w' => e = .returned (.bool false) ∧ Below w.heap.size w w' := by
 go_enter Tryz.func111, Tryz.ntmps111
 go_wp2
 go_ret
 exact ⟨rfl, (Below.refl _ _).alloc (Nat.le_refl _) _⟩
theorem rright_hi (op n ty b : Int) (hlo : (decide (op < 1)) = false) (hhi : (decide (17 < op)) = true) (w : World) : Calls Tryz.prog 111 #[.agg #[.int .i64 op, .int .i64 n, .int .i64 ty, .int .u64 b]] w fun e w' => e = .returned (.bool false) ∧ Below w.heap.size w w' := by
 go_enter Tryz.func111, Tryz.ntmps111
 go_wp2
 go_ret
 exact ⟨rfl, (Below.refl _ _).alloc (Nat.le_refl _) _⟩
theorem rright_push_no (n ty b : Int) (h : (n == 0) = false) (w : World) : Calls Tryz.prog 111 #[.agg #[.int .i64 1, .int .i64 n, .int .i64 ty, .int .u64 b]] w fun e w' => e = .returned (.bool false) ∧ Below w.heap.size w w' := by
 go_enter Tryz.func111, Tryz.ntmps111
 go_wp2
 go_ret
 exact ⟨rfl, (Below.refl _ _).alloc (Nat.le_refl _) _⟩
theorem rright_push (ty b : Int) (hb : U64 b) (w : World) : Calls Tryz.prog 111 #[.agg #[.int .i64 1, .int .i64 0, .int .i64 ty, .int .u64 b]] w fun e w' => e = .returned (.bool (okV ty b)) ∧ Below w.heap.size w w' := by
 have HR := hid (Val.rright_any ty b hb)
 clear hb
 go_enter Tryz.func111, Tryz.ntmps111
 go_wp2_with fail
 go_at_call 37
 refine (HR.out _).mono ?_
 rintro e w1 ⟨rfl, hb1⟩
 go_wp2
 go_ret
 exact ⟨rfl, ((Below.refl _ _).alloc (Nat.le_refl _) _).trans (hb1.mono (by simp))⟩
theorem qCI (op n ty b : Int) (hlo : (decide (op < 1)) = false) (hhi : (decide (17 < op)) = false) (h1 : (op == 1) = false)  (hwd : widR op = 0) (w : World) : Calls Tryz.prog 111 #[.agg #[.int .i64 op, .int .i64 n, .int .i64 ty, .int .u64 b]] w fun e w' => e = .returned (.bool (decide (ty = 0 ∧ b = 0 ∧ 0 ≤ n ∧ n ≤ 0))) ∧ Below w.heap.size w w' := by
 have HW := hid (qDq op)
 rw [hwd] at HW
 clear hwd
 by_cases ht : ty = 0 ∧ b = 0 ∧ 0 ≤ n
 ·obtain ⟨rfl, rfl, hn⟩ := ht
  have hn' : decide (n < 0) = false := by simpa using hn
  go_enter Tryz.func111, Tryz.ntmps111
  go_wp2_with fail
  go_at_call 152
  refine (HW.out _).mono ?_
  rintro e w1 ⟨rfl, rfl⟩
  go_wp2
  all_goals (go_ret; refine ⟨congrArg (fun x => Ending.returned (Value.bool x)) ?_, (Below.refl _ _).alloc (Nat.le_refl _) _⟩; (rw [Bool.eq_iff_iff]; simp; omega))
 rw [show decide (ty = 0 ∧ b = 0 ∧ 0 ≤ n ∧ n ≤ 0) = false from by simp; omega]
 by_cases h2 : ty = 0
 rotate_left
 ·have h2' : (ty != 0) = true := bne_iff_ne.mpr h2
  clear ht h2
  go_enter Tryz.func111, Tryz.ntmps111
  go_wp2
  go_ret
  exact ⟨rfl, (Below.refl _ _).alloc (Nat.le_refl _) _⟩
 by_cases h3 : b = 0
 ·have hn' : decide (n < 0) = true := by simp; omega
  subst h2 h3
  clear ht
  go_enter Tryz.func111, Tryz.ntmps111
  go_wp2
  go_ret
  exact ⟨rfl, (Below.refl _ _).alloc (Nat.le_refl _) _⟩
 have h3' : (b != 0) = true := bne_iff_ne.mpr h3
 subst h2
 clear ht h3
 go_enter Tryz.func111, Tryz.ntmps111
 go_wp2
 go_ret
 exact ⟨rfl, (Below.refl _ _).alloc (Nat.le_refl _) _⟩
theorem qCJ (op n ty b : Int) (hlo : (decide (op < 1)) = false) (hhi : (decide (17 < op)) = false) (h1 : (op == 1) = false)  (hwd : widR op = 2) (w : World) : Calls Tryz.prog 111 #[.agg #[.int .i64 op, .int .i64 n, .int .i64 ty, .int .u64 b]] w fun e w' => e = .returned (.bool (decide (ty = 0 ∧ b = 0 ∧ 0 ≤ n ∧ n ≤ 65535))) ∧ Below w.heap.size w w' := by
 have HW := hid (qDq op)
 rw [hwd] at HW
 clear hwd
 by_cases ht : ty = 0 ∧ b = 0 ∧ 0 ≤ n
 ·obtain ⟨rfl, rfl, hn⟩ := ht
  have hn' : decide (n < 0) = false := by simpa using hn
  go_enter Tryz.func111, Tryz.ntmps111
  go_wp2_with fail
  go_at_call 152
  refine (HW.out _).mono ?_
  rintro e w1 ⟨rfl, rfl⟩
  go_wp2
  all_goals (go_ret; refine ⟨congrArg (fun x => Ending.returned (Value.bool x)) ?_, (Below.refl _ _).alloc (Nat.le_refl _) _⟩; (simp_all <;> omega))
 rw [show decide (ty = 0 ∧ b = 0 ∧ 0 ≤ n ∧ n ≤ 65535) = false from by simp; omega]
 by_cases h2 : ty = 0
 rotate_left
 ·have h2' : (ty != 0) = true := bne_iff_ne.mpr h2
  clear ht h2
  go_enter Tryz.func111, Tryz.ntmps111
  go_wp2
  go_ret
  exact ⟨rfl, (Below.refl _ _).alloc (Nat.le_refl _) _⟩
 by_cases h3 : b = 0
 ·have hn' : decide (n < 0) = true := by simp; omega
  subst h2 h3
  clear ht
  go_enter Tryz.func111, Tryz.ntmps111
  go_wp2
  go_ret
  exact ⟨rfl, (Below.refl _ _).alloc (Nat.le_refl _) _⟩
 have h3' : (b != 0) = true := bne_iff_ne.mpr h3
 subst h2
 clear ht h3
 go_enter Tryz.func111, Tryz.ntmps111
 go_wp2
 go_ret
 exact ⟨rfl, (Below.refl _ _).alloc (Nat.le_refl _) _⟩
theorem rright_6 (op n ty b : Int) (hlo : (decide (op < 1)) = false) (hhi : (decide (17 < op)) = false) (h1 : (op == 1) = false) (h6 : (op == 6) = true) (hwd : widR op = 1) (w : World) : Calls Tryz.prog 111 #[.agg #[.int .i64 op, .int .i64 n, .int .i64 ty, .int .u64 b]] w fun e w' => e = .returned (.bool (decide (ty = 0 ∧ b = 0 ∧ 0 ≤ n ∧ n ≤ 255 ∧ 1 ≤ n ∧ n ≤ 4))) ∧ Below w.heap.size w w' := by
 have HW := hid (qDq op)
 rw [hwd] at HW
 clear hwd
 by_cases ht : ty = 0 ∧ b = 0 ∧ 0 ≤ n
 ·obtain ⟨rfl, rfl, hn⟩ := ht
  have hn' : decide (n < 0) = false := by simpa using hn
  go_enter Tryz.func111, Tryz.ntmps111
  go_wp2_with fail
  go_at_call 152
  refine (HW.out _).mono ?_
  rintro e w1 ⟨rfl, rfl⟩
  go_wp2
  all_goals (go_ret; refine ⟨congrArg (fun x => Ending.returned (Value.bool x)) ?_, (Below.refl _ _).alloc (Nat.le_refl _) _⟩; (simp_all <;> omega))
 rw [show decide (ty = 0 ∧ b = 0 ∧ 0 ≤ n ∧ n ≤ 255 ∧ 1 ≤ n ∧ n ≤ 4) = false from by simp; omega]
 by_cases h2 : ty = 0
 rotate_left
 ·have h2' : (ty != 0) = true := bne_iff_ne.mpr h2
  clear ht h2
  go_enter Tryz.func111, Tryz.ntmps111
  go_wp2
  go_ret
  exact ⟨rfl, (Below.refl _ _).alloc (Nat.le_refl _) _⟩
 by_cases h3 : b = 0
 ·have hn' : decide (n < 0) = true := by simp; omega
  subst h2 h3
  clear ht
  go_enter Tryz.func111, Tryz.ntmps111
  go_wp2
  go_ret
  exact ⟨rfl, (Below.refl _ _).alloc (Nat.le_refl _) _⟩
 have h3' : (b != 0) = true := bne_iff_ne.mpr h3
 subst h2
 clear ht h3
 go_enter Tryz.func111, Tryz.ntmps111
 go_wp2
 go_ret
 exact ⟨rfl, (Below.refl _ _).alloc (Nat.le_refl _) _⟩
theorem rright_7 (op n ty b : Int) (hlo : (decide (op < 1)) = false) (hhi : (decide (17 < op)) = false) (h1 : (op == 1) = false) (h6 : (op == 6) = false) (h7 : (op == 7) = true) (hwd : widR op = 1) (w : World) : Calls Tryz.prog 111 #[.agg #[.int .i64 op, .int .i64 n, .int .i64 ty, .int .u64 b]] w fun e w' => e = .returned (.bool (decide (ty = 0 ∧ b = 0 ∧ 0 ≤ n ∧ n ≤ 255 ∧ 1 ≤ n ∧ n ≤ 11))) ∧ Below w.heap.size w w' := by
 have HW := hid (qDq op)
 rw [hwd] at HW
 clear hwd
 by_cases ht : ty = 0 ∧ b = 0 ∧ 0 ≤ n
 ·obtain ⟨rfl, rfl, hn⟩ := ht
  have hn' : decide (n < 0) = false := by simpa using hn
  go_enter Tryz.func111, Tryz.ntmps111
  go_wp2_with fail
  go_at_call 152
  refine (HW.out _).mono ?_
  rintro e w1 ⟨rfl, rfl⟩
  go_wp2
  all_goals (go_ret; refine ⟨congrArg (fun x => Ending.returned (Value.bool x)) ?_, (Below.refl _ _).alloc (Nat.le_refl _) _⟩; (simp_all <;> omega))
 rw [show decide (ty = 0 ∧ b = 0 ∧ 0 ≤ n ∧ n ≤ 255 ∧ 1 ≤ n ∧ n ≤ 11) = false from by simp; omega]
 by_cases h2 : ty = 0
 rotate_left
 ·have h2' : (ty != 0) = true := bne_iff_ne.mpr h2
  clear ht h2
  go_enter Tryz.func111, Tryz.ntmps111
  go_wp2
  go_ret
  exact ⟨rfl, (Below.refl _ _).alloc (Nat.le_refl _) _⟩
 by_cases h3 : b = 0
 ·have hn' : decide (n < 0) = true := by simp; omega
  subst h2 h3
  clear ht
  go_enter Tryz.func111, Tryz.ntmps111
  go_wp2
  go_ret
  exact ⟨rfl, (Below.refl _ _).alloc (Nat.le_refl _) _⟩
 have h3' : (b != 0) = true := bne_iff_ne.mpr h3
 subst h2
 clear ht h3
 go_enter Tryz.func111, Tryz.ntmps111
 go_wp2
 go_ret
 exact ⟨rfl, (Below.refl _ _).alloc (Nat.le_refl _) _⟩
theorem rright_w1 (op n ty b : Int) (hlo : (decide (op < 1)) = false) (hhi : (decide (17 < op)) = false) (h1 : (op == 1) = false) (h6 : (op == 6) = false) (h7 : (op == 7) = false) (hwd : widR op = 1) (w : World) : Calls Tryz.prog 111 #[.agg #[.int .i64 op, .int .i64 n, .int .i64 ty, .int .u64 b]] w fun e w' => e = .returned (.bool (decide (ty = 0 ∧ b = 0 ∧ 0 ≤ n ∧ n ≤ 255))) ∧ Below w.heap.size w w' := by
 have HW := hid (qDq op)
 rw [hwd] at HW
 clear hwd
 by_cases ht : ty = 0 ∧ b = 0 ∧ 0 ≤ n
 ·obtain ⟨rfl, rfl, hn⟩ := ht
  have hn' : decide (n < 0) = false := by simpa using hn
  go_enter Tryz.func111, Tryz.ntmps111
  go_wp2_with fail
  go_at_call 152
  refine (HW.out _).mono ?_
  rintro e w1 ⟨rfl, rfl⟩
  go_wp2
  all_goals (go_ret; refine ⟨congrArg (fun x => Ending.returned (Value.bool x)) ?_, (Below.refl _ _).alloc (Nat.le_refl _) _⟩; (simp_all <;> omega))
 rw [show decide (ty = 0 ∧ b = 0 ∧ 0 ≤ n ∧ n ≤ 255) = false from by simp; omega]
 by_cases h2 : ty = 0
 rotate_left
 ·have h2' : (ty != 0) = true := bne_iff_ne.mpr h2
  clear ht h2
  go_enter Tryz.func111, Tryz.ntmps111
  go_wp2
  go_ret
  exact ⟨rfl, (Below.refl _ _).alloc (Nat.le_refl _) _⟩
 by_cases h3 : b = 0
 ·have hn' : decide (n < 0) = true := by simp; omega
  subst h2 h3
  clear ht
  go_enter Tryz.func111, Tryz.ntmps111
  go_wp2
  go_ret
  exact ⟨rfl, (Below.refl _ _).alloc (Nat.le_refl _) _⟩
 have h3' : (b != 0) = true := bne_iff_ne.mpr h3
 subst h2
 clear ht h3
 go_enter Tryz.func111, Tryz.ntmps111
 go_wp2
 go_ret
 exact ⟨rfl, (Below.refl _ _).alloc (Nat.le_refl _) _⟩
theorem rright_ins (op n ty b : Int) (hb : U64 b) (w : World) : Calls Tryz.prog 111 #[insV op n ty b] w fun e w' => e = .returned (.bool (okI op n ty b)) ∧ Below w.heap.size w w' := by
 unfold insV
 by_cases hl : op < 1
 ·rw [okI_lo op n ty b hl]; exact rright_lo op n ty b (by simpa using hl) w
 by_cases hh : 17 < op
 ·rw [okI_hi op n ty b hh]; exact rright_hi op n ty b (by simpa using hl) (by simpa using hh) w
 have ho : op = 1 ∨ op = 2 ∨ op = 3 ∨ op = 4 ∨ op = 5 ∨ op = 6 ∨ op = 7 ∨ op = 8 ∨ op = 9 ∨ op = 10 ∨ op = 11 ∨ op = 12 ∨ op = 13 ∨ op = 14 ∨ op = 15 ∨ op = 16 ∨ op = 17 := by omega
 rcases ho with rfl | rfl | rfl | rfl | rfl | rfl | rfl | rfl | rfl | rfl | rfl | rfl | rfl | rfl | rfl | rfl | rfl
 ·rw [okI_1]
  by_cases hn : n = 0
  ·rw [hn]; exact rright_push ty b hb w
  rw [show (n == 0) = false from beq_eq_false_iff_ne.mpr hn]; exact rright_push_no n ty b (beq_eq_false_iff_ne.mpr hn) w
 ·rw [qBy 2 n ty b 255 rfl rfl rfl rfl rfl rfl]; exact rright_w1 2 n ty b rfl rfl rfl rfl rfl rfl w
 ·rw [qBy 3 n ty b 255 rfl rfl rfl rfl rfl rfl]; exact rright_w1 3 n ty b rfl rfl rfl rfl rfl rfl w
 ·rw [qBy 4 n ty b 65535 rfl rfl rfl rfl rfl rfl]; exact qCJ 4 n ty b rfl rfl rfl rfl w
 ·rw [qBy 5 n ty b 65535 rfl rfl rfl rfl rfl rfl]; exact qCJ 5 n ty b rfl rfl rfl rfl w
 ·rw [okI_6]; exact rright_6 6 n ty b rfl rfl rfl rfl rfl w
 ·rw [okI_7]; exact rright_7 7 n ty b rfl rfl rfl rfl rfl rfl w
 ·rw [qBy 8 n ty b 65535 rfl rfl rfl rfl rfl rfl]; exact qCJ 8 n ty b rfl rfl rfl rfl w
 ·rw [qBy 9 n ty b 65535 rfl rfl rfl rfl rfl rfl]; exact qCJ 9 n ty b rfl rfl rfl rfl w
 ·rw [qBy 10 n ty b 65535 rfl rfl rfl rfl rfl rfl]; exact qCJ 10 n ty b rfl rfl rfl rfl w
 ·rw [qBy 11 n ty b 0 rfl rfl rfl rfl rfl rfl]; exact qCI 11 n ty b rfl rfl rfl rfl w
 ·rw [qBy 12 n ty b 0 rfl rfl rfl rfl rfl rfl]; exact qCI 12 n ty b rfl rfl rfl rfl w
 ·rw [qBy 13 n ty b 0 rfl rfl rfl rfl rfl rfl]; exact qCI 13 n ty b rfl rfl rfl rfl w
 ·rw [qBy 14 n ty b 0 rfl rfl rfl rfl rfl rfl]; exact qCI 14 n ty b rfl rfl rfl rfl w
 ·rw [qBy 15 n ty b 65535 rfl rfl rfl rfl rfl rfl]; exact qCJ 15 n ty b rfl rfl rfl rfl w
 ·rw [qBy 16 n ty b 0 rfl rfl rfl rfl rfl rfl]; exact qCI 16 n ty b rfl rfl rfl rfl w
 rw [qBy 17 n ty b 0 rfl rfl rfl rfl rfl rfl]; exact qCI 17 n ty b rfl rfl rfl rfl w
end RIns
end
section
namespace Q
open Go.RowKit PA PC PB
def qBj.f (a0_0 : Int) (a0_1 : Int) (a0_2 : Int) (a0_3 : Int) : Option (Bool) := if 0 ≤ a0_3 ∧ a0_3 < 18446744073709551616 then some (Ins.okI a0_0 a0_1 a0_2 a0_3) else none
theorem qBj.calls (a0_0 : Int) (a0_1 : Int) (a0_2 : Int) (a0_3 : Int) (r : Bool) (w : World) (h : qBj.f a0_0 a0_1 a0_2 a0_3 = some r) :
  Calls Tryz.prog 111 #[.agg #[.int .i64 a0_0, .int .i64 a0_1, .int .i64 a0_2, .int .u64 a0_3]] w fun e w' => e = .returned (.bool r) ∧ Below w.heap.size w w' := by
 unfold qBj.f at h
 split at h
 case isFalse => cases h
 rename_i hs
 obtain rfl := Option.some.inj h
 exact RIns.rright_ins a0_0 a0_1 a0_2 a0_3 hs w
end Q
end
section
namespace Q
open Go.RowKit PA PC PB
attribute [local go_sem] qAU min2_int qBd min_two max_three min_three max_four min_four
def qAT.f (a0 : Int) : Option (Bool) := if a0 = 1 then (some true) else (if a0 = 2 then (some true) else (some (a0 == 3)))
theorem qAT.calls (a0 : Int) (r : Bool) (w : World) (h : qAT.f a0 = some r) :
  Calls Tryz.prog 110 #[.int .i64 a0] w fun e w' => e = .returned (.bool r) ∧ qAW w w' := by
 have H : (if a0 = 1 then (some true) else (if a0 = 2 then (some true) else (some (a0 == 3)))) = some r := h
 clear h
 by_cases c2 : a0 = 1
 ·rw [if_pos c2] at H
  have aA : (a0 == 1) = true := beq_iff_eq.mpr c2
  clear c2
  obtain rfl := Option.some.inj H
  go_enter Tryz.func110, Tryz.ntmps110
  go_wp2
  go_ret
  exact ⟨by rfl, by exact qAW.refl _⟩
 ·rw [if_neg c2] at H
  have aA : (a0 == 1) = false := bf c2
  have aC : (a0 != 1) = true := bne_iff_ne.mpr c2
  by_cases c3 : a0 = 2
  ·rw [if_pos c3] at H
   have aB : (a0 == 2) = true := beq_iff_eq.mpr c3
   clear c3
   obtain rfl := Option.some.inj H
   go_enter Tryz.func110, Tryz.ntmps110
   go_wp2
   go_ret
   exact ⟨by rfl, by exact qAW.refl _⟩
  ·rw [if_neg c3] at H
   have aB : (a0 == 2) = false := bf c3
   obtain rfl := Option.some.inj H
   go_enter Tryz.func110, Tryz.ntmps110
   go_wp2
   go_ret
   exact ⟨by rfl, by exact qAW.refl _⟩
mutual
def qAl.j0 : Nat → Bool → List Int → Int → List Int → List (S172) → Option (Bool)
 | 0, _, _, _, _, _ => none
 | k + 1, cG, aE, aG, aF, aC => if cG = true then (some false) else (qAl.l0 k 0 aE aG aF aC)
def qAl.l0 : Nat → Int → List Int → Int → List Int → List (S172) → Option (Bool)
 | 0, _, _, _, _, _ => none
 | k + 1, x3, aE, aG, aF, aC => if x3 < (aE.length : Int) then (if 0 ≤ x3 then ((qAT.f (rd aE x3)).bind fun ao => (if ao = true then (qAl.l0 k (wrap64 (x3 + 1)) aE aG aF aC) else (some false))) else (none)) else (qAl.l1 k 0 aE aG aF aC)
def qAl.l1 : Nat → Int → List Int → Int → List Int → List (S172) → Option (Bool)
 | 0, _, _, _, _, _ => none
 | k + 1, x4, aE, aG, aF, aC => if x4 < (aF.length : Int) then (if 0 ≤ x4 then ((qAT.f (rd aF x4)).bind fun ap => (if ap = true then (qAl.l1 k (wrap64 (x4 + 1)) aE aG aF aC) else (some false))) else (none)) else (qAl.l2 k 0 aE aG aF aC)
def qAl.l2 : Nat → Int → List Int → Int → List Int → List (S172) → Option (Bool)
 | 0, _, _, _, _, _ => none
 | k + 1, x5, aE, aG, aF, aC => if x5 < (aC.length : Int) then (if 0 ≤ x5 then ((qBj.f ((qAC aC x5).f0) ((qAC aC x5).f1) ((qAC aC x5).f2.f0) ((qAC aC x5).f2.f1)).bind fun aq => (if aq = true then (qAl.l2 k (wrap64 (x5 + 1)) aE aG aF aC) else (some false))) else (none)) else (some true)
end
def qAl.f (k : Nat) (l0_0 : List Int) (a0_1 : Int) (l0_2 : List Int) (l0_3 : List (S172)) : Option (Bool) := if (l0_0.length : Int) > 8 then (qAl.j0 k true l0_0 a0_1 l0_2 l0_3) else (if (l0_2.length : Int) > 64 then (qAl.j0 k true l0_0 a0_1 l0_2 l0_3) else (if (l0_3.length : Int) > 4096 then (qAl.j0 k true l0_0 a0_1 l0_2 l0_3) else ((qAT.f a0_1).bind fun a6 => (if a6 = true then (qAl.j0 k false l0_0 a0_1 l0_2 l0_3) else (qAl.j0 k (a0_1 != 0) l0_0 a0_1 l0_2 l0_3)))))
theorem qAl.calls (k : Nat) (aP : Option Addr) (aQ : Nat) (l0_0 : List Int) (a0_1 : Int) (aR : Option Addr) (aT : Nat) (l0_2 : List Int) (aS : Option Addr) (aU : Nat) (l0_3 : List (S172)) (r : Bool) (w : World) (hr0_0 : Kd.C (Kd.int .i64) w aP l0_0.length l0_0) (hc0_0 : l0_0.length ≤ aQ) (hr0_2 : Kd.C (Kd.int .i64) w aR l0_2.length l0_2) (hc0_2 : l0_2.length ≤ aT) (hr0_3 : Kd.C k172 w aS l0_3.length l0_3) (hc0_3 : l0_3.length ≤ aU) (h : qAl.f k l0_0 a0_1 l0_2 l0_3 = some r) :
  Calls Tryz.prog 38 #[.agg #[.slice aP l0_0.length aQ, .int .i64 a0_1, .slice aR l0_2.length aT, .slice aS l0_3.length aU]] w fun e w' => e = .returned (.bool r) ∧ Below w.heap.size w w' := by
 have ar := am hr0_0
 clear hr0_0 hc0_0
 have au := am hr0_2
 clear hr0_2 hc0_2
 have av := am hr0_3
 clear hr0_3 hc0_3
 have HB := am (Below.refl w.heap.size w)
 have H : (if (l0_0.length : Int) > 8 then (qAl.j0 k true l0_0 a0_1 l0_2 l0_3) else (if (l0_2.length : Int) > 64 then (qAl.j0 k true l0_0 a0_1 l0_2 l0_3) else (if (l0_3.length : Int) > 4096 then (qAl.j0 k true l0_0 a0_1 l0_2 l0_3) else ((qAT.f a0_1).bind fun a6 => (if a6 = true then (qAl.j0 k false l0_0 a0_1 l0_2 l0_3) else (qAl.j0 k (a0_1 != 0) l0_0 a0_1 l0_2 l0_3)))))) = some r := h
 clear h
 have bc := am H
 clear H
 go_enter Tryz.func38, Tryz.ntmps38
 go_upto_region 1 with ((with_reducible refine qAI (N := 1) rfl ?_); (try (refine qBI (by rfl) ?_; dsimp only)); refine bx 1 #[.slice aP l0_0.length aQ, .int .i64 a0_1, .slice aR l0_2.length aT, .slice aS l0_3.length aU] 98 ?_; intro aB hg w3 hbox hb; have n_ := a2 (qAp HB.o hb) (am (hbox)); clear HB; obtain ⟨HB, aA⟩ := n_; clear hb hbox hg)
 (skip)
 go_cut [35] (fun cF wc => ∃ (kq : Nat) (a5 : Bool), cF = .bool a5 ∧ qAj (qAl.j0 kq a5 l0_0 a0_1 l0_2 l0_3 = some r) ∧ qAj (kq ≤ k) ∧ qAj (wc.heap[aB]? = some (.cells #[(.slice aP l0_0.length aQ), .int .i64 a0_1, (.slice aR l0_2.length aT), (.slice aS l0_3.length aU)] 98 (0, 0))) ∧ qAj (Below w.heap.size w wc))
 case first =>
  have H := bc.o
  clear bc
  by_cases c4 : (l0_0.length : Int) > 8
  ·rw [if_pos c4] at H
   have bd := d1 c4
   clear c4
   (skip)
   have H' := am H
   clear H
   have bi : w3.cell? ⟨aB, 0, none⟩ = some (.slice aP l0_0.length aQ) := (qAa aA.o 0).trans rfl
   go_wp2
   go_meet
   case rel => exact ⟨_, (true), (by rfl), H', ⟨by omega⟩, ⟨by exact aA.o⟩, ⟨by exact HB.o⟩⟩
  rw [if_neg c4] at H
  have bd := d0 c4
  have cD : decide (8 < l0_0.length) = false := decide_eq_false (by omega)
  clear c4
  (skip)
  by_cases c6 : (l0_2.length : Int) > 64
  ·rw [if_pos c6] at H
   have bg := d1 c6
   clear c6
   have H' := am H
   clear H
   have bj : w3.cell? ⟨aB, 0, none⟩ = some (.slice aP l0_0.length aQ) := (qAa aA.o 0).trans rfl
   have bk : w3.cell? ⟨aB, 2, none⟩ = some (.slice aR l0_2.length aT) := (qAa aA.o 2).trans rfl
   go_wp2
   go_meet
   case rel => exact ⟨_, (true), (by rfl), H', ⟨by omega⟩, ⟨by exact aA.o⟩, ⟨by exact HB.o⟩⟩
  rw [if_neg c6] at H
  have bg := d0 c6
  have cE : decide (64 < l0_2.length) = false := decide_eq_false (by omega)
  clear c6
  by_cases c8 : (l0_3.length : Int) > 4096
  ·rw [if_pos c8] at H
   replace c8 := d1 c8
   have H' := am H
   clear H
   have bl : w3.cell? ⟨aB, 0, none⟩ = some (.slice aP l0_0.length aQ) := (qAa aA.o 0).trans rfl
   have bo : w3.cell? ⟨aB, 2, none⟩ = some (.slice aR l0_2.length aT) := (qAa aA.o 2).trans rfl
   have bp : w3.cell? ⟨aB, 3, none⟩ = some (.slice aS l0_3.length aU) := (qAa aA.o 3).trans rfl
   go_wp2
   go_meet
   case rel => exact ⟨_, (true), (by rfl), H', ⟨by omega⟩, ⟨by exact aA.o⟩, ⟨by exact HB.o⟩⟩
  rw [if_neg c8] at H
  replace c8 := d0 c8
  replace H := bm H
  obtain ⟨a6, bG, H⟩ := H
  replace H : (if a6 = true then (qAl.j0 k false l0_0 a0_1 l0_2 l0_3) else (qAl.j0 k (a0_1 != 0) l0_0 a0_1 l0_2 l0_3)) = some r := H
  have br := am bG
  clear bG
  by_cases bP : a6 = true
  ·subst bP
   replace H : (qAl.j0 k false l0_0 a0_1 l0_2 l0_3) = some r := by rw [if_pos rfl] at H; exact H
   have H' := am H
   clear H
   have bX : w3.cell? ⟨aB, 0, none⟩ = some (.slice aP l0_0.length aQ) := (qAa aA.o 0).trans rfl
   have bY : w3.cell? ⟨aB, 1, none⟩ = some (.int .i64 a0_1) := (qAa aA.o 1).trans rfl
   have bZ : w3.cell? ⟨aB, 2, none⟩ = some (.slice aR l0_2.length aT) := (qAa aA.o 2).trans rfl
   have b0 : w3.cell? ⟨aB, 3, none⟩ = some (.slice aS l0_3.length aU) := (qAa aA.o 3).trans rfl
   go_wp2_with (go_at_call 110; (with_reducible refine (qAT.calls a0_1 true _ br.o).mono ?_); rintro e w' ⟨rfl, ⟨nd, rfl⟩⟩)
   go_meet
   case rel => exact ⟨_, (false), (by rfl), H', ⟨by omega⟩, ⟨by (with_reducible repeat (refine qAf ?_ _)); exact aA.o⟩, ⟨by repeat (with_reducible first | exact HB.o | apply qAd)⟩⟩
  replace bP := Bool.eq_false_iff.mpr bP
  subst bP
  replace H : (qAl.j0 k (a0_1 != 0) l0_0 a0_1 l0_2 l0_3) = some r := by rw [if_neg (show ¬ (false = true) by decide)] at H; exact H
  have H' := am H
  clear H
  have b1 : w3.cell? ⟨aB, 0, none⟩ = some (.slice aP l0_0.length aQ) := (qAa aA.o 0).trans rfl
  have b2 : w3.cell? ⟨aB, 1, none⟩ = some (.int .i64 a0_1) := (qAa aA.o 1).trans rfl
  have b3 : w3.cell? ⟨aB, 2, none⟩ = some (.slice aR l0_2.length aT) := (qAa aA.o 2).trans rfl
  have b4 : w3.cell? ⟨aB, 3, none⟩ = some (.slice aS l0_3.length aU) := (qAa aA.o 3).trans rfl
  go_wp2_with (go_at_call 110; (with_reducible refine (qAT.calls a0_1 false _ br.o).mono ?_); rintro e w' ⟨rfl, ⟨nd, rfl⟩⟩)
  go_meet
  case rel => exact ⟨_, (a0_1 != 0), (by rfl), H', ⟨by omega⟩, ⟨by (with_reducible repeat (refine qAf ?_ _)); exact aA.o⟩, ⟨by repeat (with_reducible first | exact HB.o | apply qAd)⟩⟩
 case rest =>
  clear bc
  obtain ⟨kq, a5, rfl, HA, bB, aA, HB⟩ := hcut
  cases kq with
  | zero => exact absurd HA.o (by simp [qAl.j0])
  | succ bq =>
   have H := HA.o
   clear HA
   simp only [qAl.j0] at H
   by_cases bQ : a5 = true
   ·subst bQ
    replace H : (some false) = some r := by rw [if_pos rfl] at H; exact H
    obtain rfl := Option.some.inj H
    go_wp2
    go_ret
    exact ⟨by rfl, by exact HB.o⟩
   replace bQ := Bool.eq_false_iff.mpr bQ
   subst bQ
   replace H : (qAl.l0 bq 0 l0_0 a0_1 l0_2 l0_3) = some r := by rw [if_neg (show ¬ (false = true) by decide)] at H; exact H
   have H' := am H
   clear H
   go_wp2
   go_loopg [3] bq (fun kq v3 w' => ∃ (aH : Int), v3 = .int .i64 aH ∧ qAj (qAl.l0 kq aH l0_0 a0_1 l0_2 l0_3 = some r) ∧ qAj (kq ≤ bq) ∧ qAj (w'.heap[aB]? = some (.cells #[(.slice aP l0_0.length aQ), .int .i64 a0_1, (.slice aR l0_2.length aT), (.slice aS l0_3.length aU)] 98 (0, 0))) ∧ qAj (Below w.heap.size w w'))
   case atStart => exact ⟨(0), (by rfl), H', ⟨Nat.le_refl _⟩, ⟨by exact aA.o⟩, ⟨by exact HB.o⟩⟩
   case round =>
    clear H'
    obtain ⟨aH, rfl, HA, bC, aA, HB⟩ := hrel
    cases gk with
    | zero => exact absurd HA.o (by simp [qAl.l0])
    | succ k2 =>
     have H := HA.o
     clear HA
     simp only [qAl.l0] at H
     by_cases bD : aH < (l0_0.length : Int)
     ·rw [if_pos bD] at H
      replace bD := d1 bD
      obtain ⟨bR, H⟩ := gd H
      replace bR := d1 bR
      replace H := bm H
      obtain ⟨ao, bH, H⟩ := H
      replace H : (if ao = true then (qAl.l0 k2 (wrap64 (aH + 1)) l0_0 a0_1 l0_2 l0_3) else (some false)) = some r := H
      have bs := am bH
      clear bH
      by_cases bS : ao = true
      rotate_left
      ·replace bS := Bool.eq_false_iff.mpr bS
       subst bS
       replace H : (some false) = some r := by rw [if_neg (show ¬ (false = true) by decide)] at H; exact H
       obtain rfl := Option.some.inj H
       have b6 : wr.cell? ⟨aB, 0, none⟩ = some (.slice aP l0_0.length aQ) := (qAa aA.o 0).trans rfl
       have aV : 0 ≤ aH := od (by assumption)
       have aY : aH < (l0_0.length : Int) := od (by assumption)
       obtain ⟨bK, ay, aJ⟩ := Kd.at_int ar.o aH aV aY
       cases ay
       replace aJ := (HB.o.cell (World.block_lt_of_cell? w _ aJ)).trans aJ
       replace aV := eq_true aV
       replace aY := eq_true aY
       go_wp2_with ((with_reducible refine qAv (f := 110) rfl ?_); refine gL 50 Tryz.func110 #[.int .i64 (rd l0_0 aH)] ?_; (with_reducible refine (qAT.calls (rd l0_0 aH) false _ bs.o).mono ?_); rintro e w' ⟨rfl, ⟨nd, rfl⟩⟩; refine ⟨_, rfl, ?_⟩)
       go_ret
       exact ⟨by rfl, by repeat (with_reducible first | exact HB.o | apply qAd)⟩
      subst bS
      replace H : (qAl.l0 k2 (wrap64 (aH + 1)) l0_0 a0_1 l0_2 l0_3) = some r := by rw [if_pos rfl] at H; exact H
      have H' := am H
      clear H
      have b5 : wr.cell? ⟨aB, 0, none⟩ = some (.slice aP l0_0.length aQ) := (qAa aA.o 0).trans rfl
      have aV : 0 ≤ aH := od (by assumption)
      have aY : aH < (l0_0.length : Int) := od (by assumption)
      obtain ⟨bK, ay, aJ⟩ := Kd.at_int ar.o aH aV aY
      cases ay
      replace aJ := (HB.o.cell (World.block_lt_of_cell? w _ aJ)).trans aJ
      replace aV := eq_true aV
      replace aY := eq_true aY
      go_wp2_with ((with_reducible refine qAv (f := 110) rfl ?_); refine gL 50 Tryz.func110 #[.int .i64 (rd l0_0 aH)] ?_; (with_reducible refine (qAT.calls (rd l0_0 aH) true _ bs.o).mono ?_); rintro e w' ⟨rfl, ⟨nd, rfl⟩⟩; refine ⟨_, rfl, ?_⟩)
      go_roundg k2
      case measure => have := bB.o; have := bC.o; omega
      case rel => exact ⟨(wrap64 (aH + 1)), (by rfl), H', ⟨by have := bB.o; have := bC.o; omega⟩, ⟨by (with_reducible repeat (refine qAf ?_ _)); exact aA.o⟩, ⟨by repeat (with_reducible first | exact HB.o | apply qAd)⟩⟩
     rw [if_neg bD] at H
     replace bD := d0 bD
     have H' := am H
     clear H
     have a7 : wr.cell? ⟨aB, 0, none⟩ = some (.slice aP l0_0.length aQ) := (qAa aA.o 0).trans rfl
     have a8 : wr.cell? ⟨aB, 1, none⟩ = some (.int .i64 a0_1) := (qAa aA.o 1).trans rfl
     have a9 : wr.cell? ⟨aB, 2, none⟩ = some (.slice aR l0_2.length aT) := (qAa aA.o 2).trans rfl
     have aa : wr.cell? ⟨aB, 3, none⟩ = some (.slice aS l0_3.length aU) := (qAa aA.o 3).trans rfl
     have af := qAc aA.o 0
     have ag := qAc aA.o 1
     have ah := qAc aA.o 2
     have ai := qAc aA.o 3
     go_wp2
     go_loopg [4] k2 (fun kq v4 w' => ∃ (aI : Int), v4 = .int .i64 aI ∧ qAj (qAl.l1 kq aI l0_0 a0_1 l0_2 l0_3 = some r) ∧ qAj (kq ≤ k2) ∧ qAj (w'.heap[aB]? = some (.cells #[(.slice aP l0_0.length aQ), .int .i64 a0_1, (.slice aR l0_2.length aT), (.slice aS l0_3.length aU)] 98 (0, 0))) ∧ qAj (Below w.heap.size w w'))
     case atStart => exact ⟨(0), (by rfl), H', ⟨Nat.le_refl _⟩, ⟨by exact aA.o⟩, ⟨by exact HB.o⟩⟩
     case round =>
      clear H'
      obtain ⟨aI, rfl, HA, bO, aA, HB⟩ := hrel
      cases gk with
      | zero => exact absurd HA.o (by simp [qAl.l1])
      | succ k3 =>
       have H := HA.o
       clear HA
       simp only [qAl.l1] at H
       by_cases bE : aI < (l0_2.length : Int)
       ·rw [if_pos bE] at H
        replace bE := d1 bE
        obtain ⟨bT, H⟩ := gd H
        replace bT := d1 bT
        replace H := bm H
        obtain ⟨ap, bI, H⟩ := H
        replace H : (if ap = true then (qAl.l1 k3 (wrap64 (aI + 1)) l0_0 a0_1 l0_2 l0_3) else (some false)) = some r := H
        have bu := am bI
        clear bI
        by_cases bU : ap = true
        rotate_left
        ·replace bU := Bool.eq_false_iff.mpr bU
         subst bU
         replace H : (some false) = some r := by rw [if_neg (show ¬ (false = true) by decide)] at H; exact H
         obtain rfl := Option.some.inj H
         have b8 : wr.cell? ⟨aB, 2, none⟩ = some (.slice aR l0_2.length aT) := (qAa aA.o 2).trans rfl
         have aW : 0 ≤ aI := od (by assumption)
         have aZ : aI < (l0_2.length : Int) := od (by assumption)
         obtain ⟨bL, az, aK⟩ := Kd.at_int au.o aI aW aZ
         cases az
         replace aK := (HB.o.cell (World.block_lt_of_cell? w _ aK)).trans aK
         replace aW := eq_true aW
         replace aZ := eq_true aZ
         go_wp2_with ((with_reducible refine qAv (f := 110) rfl ?_); refine gL 64 Tryz.func110 #[.int .i64 (rd l0_2 aI)] ?_; (with_reducible refine (qAT.calls (rd l0_2 aI) false _ bu.o).mono ?_); rintro e w' ⟨rfl, ⟨nd, rfl⟩⟩; refine ⟨_, rfl, ?_⟩)
         go_ret
         exact ⟨by rfl, by repeat (with_reducible first | exact HB.o | apply qAd)⟩
        subst bU
        replace H : (qAl.l1 k3 (wrap64 (aI + 1)) l0_0 a0_1 l0_2 l0_3) = some r := by rw [if_pos rfl] at H; exact H
        have H' := am H
        clear H
        have b7 : wr.cell? ⟨aB, 2, none⟩ = some (.slice aR l0_2.length aT) := (qAa aA.o 2).trans rfl
        have aW : 0 ≤ aI := od (by assumption)
        have aZ : aI < (l0_2.length : Int) := od (by assumption)
        obtain ⟨bL, az, aK⟩ := Kd.at_int au.o aI aW aZ
        cases az
        replace aK := (HB.o.cell (World.block_lt_of_cell? w _ aK)).trans aK
        replace aW := eq_true aW
        replace aZ := eq_true aZ
        go_wp2_with ((with_reducible refine qAv (f := 110) rfl ?_); refine gL 64 Tryz.func110 #[.int .i64 (rd l0_2 aI)] ?_; (with_reducible refine (qAT.calls (rd l0_2 aI) true _ bu.o).mono ?_); rintro e w' ⟨rfl, ⟨nd, rfl⟩⟩; refine ⟨_, rfl, ?_⟩)
        go_roundg k3
        case measure => have := bB.o; have := bC.o; have := bO.o; omega
        case rel => exact ⟨(wrap64 (aI + 1)), (by rfl), H', ⟨by have := bB.o; have := bC.o; have := bO.o; omega⟩, ⟨by (with_reducible repeat (refine qAf ?_ _)); exact aA.o⟩, ⟨by repeat (with_reducible first | exact HB.o | apply qAd)⟩⟩
       rw [if_neg bE] at H
       replace bE := d0 bE
       have H' := am H
       clear H
       have ab : wr.cell? ⟨aB, 0, none⟩ = some (.slice aP l0_0.length aQ) := (qAa aA.o 0).trans rfl
       have ac : wr.cell? ⟨aB, 1, none⟩ = some (.int .i64 a0_1) := (qAa aA.o 1).trans rfl
       have ad : wr.cell? ⟨aB, 2, none⟩ = some (.slice aR l0_2.length aT) := (qAa aA.o 2).trans rfl
       have ae : wr.cell? ⟨aB, 3, none⟩ = some (.slice aS l0_3.length aU) := (qAa aA.o 3).trans rfl
       have aj := qAc aA.o 0
       have ak := qAc aA.o 1
       have al := qAc aA.o 2
       have an := qAc aA.o 3
       go_wp2
       go_loopg [5] k3 (fun kq v5 w' => ∃ (aD : Int), v5 = .int .i64 aD ∧ qAj (qAl.l2 kq aD l0_0 a0_1 l0_2 l0_3 = some r) ∧ qAj (kq ≤ k3) ∧ qAj (w'.heap[aB]? = some (.cells #[(.slice aP l0_0.length aQ), .int .i64 a0_1, (.slice aR l0_2.length aT), (.slice aS l0_3.length aU)] 98 (0, 0))) ∧ qAj (Below w.heap.size w w'))
       case atStart => exact ⟨(0), (by rfl), H', ⟨Nat.le_refl _⟩, ⟨by exact aA.o⟩, ⟨by exact HB.o⟩⟩
       case round =>
        clear H'
        obtain ⟨aD, rfl, HA, bz, aA, HB⟩ := hrel
        cases gk with
        | zero => exact absurd HA.o (by simp [qAl.l2])
        | succ k4 =>
         have H := HA.o
         clear HA
         simp only [qAl.l2] at H
         by_cases bF : aD < (l0_3.length : Int)
         rotate_left
         ·rw [if_neg bF] at H
          replace bF := d0 bF
          obtain rfl := Option.some.inj H
          have bb : wr.cell? ⟨aB, 3, none⟩ = some (.slice aS l0_3.length aU) := (qAa aA.o 3).trans rfl
          go_wp2
          go_ret
          exact ⟨by rfl, by exact HB.o⟩
         rw [if_pos bF] at H
         replace bF := d1 bF
         obtain ⟨bV, H⟩ := gd H
         replace bV := d1 bV
         replace H := bm H
         obtain ⟨aq, bJ, H⟩ := H
         replace H : (if aq = true then (qAl.l2 k4 (wrap64 (aD + 1)) l0_0 a0_1 l0_2 l0_3) else (some false)) = some r := H
         have bw := am bJ
         clear bJ
         by_cases bW : aq = true
         rotate_left
         ·replace bW := Bool.eq_false_iff.mpr bW
          subst bW
          replace H : (some false) = some r := by rw [if_neg (show ¬ (false = true) by decide)] at H; exact H
          obtain rfl := Option.some.inj H
          have ba : wr.cell? ⟨aB, 3, none⟩ = some (.slice aS l0_3.length aU) := (qAa aA.o 3).trans rfl
          have aX : 0 ≤ aD := od (by assumption)
          have a4 : aD < (l0_3.length : Int) := od (by assumption)
          obtain ⟨bM, bA, aL, aM, aN, aO⟩ := qCM av.o aD aX a4
          cases bA
          replace aL := (HB.o.cell (World.block_lt_of_cell? w _ aL)).trans aL
          replace aM := (HB.o.cell (World.block_lt_of_cell? w _ aM)).trans aM
          replace aN := (HB.o.cell (World.block_lt_of_cell? w _ aN)).trans aN
          replace aO := (HB.o.cell (World.block_lt_of_cell? w _ aO)).trans aO
          replace aX := eq_true aX
          replace a4 := eq_true a4
          go_wp2_with ((with_reducible refine qAv (f := 111) rfl ?_); refine gL 78 Tryz.func111 #[.agg #[.int .i64 ((qAC l0_3 aD).f0), .int .i64 ((qAC l0_3 aD).f1), .int .i64 ((qAC l0_3 aD).f2.f0), .int .u64 ((qAC l0_3 aD).f2.f1)]] ?_; (with_reducible refine (qBj.calls ((qAC l0_3 aD).f0) ((qAC l0_3 aD).f1) ((qAC l0_3 aD).f2.f0) ((qAC l0_3 aD).f2.f1) false _ bw.o).mono ?_); rintro e cI ⟨rfl, hb⟩; refine ⟨_, rfl, ?_⟩; have n_ := am (qAp HB.o hb); clear aA HB; have HB := n_; clear n_; (skip))
          go_ret
          exact ⟨by rfl, by exact HB.o⟩
         subst bW
         replace H : (qAl.l2 k4 (wrap64 (aD + 1)) l0_0 a0_1 l0_2 l0_3) = some r := by rw [if_pos rfl] at H; exact H
         have H' := am H
         clear H
         have b9 : wr.cell? ⟨aB, 3, none⟩ = some (.slice aS l0_3.length aU) := (qAa aA.o 3).trans rfl
         have aX : 0 ≤ aD := od (by assumption)
         have a4 : aD < (l0_3.length : Int) := od (by assumption)
         obtain ⟨bM, bA, aL, aM, aN, aO⟩ := qCM av.o aD aX a4
         cases bA
         replace aL := (HB.o.cell (World.block_lt_of_cell? w _ aL)).trans aL
         replace aM := (HB.o.cell (World.block_lt_of_cell? w _ aM)).trans aM
         replace aN := (HB.o.cell (World.block_lt_of_cell? w _ aN)).trans aN
         replace aO := (HB.o.cell (World.block_lt_of_cell? w _ aO)).trans aO
         replace aX := eq_true aX
         replace a4 := eq_true a4
         go_wp2_with ((with_reducible refine qAv (f := 111) rfl ?_); refine gL 78 Tryz.func111 #[.agg #[.int .i64 ((qAC l0_3 aD).f0), .int .i64 ((qAC l0_3 aD).f1), .int .i64 ((qAC l0_3 aD).f2.f0), .int .u64 ((qAC l0_3 aD).f2.f1)]] ?_; (with_reducible refine (qBj.calls ((qAC l0_3 aD).f0) ((qAC l0_3 aD).f1) ((qAC l0_3 aD).f2.f0) ((qAC l0_3 aD).f2.f1) true _ bw.o).mono ?_); rintro e cH ⟨rfl, hb⟩; refine ⟨_, rfl, ?_⟩; have n_ := a2 (qAt aA.o hb) (am (qAp HB.o hb)); clear aA HB; obtain ⟨aA, HB⟩ := n_; (skip))
         go_roundg k4
         case measure => have := bB.o; have := bC.o; have := bO.o; have := bz.o; omega
         case rel => exact ⟨(wrap64 (aD + 1)), (by rfl), H', ⟨by have := bB.o; have := bC.o; have := bO.o; have := bz.o; omega⟩, ⟨by exact aA.o⟩, ⟨by exact HB.o⟩⟩
def qAL.l0 : Nat → List ByteArray → ByteArray → Int → Option (Int × Bool)
 | 0, _, _, _ => none
 | k + 1, x0, x1, x6 => if x6 < (x0.length : Int) then (if 0 ≤ x6 then (if (rdOf ByteArray.empty x0 x6).toList = x1.toList then (some (x6, true)) else (qAL.l0 k x0 x1 (wrap64 (x6 + 1)))) else (none)) else (some (0, false))
def qAL.f (k : Nat) (l0 : List ByteArray) (a1 : ByteArray) : Option (Int × Bool) := qAL.l0 k l0 a1 0
theorem qAL.calls (k : Nat) (A0 : Option Addr) (c0 : Nat) (l0 : List ByteArray) (a1 : ByteArray) (r1 : Int) (r2 : Bool) (w : World) (hr0 : Kd.C Kd.string w A0 l0.length l0) (hc0 : l0.length ≤ c0) (h : qAL.f k l0 a1 = some (r1, r2)) :
  Calls Tryz.prog 112 #[.slice A0 l0.length c0, .string a1] w fun e w' => e = .returned (.tuple #[.int .i64 r1, .bool r2]) ∧ qAW w w' := by
 have aJ := am hr0
 clear hr0 hc0
 have H : (qAL.l0 k l0 a1 0) = some (r1, r2) := h
 clear h
 have H' := am H
 clear H
 go_enter Tryz.func112, Tryz.ntmps112
 go_wp2
 go_loopg [6] k (fun kq v6 w' => ∃ (aA : Int), v6 = .int .i64 aA ∧ qAj (qAL.l0 kq l0 a1 aA = some (r1, r2)) ∧ qAj (kq ≤ k) ∧ qAW w w')
 case atStart => exact ⟨(0), (by rfl), H', ⟨Nat.le_refl _⟩, by exact qAW.refl _⟩
 case round =>
  clear H'
  obtain ⟨aA, rfl, HA, aI, ⟨m1, rfl⟩⟩ := hrel
  cases gk with
  | zero => exact absurd HA.o (by simp [qAL.l0])
  | succ k1 =>
   have H := HA.o
   clear HA
   simp only [qAL.l0] at H
   by_cases c3 : aA < (l0.length : Int)
   rotate_left
   ·rw [if_neg c3] at H
    replace c3 := d0 c3
    simp only [Option.some.injEq, Prod.mk.injEq] at H
    obtain ⟨rfl, rfl⟩ := H
    go_wp2
    go_ret2
    exact ⟨by rfl, by repeat (first | exact qAW.refl _ | apply qAW.step)⟩
   rw [if_pos c3] at H
   replace c3 := d1 c3
   obtain ⟨c4, H⟩ := gd H
   replace c4 := d1 c4
   by_cases c5 : (rdOf ByteArray.empty l0 aA).toList = a1.toList
   ·rw [if_pos c5] at H
    have aH : ((rdOf ByteArray.empty l0 aA).toList == a1.toList) = true := beq_iff_eq.mpr c5
    clear c5
    simp only [Option.some.injEq, Prod.mk.injEq] at H
    obtain ⟨rfl, rfl⟩ := H
    have aB : 0 ≤ aA := od (by assumption)
    have aC : aA < (l0.length : Int) := od (by assumption)
    obtain ⟨aF, aE, aD⟩ := Kd.at_string aJ.o aA aB aC
    cases aE
    replace aB := eq_true aB
    replace aC := eq_true aC
    go_wp2
    go_ret2
    exact ⟨by rfl, by repeat (first | exact qAW.refl _ | apply qAW.step)⟩
   rw [if_neg c5] at H
   have aH : ((rdOf ByteArray.empty l0 aA).toList == a1.toList) = false := bf c5
   have H' := am H
   clear H
   have aB : 0 ≤ aA := od (by assumption)
   have aC : aA < (l0.length : Int) := od (by assumption)
   obtain ⟨aF, aE, aD⟩ := Kd.at_string aJ.o aA aB aC
   cases aE
   replace aB := eq_true aB
   replace aC := eq_true aC
   go_wp2
   go_roundg k1
   case measure => have := aI.o; omega
   case rel => exact ⟨(wrap64 (aA + 1)), (by rfl), H', ⟨by have := aI.o; omega⟩, by repeat (first | exact qAW.refl _ | apply qAW.step)⟩
def qBs.f (k : Nat) (l0 : List ByteArray) (a1 : ByteArray) : Option (Bool) := (qAL.f k l0 a1).bind fun aA => (some aA.2)
theorem qBs.calls (k : Nat) (A0 : Option Addr) (c0 : Nat) (l0 : List ByteArray) (a1 : ByteArray) (r : Bool) (w : World) (hr0 : Kd.C Kd.string w A0 l0.length l0) (hc0 : l0.length ≤ c0) (h : qBs.f k l0 a1 = some r) :
  Calls Tryz.prog 39 #[.slice A0 l0.length c0, .string a1] w fun e w' => e = .returned (.bool r) ∧ qAW w w' := by
 have aF := am hr0
 have aE := am hc0
 clear hr0 hc0
 have H : ((qAL.f k l0 a1).bind fun aA => (some aA.2)) = some r := h
 clear h
 replace H := bm H
 obtain ⟨⟨aC, aB⟩, aD, H⟩ := H
 replace H : (some aB) = some r := H
 have A3 := am aD
 clear aD
 obtain rfl := Option.some.inj H
 go_enter Tryz.func39, Tryz.ntmps39
 go_wp2_with ((with_reducible refine qAv (f := 112) rfl ?_); refine gL 10 Tryz.func112 #[.slice A0 l0.length c0, .string a1] ?_; (with_reducible refine (qAL.calls k _ _ l0 a1 aC aB _ ?side1 ?side2 A3.o).mono ?_); (case side1 => exact aF.o); (case side2 => exact aE.o); rintro e w' ⟨rfl, ⟨nd, rfl⟩⟩; refine ⟨_, rfl, ?_⟩)
 go_ret
 exact ⟨by rfl, by repeat (first | exact qAW.refl _ | apply qAW.step)⟩
def qAB.j0 : Nat → Int → Bool → Option (Int)
 | 0, _, _ => none
 | k + 1, x4, x5 => if x5 = true then (some 1) else (if x4 = 10 then (some 2) else (some 0))
def qAB.f (k : Nat) (a0_0 : Int) (a0_1 : Int) (a0_2 : Int) (a0_3 : Int) : Option (Int) := if a0_0 = 4 then (qAB.j0 k a0_0 (a0_0 == 4)) else (qAB.j0 k a0_0 (a0_0 == 5))
theorem qAB.calls (k : Nat) (a0_0 : Int) (a0_1 : Int) (a0_2 : Int) (a0_3 : Int) (r : Int) (w : World) (h : qAB.f k a0_0 a0_1 a0_2 a0_3 = some r) :
  Calls Tryz.prog 113 #[.agg #[.int .i64 a0_0, .int .i64 a0_1, .int .i64 a0_2, .int .u64 a0_3]] w fun e w' => e = .returned (.int .i64 r) ∧ Below w.heap.size w w' := by
 have HB := am (Below.refl w.heap.size w)
 have H : (if a0_0 = 4 then (qAB.j0 k a0_0 (a0_0 == 4)) else (qAB.j0 k a0_0 (a0_0 == 5))) = some r := h
 clear h
 have aM := am H
 clear H
 go_enter Tryz.func113, Tryz.ntmps113
 go_upto_if 5 with ((with_reducible refine qAI (N := 1) rfl ?_); refine bx 1 #[.int .i64 a0_0, .int .i64 a0_1, .int .i64 a0_2, .int .u64 a0_3] 172 ?_; intro aB hg w3 hbox hb; have n_ := a2 (qAp HB.o hb) (am (hbox)); clear HB; obtain ⟨HB, aA⟩ := n_; clear hb hbox hg; have aE : w3.cell? ⟨aB, 0, none⟩ = some (.int .i64 a0_0) := (qAa aA.o 0).trans rfl; have aF : w3.cell? ⟨aB, 1, none⟩ = some (.int .i64 a0_1) := (qAa aA.o 1).trans rfl; have aG : w3.cell? ⟨aB, 2, none⟩ = some (.int .i64 a0_2) := (qAa aA.o 2).trans rfl; have aH : w3.cell? ⟨aB, 3, none⟩ = some (.int .u64 a0_3) := (qAa aA.o 3).trans rfl; have aI := qAc aA.o 0; have aJ := qAc aA.o 1; have aK := qAc aA.o 2; have aL := qAc aA.o 3)
 (skip)
 go_cut [5] (fun v5 wc => ∃ (kq : Nat) (aC : Bool), v5 = .bool aC ∧ qAj (qAB.j0 kq a0_0 aC = some r) ∧ qAj (kq ≤ k) ∧ qAj (wc.heap[aB]? = some (.cells #[.int .i64 a0_0, .int .i64 a0_1, .int .i64 a0_2, .int .u64 a0_3] 172 (0, 0))) ∧ qAj (Below w.heap.size w wc))
 case first =>
  have H := aM.o
  clear aM
  by_cases c5 : a0_0 = 4
  rotate_left
  ·rw [if_neg c5] at H
   have aD : (a0_0 == 4) = false := bf c5
   (rw [aD])
   have H' := am H
   clear H
   go_wp2
   go_meet
   case rel => exact ⟨_, (a0_0 == 5), (by rfl), H', ⟨by omega⟩, ⟨by exact aA.o⟩, ⟨by exact HB.o⟩⟩
  rw [if_pos c5] at H
  have aD : (a0_0 == 4) = true := beq_iff_eq.mpr c5
  clear c5
  (rw [aD])
  have H' := am H
  clear H
  go_wp2
  go_meet
  case rel => exact ⟨_, (a0_0 == 4), (by (simp [*]; done)), H', ⟨by omega⟩, ⟨by exact aA.o⟩, ⟨by exact HB.o⟩⟩
 case rest =>
  clear aM
  obtain ⟨kq, aC, rfl, HA, aO, aA, HB⟩ := hcut
  cases kq with
  | zero => exact absurd HA.o (by simp [qAB.j0])
  | succ aP =>
   have H := HA.o
   clear HA
   simp only [qAB.j0] at H
   by_cases c6 : aC = true
   ·subst c6
    replace H : (some 1) = some r := by rw [if_pos rfl] at H; exact H
    obtain rfl := Option.some.inj H
    go_wp2
    go_ret
    exact ⟨by rfl, by exact HB.o⟩
   replace c6 := Bool.eq_false_iff.mpr c6
   subst c6
   replace H : (if a0_0 = 10 then (some 2) else (some 0)) = some r := by rw [if_neg (show ¬ (false = true) by decide)] at H; exact H
   by_cases c7 : a0_0 = 10
   ·rw [if_pos c7] at H
    have aN : (a0_0 == 10) = true := beq_iff_eq.mpr c7
    clear c7
    obtain rfl := Option.some.inj H
    go_wp2
    go_ret
    exact ⟨by rfl, by exact HB.o⟩
   rw [if_neg c7] at H
   have aN : (a0_0 == 10) = false := bf c7
   obtain rfl := Option.some.inj H
   go_wp2
   go_ret
   exact ⟨by rfl, by exact HB.o⟩
mutual
def qAq.l0 : Nat → Int → Int → ByteArray → List (S95) → List (S100) → List (S103) → Option (Bool)
 | 0, _, _, _, _, _, _ => none
 | k + 1, x3, x4, aS, aT, aM, aL => if x4 < (aM.length : Int) then (if 0 ≤ x4 then (qAq.l1 k x3 x4 ((qA3 aM x4).f1.f2) 0 aS aT aM aL) else (none)) else (some (x3 == (aL.length : Int)))
def qAq.l1 : Nat → Int → Int → List (S172) → Int → ByteArray → List (S95) → List (S100) → List (S103) → Option (Bool)
 | 0, _, _, _, _, _, _, _, _ => none
 | k + 1, x3, x4, x5, x6, aS, aT, aM, aL => if x6 < (x5.length : Int) then (if 0 ≤ x6 then ((qAB.f k ((qAC x5 x6).f0) ((qAC x5 x6).f1) ((qAC x5 x6).f2.f0) ((qAC x5 x6).f2.f1)).bind fun aW => (if aW = 0 then (qAq.l1 k x3 x4 x5 (wrap64 (x6 + 1)) aS aT aM aL) else (if ((qAC x5 x6).f1) = 0 then (qAq.j2 k x3 x4 x5 x6 aW (x3 == (aL.length : Int)) aS aT aM aL) else (qAq.j2 k x3 x4 x5 x6 aW true aS aT aM aL)))) else (none)) else (qAq.l0 k x3 (wrap64 (x4 + 1)) aS aT aM aL)
def qAq.j2 : Nat → Int → Int → List (S172) → Int → Int → Bool → ByteArray → List (S95) → List (S100) → List (S103) → Option (Bool)
 | 0, _, _, _, _, _, _, _, _, _, _ => none
 | k + 1, x3, x4, x5, x6, x7, cx, aS, aT, aM, aL => if cx = true then (some false) else (if 0 ≤ x3 then (if x3 < (aL.length : Int) then (if ((qAw aL x3).f0) = x4 then (if ((qAw aL x3).f1) = x6 then (if ((qAw aL x3).f2) = x7 then (qAq.l1 k (wrap64 (x3 + 1)) x4 x5 (wrap64 (x6 + 1)) aS aT aM aL) else (some false)) else (some false)) else (some false)) else (none)) else (none))
end
def qAq.f (k : Nat) (a0_0 : ByteArray) (l0_1 : List (S95)) (l0_2 : List (S100)) (l0_3 : List (S103)) : Option (Bool) := qAq.l0 k 0 0 a0_0 l0_1 l0_2 l0_3
theorem qAq.calls (k : Nat) (a0_0 : ByteArray) (ag : Option Addr) (ah : Nat) (l0_1 : List (S95)) (al : Option Addr) (ad : Nat) (l0_2 : List (S100)) (aZ : Option Addr) (a4 : Nat) (l0_3 : List (S103)) (r : Bool) (w : World) (hr0_1 : Kd.C k95 w ag l0_1.length l0_1) (hc0_1 : l0_1.length ≤ ah) (hr0_2 : Kd.C k100 w al l0_2.length l0_2) (hc0_2 : l0_2.length ≤ ad) (hr0_3 : Kd.C k103 w aZ l0_3.length l0_3) (hc0_3 : l0_3.length ≤ a4) (h : qAq.f k a0_0 l0_1 l0_2 l0_3 = some r) :
  Calls Tryz.prog 40 #[.agg #[.string a0_0, .slice ag l0_1.length ah, .slice al l0_2.length ad, .slice aZ l0_3.length a4]] w fun e w' => e = .returned (.bool r) ∧ Below w.heap.size w w' := by
 clear hr0_1 hc0_1
 have bW := am hr0_2
 clear hr0_2 hc0_2
 have aj := am hr0_3
 clear hr0_3 hc0_3
 have HB := am (Below.refl w.heap.size w)
 have H : (qAq.l0 k 0 0 a0_0 l0_1 l0_2 l0_3) = some r := h
 clear h
 have H' := am H
 clear H
 go_enter Tryz.func40, Tryz.ntmps40
 go_wp2_with ((with_reducible refine qAI (N := 1) rfl ?_); (try (refine qBI (by rfl) ?_; dsimp only)); refine bx 1 #[.string a0_0, .slice ag l0_1.length ah, .slice al l0_2.length ad, .slice aZ l0_3.length a4] 26 ?_; intro aN hg w2 hbox hb; have n_ := a2 (qAp HB.o hb) (am (hbox)); clear HB; obtain ⟨HB, aB⟩ := n_; clear hb hbox hg)
 go_loopg [3, 4] k (fun kq v3 v4 w' => ∃ (bC : Int) (aC : Int), v3 = .int .i64 bC ∧ v4 = .int .i64 aC ∧ qAj (qAq.l0 kq bC aC a0_0 l0_1 l0_2 l0_3 = some r) ∧ qAj (kq ≤ k) ∧ qAj (w'.heap[aN]? = some (.cells #[.string a0_0, (.slice ag l0_1.length ah), (.slice al l0_2.length ad), (.slice aZ l0_3.length a4)] 26 (0, 0))) ∧ qAj (Below w.heap.size w w'))
 case atStart => exact ⟨(0), (0), (by rfl), (by rfl), H', ⟨Nat.le_refl _⟩, ⟨by exact aB.o⟩, ⟨by exact HB.o⟩⟩
 case round =>
  clear H'
  obtain ⟨bC, aC, rfl, rfl, HA, bD, aB, HB⟩ := hrel
  cases gk with
  | zero => exact absurd HA.o (by simp [qAq.l0])
  | succ k1 =>
   have H := HA.o
   clear HA
   simp only [qAq.l0] at H
   by_cases c3 : aC < (l0_2.length : Int)
   rotate_left
   ·rw [if_neg c3] at H
    replace c3 := d0 c3
    obtain rfl := Option.some.inj H
    have cL : wr.cell? ⟨aN, 2, none⟩ = some (.slice al l0_2.length ad) := (qAa aB.o 2).trans rfl
    have cM : wr.cell? ⟨aN, 3, none⟩ = some (.slice aZ l0_3.length a4) := (qAa aB.o 3).trans rfl
    go_wp2
    go_ret
    exact ⟨by rfl, by exact HB.o⟩
   rw [if_pos c3] at H
   replace c3 := d1 c3
   obtain ⟨c4, H⟩ := gd H
   replace c4 := d1 c4
   have H' := am H
   clear H
   have bJ : wr.cell? ⟨aN, 0, none⟩ = some (.string a0_0) := (qAa aB.o 0).trans rfl
   have bK : wr.cell? ⟨aN, 1, none⟩ = some (.slice ag l0_1.length ah) := (qAa aB.o 1).trans rfl
   have bL : wr.cell? ⟨aN, 2, none⟩ = some (.slice al l0_2.length ad) := (qAa aB.o 2).trans rfl
   have bM : wr.cell? ⟨aN, 3, none⟩ = some (.slice aZ l0_3.length a4) := (qAa aB.o 3).trans rfl
   have bN := qAc aB.o 0
   have bO := qAc aB.o 1
   have bP := qAc aB.o 2
   have bQ := qAc aB.o 3
   have bA : 0 ≤ aC := od (by assumption)
   have bB : aC < (l0_2.length : Int) := od (by assumption)
   obtain ⟨bF, cg, cj, ch, ck, ci, cl, cp, a6, a7, a8, a9, aa, au, aq, av, ar, aw, ak⟩ := qD2 bW.o aC bA bB
   cases cp
   replace a6 := (HB.o.cell (World.block_lt_of_cell? w _ a6)).trans a6
   replace a7 := (HB.o.cell (World.block_lt_of_cell? w _ a7)).trans a7
   replace a8 := (HB.o.cell (World.block_lt_of_cell? w _ a8)).trans a8
   replace a9 := (HB.o.cell (World.block_lt_of_cell? w _ a9)).trans a9
   replace aa := (HB.o.cell (World.block_lt_of_cell? w _ aa)).trans aa
   clear aq au ar av
   have a5 := am ak
   clear ak aw
   replace bA := eq_true bA
   replace bB := eq_true bB
   go_wp2
   go_loopg [3, 6] k1 (fun kq v3 v6 w' => ∃ (aE : Int) (aD : Int), v3 = .int .i64 aE ∧ v6 = .int .i64 aD ∧ qAj (qAq.l1 kq aE aC ((qA3 l0_2 aC).f1.f2) aD a0_0 l0_1 l0_2 l0_3 = some r) ∧ qAj (kq ≤ k1) ∧ qAj (w'.heap[aN]? = some (.cells #[.string a0_0, (.slice ag l0_1.length ah), (.slice (some bF) l0_2.length ad), (.slice aZ l0_3.length a4)] 26 (0, 0))) ∧ qAj (Below w.heap.size w w'))
   case atStart => exact ⟨(bC), (0), (by rfl), (by rfl), H', ⟨Nat.le_refl _⟩, ⟨by exact aB.o⟩, ⟨by exact HB.o⟩⟩
   case round =>
    clear H'
    obtain ⟨aE, aD, rfl, rfl, HA, bE, aB, HB⟩ := hrel
    cases gk with
    | zero => exact absurd HA.o (by simp [qAq.l1])
    | succ k2 =>
     have H := HA.o
     clear HA
     simp only [qAq.l1] at H
     by_cases c6 : aD < (((qA3 l0_2 aC).f1.f2).length : Int)
     rotate_left
     ·rw [if_neg c6] at H
      replace c6 := d0 c6
      have H' := am H
      clear H
      go_wp2
      go_roundg k2
      case measure => have := bD.o; have := bE.o; omega
      case rel => exact ⟨(aE), (wrap64 (aC + 1)), (by rfl), (by rfl), H', ⟨by have := bD.o; have := bE.o; omega⟩, ⟨by exact aB.o⟩, ⟨by exact HB.o⟩⟩
     rw [if_pos c6] at H
     replace c6 := d1 c6
     obtain ⟨c7, H⟩ := gd H
     replace c7 := d1 c7
     replace H := bm H
     obtain ⟨aW, cq, H⟩ := H
     replace H : (if aW = 0 then (qAq.l1 k2 aE aC ((qA3 l0_2 aC).f1.f2) (wrap64 (aD + 1)) a0_0 l0_1 l0_2 l0_3) else (if ((qAC ((qA3 l0_2 aC).f1.f2) aD).f1) = 0 then (qAq.j2 k2 aE aC ((qA3 l0_2 aC).f1.f2) aD aW (aE == (l0_3.length : Int)) a0_0 l0_1 l0_2 l0_3) else (qAq.j2 k2 aE aC ((qA3 l0_2 aC).f1.f2) aD aW true a0_0 l0_1 l0_2 l0_3))) = some r := H
     have A8 := am cq
     clear cq
     by_cases c9 : aW = 0
     ·rw [if_pos c9] at H
      have b5 : (aW == 0) = true := beq_iff_eq.mpr c9
      clear c9
      have H' := am H
      clear H
      have ae : 0 ≤ aD := od (by assumption)
      have af : aD < (((qA3 l0_2 aC).f1.f2).length : Int) := od (by assumption)
      obtain ⟨an, bH, aO, aP, aQ, aR⟩ := qCM a5.o aD ae af
      cases bH
      replace aO := (HB.o.cell (World.block_lt_of_cell? w _ aO)).trans aO
      replace aP := (HB.o.cell (World.block_lt_of_cell? w _ aP)).trans aP
      replace aQ := (HB.o.cell (World.block_lt_of_cell? w _ aQ)).trans aQ
      replace aR := (HB.o.cell (World.block_lt_of_cell? w _ aR)).trans aR
      replace ae := eq_true ae
      replace af := eq_true af
      go_wp2_with ((with_reducible refine qAv (f := 113) rfl ?_); refine gL 33 Tryz.func113 #[.agg #[.int .i64 ((qAC ((qA3 l0_2 aC).f1.f2) aD).f0), .int .i64 ((qAC ((qA3 l0_2 aC).f1.f2) aD).f1), .int .i64 ((qAC ((qA3 l0_2 aC).f1.f2) aD).f2.f0), .int .u64 ((qAC ((qA3 l0_2 aC).f1.f2) aD).f2.f1)]] ?_; (with_reducible refine (qAB.calls k2 ((qAC ((qA3 l0_2 aC).f1.f2) aD).f0) ((qAC ((qA3 l0_2 aC).f1.f2) aD).f1) ((qAC ((qA3 l0_2 aC).f1.f2) aD).f2.f0) ((qAC ((qA3 l0_2 aC).f1.f2) aD).f2.f1) aW _ A8.o).mono ?_); rintro e cy ⟨rfl, hb⟩; refine ⟨_, rfl, ?_⟩; have n_ := a2 (qAt aB.o hb) (am (qAp HB.o hb)); clear aB HB; obtain ⟨aB, HB⟩ := n_; (skip))
      go_roundg k2
      case measure => have := bD.o; have := bE.o; omega
      case rel => exact ⟨(aE), (wrap64 (aD + 1)), (by rfl), (by rfl), H', ⟨by have := bD.o; have := bE.o; omega⟩, ⟨by exact aB.o⟩, ⟨by exact HB.o⟩⟩
     rw [if_neg c9] at H
     have b5 : (aW == 0) = false := bf c9
     have co : (aW != 0) = true := bne_iff_ne.mpr c9
     have bG := am H
     clear H
     have ae : 0 ≤ aD := od (by assumption)
     have af : aD < (((qA3 l0_2 aC).f1.f2).length : Int) := od (by assumption)
     obtain ⟨an, bH, aO, aP, aQ, aR⟩ := qCM a5.o aD ae af
     cases bH
     replace aO := (HB.o.cell (World.block_lt_of_cell? w _ aO)).trans aO
     replace aP := (HB.o.cell (World.block_lt_of_cell? w _ aP)).trans aP
     replace aQ := (HB.o.cell (World.block_lt_of_cell? w _ aQ)).trans aQ
     replace aR := (HB.o.cell (World.block_lt_of_cell? w _ aR)).trans aR
     replace ae := eq_true ae
     replace af := eq_true af
     go_upto_region 11 with ((with_reducible refine qAv (f := 113) rfl ?_); refine gL 33 Tryz.func113 #[.agg #[.int .i64 ((qAC ((qA3 l0_2 aC).f1.f2) aD).f0), .int .i64 ((qAC ((qA3 l0_2 aC).f1.f2) aD).f1), .int .i64 ((qAC ((qA3 l0_2 aC).f1.f2) aD).f2.f0), .int .u64 ((qAC ((qA3 l0_2 aC).f1.f2) aD).f2.f1)]] ?_; (with_reducible refine (qAB.calls k2 ((qAC ((qA3 l0_2 aC).f1.f2) aD).f0) ((qAC ((qA3 l0_2 aC).f1.f2) aD).f1) ((qAC ((qA3 l0_2 aC).f1.f2) aD).f2.f0) ((qAC ((qA3 l0_2 aC).f1.f2) aD).f2.f1) aW _ A8.o).mono ?_); rintro e cw ⟨rfl, hb⟩; refine ⟨_, rfl, ?_⟩; have n_ := a2 (qAt aB.o hb) (am (qAp HB.o hb)); clear aB HB; obtain ⟨aB, HB⟩ := n_; (skip))
     (skip)
     go_cut [48] (fun cv wc => ∃ (kq : Nat) (ac : Bool), cv = .bool ac ∧ qAj (qAq.j2 kq aE aC ((qA3 l0_2 aC).f1.f2) aD aW ac a0_0 l0_1 l0_2 l0_3 = some r) ∧ qAj (kq ≤ k2) ∧ qAj (wc.heap[aN]? = some (.cells #[.string a0_0, (.slice ag l0_1.length ah), (.slice (some bF) l0_2.length ad), (.slice aZ l0_3.length a4)] 26 (0, 0))) ∧ qAj (Below w.heap.size w wc))
     case first =>
      have H := bG.o
      clear bG
      by_cases bX : ((qAC ((qA3 l0_2 aC).f1.f2) aD).f1) = 0
      rotate_left
      ·rw [if_neg bX] at H
       have bY : (((qAC ((qA3 l0_2 aC).f1.f2) aD).f1) != 0) = true := bne_iff_ne.mpr bX
       (skip)
       have H' := am H
       clear H
       have bR : 0 ≤ aD := od (by assumption)
       have bS : aD < (((qA3 l0_2 aC).f1.f2).length : Int) := od (by assumption)
       obtain ⟨ao, bI, ax, aV, ay, az⟩ := qCM a5.o aD bR bS
       obtain rfl : an = ao := (by injection bI)
       replace aV := (HB.o.cell (World.block_lt_of_cell? w _ aV)).trans aV
       go_wp2
       go_meet
       case rel => exact ⟨_, (true), (by rfl), H', ⟨by have := bD.o; have := bE.o; (omega)⟩, ⟨by exact aB.o⟩, ⟨by exact HB.o⟩⟩
      rw [if_pos bX] at H
      have bY : (((qAC ((qA3 l0_2 aC).f1.f2) aD).f1) != 0) = false := bn bX
      clear bX
      (skip)
      have H' := am H
      clear H
      have bR : 0 ≤ aD := od (by assumption)
      have bS : aD < (((qA3 l0_2 aC).f1.f2).length : Int) := od (by assumption)
      obtain ⟨ao, bI, ax, aV, ay, az⟩ := qCM a5.o aD bR bS
      obtain rfl : an = ao := (by injection bI)
      replace aV := (HB.o.cell (World.block_lt_of_cell? w _ aV)).trans aV
      have bg : cw.cell? ⟨aN, 3, none⟩ = some (.slice aZ l0_3.length a4) := (qAa aB.o 3).trans rfl
      go_wp2
      go_meet
      case rel => exact ⟨_, (aE == (l0_3.length : Int)), (by rfl), H', ⟨by have := bD.o; have := bE.o; (omega)⟩, ⟨by exact aB.o⟩, ⟨by exact HB.o⟩⟩
     case rest =>
      clear bG
      obtain ⟨kq, ac, rfl, HA, bV, aB, HB⟩ := hcut
      cases kq with
      | zero => exact absurd HA.o (by simp [qAq.j2])
      | succ b6 =>
       have H := HA.o
       clear HA
       simp only [qAq.j2] at H
       by_cases bb : ac = true
       ·subst bb
        replace H : (some false) = some r := by rw [if_pos rfl] at H; exact H
        obtain rfl := Option.some.inj H
        go_wp2
        go_ret
        exact ⟨by rfl, by exact HB.o⟩
       replace bb := Bool.eq_false_iff.mpr bb
       subst bb
       replace H : (if 0 ≤ aE then (if aE < (l0_3.length : Int) then (if ((qAw l0_3 aE).f0) = aC then (if ((qAw l0_3 aE).f1) = aD then (if ((qAw l0_3 aE).f2) = aW then (qAq.l1 b6 (wrap64 (aE + 1)) aC ((qA3 l0_2 aC).f1.f2) (wrap64 (aD + 1)) a0_0 l0_1 l0_2 l0_3) else (some false)) else (some false)) else (some false)) else (none)) else (none)) = some r := by rw [if_neg (show ¬ (false = true) by decide)] at H; exact H
       obtain ⟨bc, H⟩ := gd H
       replace bc := d1 bc
       obtain ⟨bd, H⟩ := gd H
       replace bd := d1 bd
       by_cases bT : ((qAw l0_3 aE).f0) = aC
       rotate_left
       ·rw [if_neg bT] at H
        have bZ : (((qAw l0_3 aE).f0) != aC) = true := bne_iff_ne.mpr bT
        obtain rfl := Option.some.inj H
        have cF : wc.cell? ⟨aN, 3, none⟩ = some (.slice aZ l0_3.length a4) := (qAa aB.o 3).trans rfl
        have aX : 0 ≤ aE := od (by assumption)
        have aY : aE < (l0_3.length : Int) := od (by assumption)
        obtain ⟨ap, ai, aG, aH, aI, aJ, aK⟩ := qCl aj.o aE aX aY
        cases ai
        replace aG := (HB.o.cell (World.block_lt_of_cell? w _ aG)).trans aG
        replace aH := (HB.o.cell (World.block_lt_of_cell? w _ aH)).trans aH
        replace aI := (HB.o.cell (World.block_lt_of_cell? w _ aI)).trans aI
        replace aJ := (HB.o.cell (World.block_lt_of_cell? w _ aJ)).trans aJ
        replace aK := (HB.o.cell (World.block_lt_of_cell? w _ aK)).trans aK
        replace aX := eq_true aX
        replace aY := eq_true aY
        go_wp2_with ((with_reducible refine qAI (N := 8) rfl ?_); (try (refine qBI (by rfl) ?_; dsimp only)); refine bx 8 #[.int .i64 0, .int .i64 0, .int .i64 0, .string ⟨#[]⟩, .string ⟨#[]⟩] 103 ?_; intro aF hg ba hbox hb; have n_ := a2 (qAp HB.o hb) (a2 (hbox) (am (by rw [hg]; exact (qAs HB.o) : w.heap.size ≤ aF))); clear aB HB; obtain ⟨HB, aA, ab⟩ := n_; clear hb hbox hg; have cG : ba.cell? ⟨aF, 0, none⟩ = some (.int .i64 0) := (qAa aA.o 0).trans rfl; have cH : ba.cell? ⟨aF, 1, none⟩ = some (.int .i64 0) := (qAa aA.o 1).trans rfl; have cI : ba.cell? ⟨aF, 2, none⟩ = some (.int .i64 0) := (qAa aA.o 2).trans rfl; have cJ : ba.cell? ⟨aF, 3, none⟩ = some (.string ⟨#[]⟩) := (qAa aA.o 3).trans rfl; have cK : ba.cell? ⟨aF, 4, none⟩ = some (.string ⟨#[]⟩) := (qAa aA.o 4).trans rfl; have ca := qAc aA.o 0; have cc := qAc aA.o 1; have cd := qAc aA.o 2; have ce := qAc aA.o 3; have cf := qAc aA.o 4)
        go_ret
        exact ⟨by rfl, by repeat (with_reducible first | exact HB.o | refine qAb ?_ ab.o)⟩
       rw [if_pos bT] at H
       have ct : (((qAw l0_3 aE).f0) == aC) = true := beq_iff_eq.mpr bT
       have bZ : (((qAw l0_3 aE).f0) != aC) = false := bn bT
       clear bT
       by_cases bU : ((qAw l0_3 aE).f1) = aD
       rotate_left
       ·rw [if_neg bU] at H
        have b0 : (((qAw l0_3 aE).f1) != aD) = true := bne_iff_ne.mpr bU
        obtain rfl := Option.some.inj H
        have bz : wc.cell? ⟨aN, 3, none⟩ = some (.slice aZ l0_3.length a4) := (qAa aB.o 3).trans rfl
        have aX : 0 ≤ aE := od (by assumption)
        have aY : aE < (l0_3.length : Int) := od (by assumption)
        obtain ⟨ap, ai, aG, aH, aI, aJ, aK⟩ := qCl aj.o aE aX aY
        cases ai
        replace aG := (HB.o.cell (World.block_lt_of_cell? w _ aG)).trans aG
        replace aH := (HB.o.cell (World.block_lt_of_cell? w _ aH)).trans aH
        replace aI := (HB.o.cell (World.block_lt_of_cell? w _ aI)).trans aI
        replace aJ := (HB.o.cell (World.block_lt_of_cell? w _ aJ)).trans aJ
        replace aK := (HB.o.cell (World.block_lt_of_cell? w _ aK)).trans aK
        replace aX := eq_true aX
        replace aY := eq_true aY
        go_wp2_with ((with_reducible refine qAI (N := 8) rfl ?_); (try (refine qBI (by rfl) ?_; dsimp only)); refine bx 8 #[.int .i64 0, .int .i64 0, .int .i64 0, .string ⟨#[]⟩, .string ⟨#[]⟩] 103 ?_; intro aF hg b9 hbox hb; have n_ := a2 (qAp HB.o hb) (a2 (hbox) (am (by rw [hg]; exact (qAs HB.o) : w.heap.size ≤ aF))); clear aB HB; obtain ⟨HB, aA, ab⟩ := n_; clear hb hbox hg; have cA : b9.cell? ⟨aF, 0, none⟩ = some (.int .i64 0) := (qAa aA.o 0).trans rfl; have cB : b9.cell? ⟨aF, 1, none⟩ = some (.int .i64 0) := (qAa aA.o 1).trans rfl; have cC : b9.cell? ⟨aF, 2, none⟩ = some (.int .i64 0) := (qAa aA.o 2).trans rfl; have cD : b9.cell? ⟨aF, 3, none⟩ = some (.string ⟨#[]⟩) := (qAa aA.o 3).trans rfl; have cE : b9.cell? ⟨aF, 4, none⟩ = some (.string ⟨#[]⟩) := (qAa aA.o 4).trans rfl; have cX := qAc aA.o 0; have cY := qAc aA.o 1; have cZ := qAc aA.o 2; have c0 := qAc aA.o 3; have c1 := qAc aA.o 4)
        go_ret
        exact ⟨by rfl, by repeat (with_reducible first | exact HB.o | refine qAb ?_ ab.o)⟩
       rw [if_pos bU] at H
       have cu : (((qAw l0_3 aE).f1) == aD) = true := beq_iff_eq.mpr bU
       have b0 : (((qAw l0_3 aE).f1) != aD) = false := bn bU
       clear bU
       by_cases b1 : ((qAw l0_3 aE).f2) = aW
       rotate_left
       ·rw [if_neg b1] at H
        have b2 : (((qAw l0_3 aE).f2) != aW) = true := bne_iff_ne.mpr b1
        obtain rfl := Option.some.inj H
        have bp : wc.cell? ⟨aN, 3, none⟩ = some (.slice aZ l0_3.length a4) := (qAa aB.o 3).trans rfl
        have aX : 0 ≤ aE := od (by assumption)
        have aY : aE < (l0_3.length : Int) := od (by assumption)
        obtain ⟨ap, ai, aG, aH, aI, aJ, aK⟩ := qCl aj.o aE aX aY
        cases ai
        replace aG := (HB.o.cell (World.block_lt_of_cell? w _ aG)).trans aG
        replace aH := (HB.o.cell (World.block_lt_of_cell? w _ aH)).trans aH
        replace aI := (HB.o.cell (World.block_lt_of_cell? w _ aI)).trans aI
        replace aJ := (HB.o.cell (World.block_lt_of_cell? w _ aJ)).trans aJ
        replace aK := (HB.o.cell (World.block_lt_of_cell? w _ aK)).trans aK
        replace aX := eq_true aX
        replace aY := eq_true aY
        go_wp2_with ((with_reducible refine qAI (N := 8) rfl ?_); (try (refine qBI (by rfl) ?_; dsimp only)); refine bx 8 #[.int .i64 0, .int .i64 0, .int .i64 0, .string ⟨#[]⟩, .string ⟨#[]⟩] 103 ?_; intro aF hg b8 hbox hb; have n_ := a2 (qAp HB.o hb) (a2 (hbox) (am (by rw [hg]; exact (qAs HB.o) : w.heap.size ≤ aF))); clear aB HB; obtain ⟨HB, aA, ab⟩ := n_; clear hb hbox hg; have bq : b8.cell? ⟨aF, 0, none⟩ = some (.int .i64 0) := (qAa aA.o 0).trans rfl; have br : b8.cell? ⟨aF, 1, none⟩ = some (.int .i64 0) := (qAa aA.o 1).trans rfl; have bs : b8.cell? ⟨aF, 2, none⟩ = some (.int .i64 0) := (qAa aA.o 2).trans rfl; have bu : b8.cell? ⟨aF, 3, none⟩ = some (.string ⟨#[]⟩) := (qAa aA.o 3).trans rfl; have bw : b8.cell? ⟨aF, 4, none⟩ = some (.string ⟨#[]⟩) := (qAa aA.o 4).trans rfl; have cS := qAc aA.o 0; have cT := qAc aA.o 1; have cU := qAc aA.o 2; have cV := qAc aA.o 3; have cW := qAc aA.o 4)
        go_ret
        exact ⟨by rfl, by repeat (with_reducible first | exact HB.o | refine qAb ?_ ab.o)⟩
       rw [if_pos b1] at H
       have b2 : (((qAw l0_3 aE).f2) != aW) = false := bn b1
       clear b1
       have H' := am H
       clear H
       have bh : wc.cell? ⟨aN, 3, none⟩ = some (.slice aZ l0_3.length a4) := (qAa aB.o 3).trans rfl
       have aX : 0 ≤ aE := od (by assumption)
       have aY : aE < (l0_3.length : Int) := od (by assumption)
       obtain ⟨ap, ai, aG, aH, aI, aJ, aK⟩ := qCl aj.o aE aX aY
       cases ai
       replace aG := (HB.o.cell (World.block_lt_of_cell? w _ aG)).trans aG
       replace aH := (HB.o.cell (World.block_lt_of_cell? w _ aH)).trans aH
       replace aI := (HB.o.cell (World.block_lt_of_cell? w _ aI)).trans aI
       replace aJ := (HB.o.cell (World.block_lt_of_cell? w _ aJ)).trans aJ
       replace aK := (HB.o.cell (World.block_lt_of_cell? w _ aK)).trans aK
       replace aX := eq_true aX
       replace aY := eq_true aY
       go_wp2_with ((with_reducible refine qAI (N := 8) rfl ?_); (try (refine qBI (by rfl) ?_; dsimp only)); refine bx 8 #[.int .i64 0, .int .i64 0, .int .i64 0, .string ⟨#[]⟩, .string ⟨#[]⟩] 103 ?_; intro aF hg b7 hbox hb; have n_ := a2 (qAt aB.o hb) (a2 (qAp HB.o hb) (a2 (hbox) (a2 (by rw [hg]; exact (qAs HB.o) : w.heap.size ≤ aF) (am (by rw [hg]; exact Nat.ne_of_lt (qAM aB.o) : aN ≠ aF))))); clear aB HB; obtain ⟨aB, HB, aA, ab, aU⟩ := n_; clear hb hbox hg; have bi : b7.cell? ⟨aF, 0, none⟩ = some (.int .i64 0) := (qAa aA.o 0).trans rfl; have bj : b7.cell? ⟨aF, 1, none⟩ = some (.int .i64 0) := (qAa aA.o 1).trans rfl; have bk : b7.cell? ⟨aF, 2, none⟩ = some (.int .i64 0) := (qAa aA.o 2).trans rfl; have bl : b7.cell? ⟨aF, 3, none⟩ = some (.string ⟨#[]⟩) := (qAa aA.o 3).trans rfl; have bo : b7.cell? ⟨aF, 4, none⟩ = some (.string ⟨#[]⟩) := (qAa aA.o 4).trans rfl; have cN := qAc aA.o 0; have cO := qAc aA.o 1; have cP := qAc aA.o 2; have cQ := qAc aA.o 3; have cR := qAc aA.o 4)
       go_roundg b6
       case measure => have := bD.o; have := bE.o; have := bV.o; omega
       case rel => exact ⟨(wrap64 (aE + 1)), (wrap64 (aD + 1)), (by rfl), (by rfl), H', ⟨by have := bD.o; have := bE.o; have := bV.o; omega⟩, ⟨by refine qA1 ?_ aU.o _; refine qA1 ?_ aU.o _; refine qA1 ?_ aU.o _; refine qA1 ?_ aU.o _; refine qA1 ?_ aU.o _; exact aB.o⟩, ⟨by repeat (with_reducible first | exact HB.o | refine qAb ?_ ab.o)⟩⟩
mutual
def qAz.l0 : Nat → Int → ByteArray → List (S95) → List (S100) → List (S103) → Int → Int → Int → ByteArray → ByteArray → Option (Bool)
 | 0, _, _, _, _, _, _, _, _, _, _ => none
 | k + 1, x5, aV, aI, aJ, aW, aX, aY, aZ, a9, aK => if x5 < (aI.length : Int) then (if 0 ≤ x5 then (if ((qBu aI x5).f0).toList = aK.toList then (some true) else (qAz.l0 k (wrap64 (x5 + 1)) aV aI aJ aW aX aY aZ a9 aK)) else (none)) else (some false)
def qAz.l1 : Nat → Int → ByteArray → List (S95) → List (S100) → List (S103) → Int → Int → Int → ByteArray → ByteArray → Option (Bool)
 | 0, _, _, _, _, _, _, _, _, _, _ => none
 | k + 1, x6, aV, aI, aJ, aW, aX, aY, aZ, a9, aK => if x6 < (aJ.length : Int) then (if 0 ≤ x6 then (if ((qA3 aJ x6).f0).toList = aK.toList then (some true) else (qAz.l1 k (wrap64 (x6 + 1)) aV aI aJ aW aX aY aZ a9 aK)) else (none)) else (some false)
end
def qAz.f (k : Nat) (a0_0 : ByteArray) (l0_1 : List (S95)) (l0_2 : List (S100)) (l0_3 : List (S103)) (a1_0 : Int) (a1_1 : Int) (a1_2 : Int) (a1_3 : ByteArray) (a1_4 : ByteArray) : Option (Bool) := if a1_2 = 1 then (qAz.l0 k 0 a0_0 l0_1 l0_2 l0_3 a1_0 a1_1 a1_2 a1_3 a1_4) else (qAz.l1 k 0 a0_0 l0_1 l0_2 l0_3 a1_0 a1_1 a1_2 a1_3 a1_4)
theorem qAz.calls (k : Nat) (a0_0 : ByteArray) (aL : Option Addr) (aN : Nat) (l0_1 : List (S95)) (aM : Option Addr) (aO : Nat) (l0_2 : List (S100)) (ae : Option Addr) (af : Nat) (l0_3 : List (S103)) (a1_0 : Int) (a1_1 : Int) (a1_2 : Int) (a1_3 : ByteArray) (a1_4 : ByteArray) (r : Bool) (w : World) (hr0_1 : Kd.C k95 w aL l0_1.length l0_1) (hc0_1 : l0_1.length ≤ aN) (hr0_2 : Kd.C k100 w aM l0_2.length l0_2) (hc0_2 : l0_2.length ≤ aO) (hr0_3 : Kd.C k103 w ae l0_3.length l0_3) (hc0_3 : l0_3.length ≤ af) (h : qAz.f k a0_0 l0_1 l0_2 l0_3 a1_0 a1_1 a1_2 a1_3 a1_4 = some r) :
  Calls Tryz.prog 41 #[.agg #[.string a0_0, .slice aL l0_1.length aN, .slice aM l0_2.length aO, .slice ae l0_3.length af], .agg #[.int .i64 a1_0, .int .i64 a1_1, .int .i64 a1_2, .string a1_3, .string a1_4]] w fun e w' => e = .returned (.bool r) ∧ Below w.heap.size w w' := by
 have az := am hr0_1
 clear hr0_1 hc0_1
 have bA := am hr0_2
 clear hr0_2 hc0_2 hr0_3 hc0_3
 have HB := am (Below.refl w.heap.size w)
 have H : (if a1_2 = 1 then (qAz.l0 k 0 a0_0 l0_1 l0_2 l0_3 a1_0 a1_1 a1_2 a1_3 a1_4) else (qAz.l1 k 0 a0_0 l0_1 l0_2 l0_3 a1_0 a1_1 a1_2 a1_3 a1_4)) = some r := h
 clear h
 by_cases c3 : a1_2 = 1
 ·rw [if_pos c3] at H
  have bH : (a1_2 == 1) = true := beq_iff_eq.mpr c3
  have bI : (a1_2 != 1) = false := bn c3
  clear c3
  have H' := am H
  clear H
  go_enter Tryz.func41, Tryz.ntmps41
  go_wp2_with (first | ((with_reducible refine qAI (N := 2) rfl ?_); refine bx 2 #[.string a0_0, .slice aL l0_1.length aN, .slice aM l0_2.length aO, .slice ae l0_3.length af] 26 ?_; intro aH hg w4 hbox hb; have n_ := a2 (qAp HB.o hb) (am (hbox)); clear HB; obtain ⟨HB, aB⟩ := n_; clear hb hbox hg) | ((with_reducible refine qAI (N := 3) rfl ?_); refine bx 3 #[.int .i64 a1_0, .int .i64 a1_1, .int .i64 a1_2, .string a1_3, .string a1_4] 103 ?_; intro aC hg w5 hbox hb; have n_ := a2 (qAt aB.o hb) (a2 (qAp HB.o hb) (am (hbox))); clear aB HB; obtain ⟨aB, HB, aA⟩ := n_; clear hb hbox hg; have bL : w5.cell? ⟨aC, 0, none⟩ = some (.int .i64 a1_0) := (qAa aA.o 0).trans rfl; have bM : w5.cell? ⟨aC, 1, none⟩ = some (.int .i64 a1_1) := (qAa aA.o 1).trans rfl; have bN : w5.cell? ⟨aC, 2, none⟩ = some (.int .i64 a1_2) := (qAa aA.o 2).trans rfl; have bO : w5.cell? ⟨aC, 3, none⟩ = some (.string a1_3) := (qAa aA.o 3).trans rfl; have bP : w5.cell? ⟨aC, 4, none⟩ = some (.string a1_4) := (qAa aA.o 4).trans rfl; have bQ := qAc aA.o 0; have bR := qAc aA.o 1; have bS := qAc aA.o 2; have bT := qAc aA.o 3; have bU := qAc aA.o 4))
  repeat (go_quiet (fail))
  go_loopg [5] k (fun kq v5 w' => ∃ (aF : Int), v5 = .int .i64 aF ∧ qAj (qAz.l0 kq aF a0_0 l0_1 l0_2 l0_3 a1_0 a1_1 a1_2 a1_3 a1_4 = some r) ∧ qAj (kq ≤ k) ∧ qAj (w'.heap[aH]? = some (.cells #[.string a0_0, (.slice aL l0_1.length aN), (.slice aM l0_2.length aO), (.slice ae l0_3.length af)] 26 (0, 0))) ∧ qAj (w'.heap[aC]? = some (.cells #[.int .i64 a1_0, .int .i64 a1_1, .int .i64 a1_2, .string a1_3, .string a1_4] 103 (0, 0))) ∧ qAj (Below w.heap.size w w'))
  case atStart => exact ⟨(0), (by rfl), H', ⟨Nat.le_refl _⟩, ⟨by exact aB.o⟩, ⟨by exact aA.o⟩, ⟨by exact HB.o⟩⟩
  case round =>
   clear H'
   obtain ⟨aF, rfl, HA, bW, aB, aA, HB⟩ := hrel
   cases gk with
   | zero => exact absurd HA.o (by simp [qAz.l0])
   | succ k1 =>
    have H := HA.o
    clear HA
    simp only [qAz.l0] at H
    by_cases c8 : aF < (l0_1.length : Int)
    rotate_left
    ·rw [if_neg c8] at H
     replace c8 := d0 c8
     obtain rfl := Option.some.inj H
     have b9 : wr.cell? ⟨aH, 1, none⟩ = some (.slice aL l0_1.length aN) := (qAa aB.o 1).trans rfl
     go_wp2
     repeat (go_quiet (fail))
     go_ret
     exact ⟨by rfl, by exact HB.o⟩
    rw [if_pos c8] at H
    replace c8 := d1 c8
    obtain ⟨c9, H⟩ := gd H
    replace c9 := d1 c9
    by_cases c10 : ((qBu l0_1 aF).f0).toList = a1_4.toList
    ·rw [if_pos c10] at H
     have bZ : (((qBu l0_1 aF).f0).toList == a1_4.toList) = true := beq_iff_eq.mpr c10
     clear c10
     obtain rfl := Option.some.inj H
     have b5 : wr.cell? ⟨aH, 1, none⟩ = some (.slice aL l0_1.length aN) := (qAa aB.o 1).trans rfl
     have aa : 0 ≤ aF := od (by assumption)
     have ac : aF < (l0_1.length : Int) := od (by assumption)
     obtain ⟨bX, bJ, aD, ar, au⟩ := at_T95 az.o aF aa ac
     cases bJ
     replace aD := (HB.o.cell (World.block_lt_of_cell? w _ aD)).trans aD
     replace aa := eq_true aa
     replace ac := eq_true ac
     have b6 : wr.cell? ⟨aC, 4, none⟩ = some (.string a1_4) := (qAa aA.o 4).trans rfl
     go_wp2
     repeat (go_quiet (fail); try go_wp2)
     go_ret
     exact ⟨by rfl, by repeat (with_reducible first | exact HB.o | apply qAd)⟩
    rw [if_neg c10] at H
    have bZ : (((qBu l0_1 aF).f0).toList == a1_4.toList) = false := bf c10
    have H' := am H
    clear H
    have b7 : wr.cell? ⟨aH, 1, none⟩ = some (.slice aL l0_1.length aN) := (qAa aB.o 1).trans rfl
    have aa : 0 ≤ aF := od (by assumption)
    have ac : aF < (l0_1.length : Int) := od (by assumption)
    obtain ⟨bX, bJ, aD, ar, au⟩ := at_T95 az.o aF aa ac
    cases bJ
    replace aD := (HB.o.cell (World.block_lt_of_cell? w _ aD)).trans aD
    replace aa := eq_true aa
    replace ac := eq_true ac
    have b8 : wr.cell? ⟨aC, 4, none⟩ = some (.string a1_4) := (qAa aA.o 4).trans rfl
    go_wp2
    repeat (go_quiet (fail); try go_wp2)
    go_roundg k1
    case measure => have := bW.o; omega
    case rel => exact ⟨(wrap64 (aF + 1)), (by rfl), H', ⟨by have := bW.o; omega⟩, ⟨by (with_reducible repeat (refine qAf ?_ _)); exact aB.o⟩, ⟨by (with_reducible repeat (refine qAf ?_ _)); exact aA.o⟩, ⟨by repeat (with_reducible first | exact HB.o | apply qAd)⟩⟩
 ·rw [if_neg c3] at H
  have bH : (a1_2 == 1) = false := bf c3
  have bI : (a1_2 != 1) = true := bne_iff_ne.mpr c3
  have H' := am H
  clear H
  go_enter Tryz.func41, Tryz.ntmps41
  go_wp2_with (first | ((with_reducible refine qAI (N := 2) rfl ?_); refine bx 2 #[.string a0_0, .slice aL l0_1.length aN, .slice aM l0_2.length aO, .slice ae l0_3.length af] 26 ?_; intro aH hg bk hbox hb; have n_ := a2 (qAp HB.o hb) (am (hbox)); clear HB; obtain ⟨HB, aB⟩ := n_; clear hb hbox hg) | ((with_reducible refine qAI (N := 3) rfl ?_); refine bx 3 #[.int .i64 a1_0, .int .i64 a1_1, .int .i64 a1_2, .string a1_3, .string a1_4] 103 ?_; intro aC hg b3 hbox hb; have n_ := a2 (qAt aB.o hb) (a2 (qAp HB.o hb) (am (hbox))); clear aB HB; obtain ⟨aB, HB, aA⟩ := n_; clear hb hbox hg; have ag : b3.cell? ⟨aC, 0, none⟩ = some (.int .i64 a1_0) := (qAa aA.o 0).trans rfl; have ah : b3.cell? ⟨aC, 1, none⟩ = some (.int .i64 a1_1) := (qAa aA.o 1).trans rfl; have ai : b3.cell? ⟨aC, 2, none⟩ = some (.int .i64 a1_2) := (qAa aA.o 2).trans rfl; have aj : b3.cell? ⟨aC, 3, none⟩ = some (.string a1_3) := (qAa aA.o 3).trans rfl; have ak : b3.cell? ⟨aC, 4, none⟩ = some (.string a1_4) := (qAa aA.o 4).trans rfl; have al := qAc aA.o 0; have an := qAc aA.o 1; have ao := qAc aA.o 2; have ap := qAc aA.o 3; have aq := qAc aA.o 4))
  repeat (go_quiet (fail))
  go_loopg [6] k (fun kq v6 w' => ∃ (aG : Int), v6 = .int .i64 aG ∧ qAj (qAz.l1 kq aG a0_0 l0_1 l0_2 l0_3 a1_0 a1_1 a1_2 a1_3 a1_4 = some r) ∧ qAj (kq ≤ k) ∧ qAj (w'.heap[aH]? = some (.cells #[.string a0_0, (.slice aL l0_1.length aN), (.slice aM l0_2.length aO), (.slice ae l0_3.length af)] 26 (0, 0))) ∧ qAj (w'.heap[aC]? = some (.cells #[.int .i64 a1_0, .int .i64 a1_1, .int .i64 a1_2, .string a1_3, .string a1_4] 103 (0, 0))) ∧ qAj (Below w.heap.size w w'))
  case atStart => exact ⟨(0), (by rfl), H', ⟨Nat.le_refl _⟩, ⟨by exact aB.o⟩, ⟨by exact aA.o⟩, ⟨by exact HB.o⟩⟩
  case round =>
   clear H'
   obtain ⟨aG, rfl, HA, bW, aB, aA, HB⟩ := hrel
   cases gk with
   | zero => exact absurd HA.o (by simp [qAz.l1])
   | succ k1 =>
    have H := HA.o
    clear HA
    simp only [qAz.l1] at H
    by_cases bV : aG < (l0_2.length : Int)
    rotate_left
    ·rw [if_neg bV] at H
     replace bV := d0 bV
     obtain rfl := Option.some.inj H
     have bg : wr.cell? ⟨aH, 2, none⟩ = some (.slice aM l0_2.length aO) := (qAa aB.o 2).trans rfl
     go_wp2
     repeat (go_quiet (fail))
     go_ret
     exact ⟨by rfl, by exact HB.o⟩
    rw [if_pos bV] at H
    replace bV := d1 bV
    obtain ⟨b4, H⟩ := gd H
    replace b4 := d1 b4
    by_cases b1 : ((qA3 l0_2 aG).f0).toList = a1_4.toList
    ·rw [if_pos b1] at H
     have b2 : (((qA3 l0_2 aG).f0).toList == a1_4.toList) = true := beq_iff_eq.mpr b1
     clear b1
     obtain rfl := Option.some.inj H
     have ba : wr.cell? ⟨aH, 2, none⟩ = some (.slice aM l0_2.length aO) := (qAa aB.o 2).trans rfl
     have ab : 0 ≤ aG := od (by assumption)
     have ad : aG < (l0_2.length : Int) := od (by assumption)
     obtain ⟨bY, bB, bE, bC, bF, bD, bG, bK, aE, av, aw, ax, ay, aS, aP, aT, aQ, aU, aR⟩ := qD2 bA.o aG ab ad
     cases bK
     replace aE := (HB.o.cell (World.block_lt_of_cell? w _ aE)).trans aE
     clear aP aS aQ aT aR aU
     replace ab := eq_true ab
     replace ad := eq_true ad
     have bb : wr.cell? ⟨aC, 4, none⟩ = some (.string a1_4) := (qAa aA.o 4).trans rfl
     go_wp2
     repeat (go_quiet (fail); try go_wp2)
     go_ret
     exact ⟨by rfl, by repeat (with_reducible first | exact HB.o | apply qAd)⟩
    rw [if_neg b1] at H
    have b2 : (((qA3 l0_2 aG).f0).toList == a1_4.toList) = false := bf b1
    have H' := am H
    clear H
    have bc : wr.cell? ⟨aH, 2, none⟩ = some (.slice aM l0_2.length aO) := (qAa aB.o 2).trans rfl
    have ab : 0 ≤ aG := od (by assumption)
    have ad : aG < (l0_2.length : Int) := od (by assumption)
    obtain ⟨bY, bB, bE, bC, bF, bD, bG, bK, aE, av, aw, ax, ay, aS, aP, aT, aQ, aU, aR⟩ := qD2 bA.o aG ab ad
    cases bK
    replace aE := (HB.o.cell (World.block_lt_of_cell? w _ aE)).trans aE
    clear aP aS aQ aT aR aU
    replace ab := eq_true ab
    replace ad := eq_true ad
    have bd : wr.cell? ⟨aC, 4, none⟩ = some (.string a1_4) := (qAa aA.o 4).trans rfl
    go_wp2
    repeat (go_quiet (fail); try go_wp2)
    go_roundg k1
    case measure => have := bW.o; omega
    case rel => exact ⟨(wrap64 (aG + 1)), (by rfl), H', ⟨by have := bW.o; omega⟩, ⟨by (with_reducible repeat (refine qAf ?_ _)); exact aB.o⟩, ⟨by (with_reducible repeat (refine qAf ?_ _)); exact aA.o⟩, ⟨by repeat (with_reducible first | exact HB.o | apply qAd)⟩⟩
end Q
end
end Go.Proofs.YtfjpnjbinbhcfaaGreat
