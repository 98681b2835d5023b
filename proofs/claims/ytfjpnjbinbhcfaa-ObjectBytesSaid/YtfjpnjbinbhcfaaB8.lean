/- object.Unpack of any bytes, where the law ObjectBytes asks: bytes that are read are written again as they were; bytes that are cut or longer are none. Part 8 of 8. -/
import Derived.Test.YtfjpnjbinbhcfaaB7
import Derived.SizedLaws
import Derived.ChangeSlices
import Derived.Test.YtfjpnjbinbhcfaaRows
import Derived.WalkKit
import Derived.ProofKit
import Derived.OpenShut
import Derived.ShutString
import Derived.ChangeOld
import Derived.Below
set_option maxHeartbeats 8000000
set_option maxRecDepth 100000
set_option linter.unusedVariables false
set_option linter.unusedSimpArgs false
namespace Go.Proofs.Ytfjpnjbinbhcfaa
section
namespace Q
open Go.RowKit PA PB PC
open DecLaw
def Loc {α : Type} (p : Ps α) : Prop := ∀ (r s : List Int) (a : α × List Int), p r = some a → p (r ++ s) = some (a.1, a.2 ++ s)
theorem Loc.bind {α β : Type} {p : Ps α} {f : α × List Int → Option (β × List Int)} (hp : Loc p) (hf : ∀ (x : α) (r s : List Int) (b : β × List Int), f (x, r) = some b → f (x, r ++ s) = some (b.1, b.2 ++ s)) : Loc (fun r => (p r).bind f) := by
 intro r s b h
 have h : (p r).bind f = some b := h
 cases h1 : p r with
 | none => rw [h1] at h; cases h
 | some a =>
  rw [h1] at h
  show (p (r ++ s)).bind f = _
  rw [hp r s a h1]
  exact hf a.1 a.2 s b h
theorem qCp : Loc qCm := by
 intro r s a h
 cases r with
 | nil => cases h
 | cons x r => obtain rfl := Option.some.inj h; rfl
theorem numP_loc (m : Nat) : Loc (numP m) := by
 intro r s a h
 unfold numP at h ⊢
 split at h
 ·rename_i hm
  obtain rfl := Option.some.inj h
  rw [if_pos (by rw [List.length_append]; omega), List.take_append_of_le_length hm, List.drop_append_of_le_length hm]
 cases h
theorem qD7 : Loc intP := by
 intro r s a h
 unfold intP at h ⊢
 split at h
 ·rename_i hm
  rw [if_pos (by rw [List.length_append]; omega), List.take_append_of_le_length hm, List.drop_append_of_le_length hm]
  split at h
  ·rename_i hv
   obtain rfl := Option.some.inj h
   rw [if_pos hv]
  cases h
 cases h
theorem rawP_loc (most : Int) : Loc (rawP most) := by
 unfold rawP
 refine Loc.bind qD7 fun x r s b h => ?_
 simp only at h ⊢
 split at h
 ·rename_i hm
  obtain rfl := Option.some.inj h
  have hl : x.toNat ≤ r.length := by omega
  rw [if_pos ⟨hm.1, by rw [List.length_append]; omega⟩, List.take_append_of_le_length hl, List.drop_append_of_le_length hl]
 cases h
theorem qC1 (most : Int) : Loc (qBS most) := by
 intro r s b h
 unfold qBS at h ⊢
 cases h1 : rawP most r with
 | none => rw [h1] at h; cases h
 | some a =>
  rw [h1] at h
  rw [rawP_loc most r s a h1]
  obtain rfl := Option.some.inj h
  rfl
theorem bytesP_loc : ∀ (n : Nat) (acc : List Int), Loc (qCh n acc)
 | 0, acc => fun r s a h => by
  simp only [qCh] at h ⊢
  obtain rfl := Option.some.inj h
  rfl
 | n + 1, acc => fun r s a h => by
  simp only [qCh] at h ⊢
  exact Loc.bind (f := fun a => qCh n (acc ++ [a.1]) a.2) qCp (fun x r s b hb => bytesP_loc n (acc ++ [x]) r s b hb) r s a h
theorem kindsP_loc : Loc qBB := by
 unfold qBB
 exact Loc.bind qCp fun x r s b h => bytesP_loc x.toNat [] r s b h
theorem codeP_loc : Loc qCj := by
 unfold qCj
 refine Loc.bind (rawP_loc 16384) fun x r s b h => ?_
 simp only at h ⊢
 split at h
 ·rename_i h0
  obtain rfl := Option.some.inj h
  rw [if_pos h0]
 cases h
theorem fnP_loc : Loc fnP := by
 unfold fnP
 refine Loc.bind kindsP_loc fun x r s b h => ?_
 refine Loc.bind (f := fun b => (qBB b.2).bind fun c => (qCj c.2).bind fun d => some ((x, b.1, c.1, d.1), d.2)) qCp (fun y r s b h => ?_) r s b h
 refine Loc.bind (f := fun c => (qCj c.2).bind fun d => some ((x, y, c.1, d.1), d.2)) kindsP_loc (fun z r s b h => ?_) r s b h
 refine Loc.bind (f := fun d => some ((x, y, z, d.1), d.2)) codeP_loc (fun u r s b h => ?_) r s b h
 obtain rfl := Option.some.inj h
 rfl
theorem varP_loc : Loc varP := by
 unfold varP
 refine Loc.bind (qC1 32) fun x r s b h => ?_
 refine Loc.bind (f := fun b => (numP 8 b.2).bind fun c => some (⟨x, ⟨b.1, c.1⟩⟩, c.2)) qCp (fun y r s b h => ?_) r s b h
 refine Loc.bind (f := fun c => some ((⟨x, ⟨y, c.1⟩⟩ : S71), c.2)) (numP_loc 8) (fun z r s b h => ?_) r s b h
 obtain rfl := Option.some.inj h
 rfl
theorem nfnP_loc : Loc nfnP := by
 unfold nfnP
 refine Loc.bind (qC1 32) fun x r s b h => ?_
 refine Loc.bind (f := fun b => some ((⟨x, ⟨⟨b.1.1, b.1.2.1⟩, b.1.2.2.1, b.1.2.2.2⟩⟩ : S80), b.2)) fnP_loc (fun y r s b h => ?_) r s b h
 obtain rfl := Option.some.inj h
 rfl
theorem relP_loc : Loc relP := by
 unfold relP
 refine Loc.bind (numP_loc 2) fun x r s b h => ?_
 refine Loc.bind (f := fun b => (qCm b.2).bind fun c => (qBS 32 c.2).bind fun d => (qBS 32 d.2).bind fun e => some (⟨x, b.1, c.1, d.1, e.1⟩, e.2)) (numP_loc 2) (fun y r s b h => ?_) r s b h
 refine Loc.bind (f := fun c => (qBS 32 c.2).bind fun d => (qBS 32 d.2).bind fun e => some (⟨x, y, c.1, d.1, e.1⟩, e.2)) qCp (fun z r s b h => ?_) r s b h
 refine Loc.bind (f := fun d => (qBS 32 d.2).bind fun e => some (⟨x, y, z, d.1, e.1⟩, e.2)) (qC1 32) (fun u r s b h => ?_) r s b h
 refine Loc.bind (f := fun e => some ((⟨x, y, z, u, e.1⟩ : S82), e.2)) (qC1 32) (fun v r s b h => ?_) r s b h
 obtain rfl := Option.some.inj h
 rfl
def Ends {β : Type} (f : List Int → Option β) : Prop := ∀ (r s : List Int) (b : β), s ≠ [] → f r = some b → f (r ++ s) = none
theorem Ends.bind {α β : Type} {p : Ps α} {f : α × List Int → Option β} (hp : Loc p) (hf : ∀ x, Ends fun r => f (x, r)) : Ends (fun r => (p r).bind f) := by
 intro r s b hs h
 have h : (p r).bind f = some b := h
 cases h1 : p r with
 | none => rw [h1] at h; cases h
 | some a =>
  rw [h1] at h
  show (p (r ++ s)).bind f = none
  rw [hp r s a h1]
  exact hf a.1 a.2 s b hs h
theorem endO_ends (o : Obj4) : Ends (endO o) := by
 intro r s b hs h
 unfold endO at h ⊢
 split at h
 ·rename_i hr
  subst hr
  rw [if_neg (by simpa using hs)]
 cases h
theorem relsC_ends (m : ByteArray) (vs : List S71) (fs : List S80) : ∀ (n : Nat) (acc : List S82), Ends (qD2 n m vs fs acc)
 | 0, acc => fun r s b hs h => by simp only [qD2] at h ⊢; exact endO_ends _ r s b hs h
 | n + 1, acc => fun r s b hs h => by
  simp only [qD2] at h ⊢
  exact Ends.bind (f := fun a => qD2 n m vs fs (acc ++ [a.1]) a.2) relP_loc (fun x => relsC_ends m vs fs n (acc ++ [x])) r s b hs h
theorem relsI_ends (m : ByteArray) (vs : List S71) (fs : List S80) : Ends (relsI m vs fs) := Ends.bind qD7 fun x => relsC_ends m vs fs x.toNat []
theorem fnsC_ends (m : ByteArray) (vs : List S71) : ∀ (n : Nat) (acc : List S80), Ends (fnsC n m vs acc)
 | 0, acc => fun r s b hs h => by simp only [fnsC] at h ⊢; exact relsI_ends m vs acc r s b hs h
 | n + 1, acc => fun r s b hs h => by
  simp only [fnsC] at h ⊢
  exact Ends.bind (f := fun a => fnsC n m vs (acc ++ [a.1]) a.2) nfnP_loc (fun x => fnsC_ends m vs n (acc ++ [x])) r s b hs h
theorem fnsI_ends (m : ByteArray) (vs : List S71) : Ends (fnsI m vs) := Ends.bind qD7 fun x => fnsC_ends m vs x.toNat []
theorem varsC_ends (m : ByteArray) : ∀ (n : Nat) (acc : List S71), Ends (qDp n m acc)
 | 0, acc => fun r s b hs h => by simp only [qDp] at h ⊢; exact fnsI_ends m acc r s b hs h
 | n + 1, acc => fun r s b hs h => by
  simp only [qDp] at h ⊢
  exact Ends.bind (f := fun a => qDp n m (acc ++ [a.1]) a.2) varP_loc (fun x => varsC_ends m n (acc ++ [x])) r s b hs h
theorem objC_ends : Ends objC := by
 unfold objC
 refine Ends.bind (qC1 32) fun x => ?_
 exact Ends.bind (f := fun b => qDp b.1.toNat x [] b.2) qD7 fun y => varsC_ends x y.toNat []
theorem qDw {b s : List Int} {o : Obj4} (hs : s ≠ []) (h : qBZ b = some o) : qBZ (b ++ s) = none := by
 unfold qBZ at h ⊢
 split at h
 ·rename_i hm
  have hl : 4 ≤ b.length := by
   have := congrArg List.length hm
   rw [List.length_take] at this
   have h2 : MK.length = 4 := rfl
   omega
  rw [List.take_append_of_le_length hl, if_pos hm, List.drop_append_of_le_length hl]
  exact objC_ends _ s o hs h
 cases h
theorem whole_cut {b : List Int} {o : Obj4} (h : qBZ b = some o) (n : Nat) (hn : n < b.length) : qBZ (b.take n) = none := by
 cases hw : qBZ (b.take n) with
 | none => rfl
 | some o2 =>
  have := qDw (s := b.drop n) (by intro hd; have := congrArg List.length hd; rw [List.length_drop] at this; simp at this; omega) hw
  rw [List.take_append_drop, h] at this
  cases this
structure Told (b : List Int) (m : ByteArray) (vs : List S71) (fs : List S80) (rs : List S82) : Prop where
 ev : Ev (fun k => qAa.f k b) (m, vs, fs, rs, 0)
 whole : qBZ b = some (m, vs, fs, rs)
 bytes : b = qBX m vs fs rs
 good : GoodO m vs fs rs
 right : qBH m vs fs rs = 0
 len : b.length ≤ 16384
theorem qEc (b : List Int) (hb : qAM b) : (∃ m vs fs rs, Told b m vs fs rs) ∨ ∃ e, e ≠ 0 ∧ Ev (fun k => qAa.f k b) (⟨#[]⟩, [], [], [], e) ∧ (b.length ≤ 16384 → e = 52) := by
 by_cases hl : 16384 < b.length
 ·exact .inr ⟨3, by decide, unpack_big b hl, fun h => by omega⟩
 cases hw : qBZ b with
 | none => exact .inr ⟨52, by decide, qEa b hb _ hl ⟨fun o ho => (by rw [hw] at ho; cases ho), fun _ => rfl⟩, fun _ => rfl⟩
 | some o =>
  obtain ⟨m, vs, fs, rs⟩ := o
  obtain ⟨hpk, hg⟩ := whole_wr hb hw
  simp only at hpk hg
  have ht := tailP_ev m vs fs rs hg (by rw [← hpk]; exact hl)
  rw [← hpk] at ht
  have h1 := fun R (hR : Ev (tailP b (m, vs, fs, rs)) R) => qEa b hb R hl ⟨fun o ho => by rw [hw] at ho; obtain rfl := Option.some.inj ho; exact hR, fun hn => by rw [hw] at hn; cases hn⟩
  by_cases h : qBH m vs fs rs = 0
  ·rw [if_pos h] at ht
   exact .inl ⟨m, vs, fs, rs, h1 _ ht, hw, hpk, hg, h, by omega⟩
  rw [if_neg h] at ht
  exact .inr ⟨52, by decide, h1 _ ht, fun _ => rfl⟩
theorem qEb (b : List Int) (hb : qAM b) (h : qBZ b = none) : ∃ e, e ≠ 0 ∧ Ev (fun k => qAa.f k b) (⟨#[]⟩, [], [], [], e) ∧ (b.length ≤ 16384 → e = 52) := by
 rcases qEc b hb with ⟨m, vs, fs, rs, t⟩ | ⟨e, h1, h2, h3⟩
 ·have := t.whole
  rw [h] at this
  cases this
 exact ⟨e, h1, h2, h3⟩
theorem Told.pack {b : List Int} {m : ByteArray} {vs : List S71} {fs : List S80} {rs : List S82} (t : Told b m vs fs rs) : qA7.f m vs fs rs = some (b, 0) := by
 have hl := t.len
 have hb := t.bytes
 unfold qA7.f
 rw [if_pos t.good, if_neg (fun q => q t.right), ← hb, if_neg (by omega)]
theorem Told.longer {b : List Int} {m : ByteArray} {vs : List S71} {fs : List S80} {rs : List S82} (t : Told b m vs fs rs) (s : List Int) (hs : s ≠ []) (hb : qAM (b ++ s)) : ∃ e, e ≠ 0 ∧ Ev (fun k => qAa.f k (b ++ s)) (⟨#[]⟩, [], [], [], e) := by
 obtain ⟨e, h1, h2, _⟩ := qEb (b ++ s) hb (qDw hs t.whole)
 exact ⟨e, h1, h2⟩
theorem Told.cut {b : List Int} {m : ByteArray} {vs : List S71} {fs : List S80} {rs : List S82} (t : Told b m vs fs rs) (n : Nat) (hn : n < b.length) (hb : qAM b) : Ev (fun k => qAa.f k (b.take n)) (⟨#[]⟩, [], [], [], 52) := by
 obtain ⟨e, h1, h2, h3⟩ := qEb (b.take n) (qBQ hb n) (whole_cut t.whole n hn)
 have hl := t.len
 rw [← h3 (by rw [List.length_take]; omega)]
 exact h2
theorem bytes_j0 {l : List Int} {m : ByteArray} {vs : List S71} {fs : List S80} {rs : List S82} (t : Told l m vs fs rs) (hb : qAM l) (n x : Int) (hx : 0 ≤ x ∧ x < 256) : Ev (fun k => foundrylaw15_ObjectBytes.j0 k l n x false) true := by
 obtain ⟨e, he, hlong⟩ := t.longer [x] (by simp) (fun y hy => by
   rcases List.mem_append.1 hy with h | h
   · exact hb y h
   · rw [List.mem_singleton.1 h]; exact hx)
 have hlen := t.len
 refine Ev.step (f := fun k => (qAa.f k (l ++ [x])).bind fun b => (if b.2.2.2.2 = 0 then some false else if n < 0 then some true else if n ≥ (l.length : Int) then some true else if 0 ≤ n then (if n ≤ (l.length : Int) then ((qAa.f k (l.take n.toNat)).bind fun c => some (c.2.2.2.2 == 52)) else none) else none)) (fun k => ?_) (Ev.bind hlong ?_)
 ·simp only [foundrylaw15_ObjectBytes.j0]
  rw [if_neg (by decide), Option.bind_some, if_pos (by rw [List.length_nil]; omega), Option.bind_some, List.nil_append, if_pos (by omega)]
 simp only [he, if_false]
 by_cases h0 : n < 0
 ·simp only [h0, if_true]; exact Ev.now _
 by_cases h1 : n ≥ (l.length : Int)
 ·simp only [h0, h1, if_false, if_true]; exact Ev.now _
 simp only [h0, h1, if_false, show 0 ≤ n from by omega, show n ≤ (l.length : Int) from by omega, if_true]
 exact Ev.bind (t.cut n.toNat (by omega) hb) (Ev.congr (f := fun _ => some true) (fun k => rfl) (Ev.now _))
theorem bytes_ev (l : List Int) (hb : qAM l) (n x : Int) (hx : 0 ≤ x ∧ x < 256) : Ev (fun k => foundrylaw15_ObjectBytes.f k l n x) true := by
 unfold foundrylaw15_ObjectBytes.f
 rcases qEc l hb with ⟨m, vs, fs, rs, t⟩ | ⟨e, he, hev, _⟩
 ·refine Ev.bind t.ev ?_
  simp only [if_true, t.pack, Option.bind_some]
  exact Ev.bind alive_ev (bytes_j0 t hb n x hx)
 refine Ev.bind hev ?_
 have e1 : (⟨#[]⟩ : ByteArray).toList = ([] : List UInt8) := by rw [Lib.toList_data]
 have e2 : wrap64 (wrap64 (((0 : Nat) : Int) + ((0 : Nat) : Int)) + ((0 : Nat) : Int)) = 0 := by unfold wrap64; omega
 simp only [he, if_false, e1, if_true, List.length_nil, e2]
 exact Ev.bind alive_ev (Ev.now _)
end Q
end
section
namespace Pure
open Go.RowKit Q PA PB
theorem ObjectBytes : foundrylaw15_ObjectBytes.Pure := by
 intro l0 a1 a2 _ h1 hw h2 h3
 refine (bytes_ev l0 (fun x hx => ?_) a1 a2 ?_).rounds
 ·have h := hw x hx
  simp [Lit.wf, IntKind.min, IntKind.max, IntKind.bits, IntKind.signed] at h
  omega
 simp [Lit.wf, IntKind.min, IntKind.max, IntKind.bits, IntKind.signed] at h3
 omega
end Pure
end
section
namespace PA
open Go.ChangeShapes Go.WideShapes
theorem sized_ints {H : Type} {enc : TypeId × Value → H} {P : Program} {W : World} {base : Nat} {spare : Nat → Bool} {held : Bool} {t e : TypeId} {k : IntKind} {a : Option Addr} {len cap : Nat} {d : DataW H} {ps : List MemPlace} {ts : List TypeId} {ds : List (DataW H)} {j : Nat}
  (hsz : (DataW.weightsEach P ts ds).all (· ≤ reachBytes) = true) (ht : ts[j]? = some t) (hd : ds[j]? = some d) (hu : P.underlying t = some (.slice e)) (he : P.underlying e = some (.int k)) (hc : P.cellsOf e = 1) {B : Nat} (hB : P.bytesOf e = B)
  (h : DataW.Trod enc P W base spare held t (.slice a len cap) d ps) : len * B ≤ 140737488351232 := by
 obtain ⟨fuel, hf⟩ := h
 rcases open_ints hu he hc hf with ⟨hcs, _⟩ | ⟨x, l, c, zs, hcs, _, hl, _, hz, hx, _, _⟩
 ·simp [Value.cells] at hcs
  obtain ⟨rfl, rfl, rfl⟩ := hcs
  simp
 ·simp [Value.cells] at hcs
  obtain ⟨rfl, rfl, rfl⟩ := hcs
  obtain ⟨hx, _⟩ := Prod.mk.inj hx
  subst hx
  have z := sized_slice hsz ht hd hu
  rw [hB] at z
  have hl2 : len ≤ zs.length := by
   rw [hz]
   split
   ·exact hl
   exact Nat.le_refl _
  have h1 : (lits (H := H) k (zs.take len)).length + (lits (H := H) k (zs.drop len)).length = zs.length := by
   simp [lits]
   omega
  rw [h1] at z
  exact Nat.le_trans (Nat.mul_le_mul_right _ hl2) z
end PA
end
section
namespace objectBytes
open Go.ChangeShapes Go.WideShapes Go.ChangeAt Go.RowKit
open Go.ChangeMaps (open_string shut_string)
theorem own : ownKnob Try.prog.godebug = none := by kernel_rfl
theorem laidOut : laidOutB Try.prog = true := by kernel_rfl
def IsRow (k : IntKind) (w : World) (a : Option Addr) (len cap : Nat) (zs : List Int) : Prop :=
 (a = none ∧ len = 0 ∧ cap = 0 ∧ zs = []) ∨
 ∃ x, a = some x ∧ len ≤ cap ∧ cap ≤ maxLen ∧ zs.length = cap ∧ (∀ i, i < zs.length → w.cell? (x.add i) = some (.int k (zs.getD i 0))) ∧ ∀ n ∈ zs, (Lit.int k n).wf = true
theorem lifted (os : Os) (started : os.Started) (H : Type) (enc : TypeId × Value → H) :
  ReturnsInHanded {} Try.checked os 3 .any (Rows.objectBytesSpec.pre6 enc Try.prog Try.f3 Rows.objectBytesRow.domain false) (Rows.objectBytesSpec.post enc Try.prog Try.f3 false true false false) := by
 refine returnsInHanded_of_change_sized (C := Try.checked) own started (by kernel_rfl) Try.func3
  (ChangeSpec.witness6 (enc := enc) (C := Try.checked) false ⟨#[], #[.slice none 0 0, .int .i64 0, .int .u8 0], []⟩ 8 (by kernel_rfl) (by kernel_rfl) (by kernel_rfl) (by kernel_rfl)) ?_
 intro W base args ds gs before hval0 hW hcnd hsz0 _
 have hsz : (DataW.weightsEach Try.prog (Try.f3.params.toList ++ Rows.objectBytesSpec.plain.varTypes Try.prog) (ds ++ gs)).all (· ≤ reachBytes) = true := hsz0
 have hval : ∀ (j : Nat) t v, Try.f3.params[j]? = some t → args[j]? = some v → Value.okWide Try.prog W .any base t v := hval0
 have hW' := hW
 obtain ⟨p, q, hA0, hV, rfl, hfz, hnd⟩ := hW
 have hA : DataW.TrodAll enc Try.prog W 0 (fun _ => true) true Try.f3.params.toList args.toList ds p := hA0
 rw [Try.params3] at hA hval hsz
 obtain ⟨v0, vs0, d0, ds0, p0, q0, hargs, rfl, rfl, h0, r0⟩ := trodAll_cons hA
 obtain ⟨v1, vs1, d1, ds1, p1, q1, rfl, rfl, rfl, h1, r1⟩ := trodAll_cons r0
 obtain ⟨v2, vs2, d2, ds2, p2, q2, rfl, rfl, rfl, h2, r2⟩ := trodAll_cons r1
 obtain ⟨rfl, rfl, rfl⟩ := trodAll_nil r2
 obtain rfl : args = #[v0, v1, v2] := by cases args; simp_all
 obtain ⟨rfl, rfl⟩ := trodVars_none hV
 obtain ⟨a0, len0, cap0, rfl⟩ := okWide_slice Try.underlying22 (hval 0 22 v0 rfl rfl)
 have k0 := h0
 have lt0 : ∀ x ∈ p0, x.block < W.heap.size := by obtain ⟨m, hm⟩ := k0; exact DataW.trod_lt m _ _ _ hm
 obtain ⟨z0, w0⟩ : ∃ zs, IsRow .u8 W a0 len0 cap0 zs := by
  obtain ⟨fuel, hf⟩ := h0
  rcases open_ints Try.underlying22 Try.underlying5 (by kernel_rfl) hf with ⟨hcs, _⟩ | ⟨x, l, c, zs, hcs, _, hl, hm, hz, _, hcell, hwz⟩
  ·simp [Value.cells] at hcs
   obtain ⟨rfl, rfl, rfl⟩ := hcs
   exact ⟨[], .inl ⟨rfl, rfl, rfl, rfl⟩⟩
  simp [Value.cells] at hcs
  obtain ⟨rfl, rfl, rfl⟩ := hcs
  exact ⟨zs, .inr ⟨_, rfl, hl, hm, by simpa using hz, hcell, hwz⟩⟩
 have y0 : len0 * 1 ≤ 140737488351232 := PA.sized_ints hsz (j := 0) (t := 22) rfl rfl Try.underlying22 Try.underlying5 (by kernel_rfl) (by kernel_rfl) h0
 obtain ⟨a1, rfl, rfl, rfl, w1⟩ := open_int Try.underlying3 (hval 1 3 v1 rfl rfl) h1
 obtain ⟨a2, rfl, rfl, rfl, w2⟩ := open_int Try.underlying5 (hval 2 5 v2 rfl rfl) h2
 clear hA0 hval0 hsz0 hsz
 refine (Q.foundrylaw15_ObjectBytes.walk Pure.ObjectBytes a0 len0 cap0 z0 a1 a2 W w0 y0 w1 w2).mono fun e W' ⟨he, bel⟩ => ?_
 subst he
 exact ⟨_, rfl, _, _, _, [], _, [], hW', trodAll_mk1 (shut_bool Try.underlying4 _), (trodAll_cons_mk (Below.trod laidOut (by kernel_rfl) (of_decide_eq_true (by kernel_rfl)) k0 bel lt0) (trodAll_cons_mk (shut_int Try.underlying3 w1) (trodAll_cons_mk (shut_int Try.underlying5 w2) trodAll_mk0))), rfl, bel.frame _, fun h => by cases h⟩
theorem over : Rows.objectBytesRow.holds Try.pinned (OpenSpec.ofChange Rows.objectBytesSpec) :=
 OpenClaim.holds_of_wide 3 Try.f3 rfl rfl rfl rfl rfl rfl rfl ⟨rfl, rfl, rfl, rfl, rfl⟩ rfl rfl rfl rfl rfl (by kernel_rfl) Try.func3 (by kernel_rfl)
  (of_decide_eq_true (by kernel_rfl)) (by unfold Func.isWrapper; first | (rw [if_pos (by decide +kernel)]; kernel_rfl) | (rw [if_neg (by decide +kernel)]; exact ⟨rfl, rfl⟩))
  (fun os started H enc _ => lifted os started H enc)
theorem proved : Rows.ObjectBytesSaid := over
#print axioms proved
end objectBytes

theorem objectBytes_holds : Rows.ObjectBytesSaid := objectBytes.proved
end
end Go.Proofs.Ytfjpnjbinbhcfaa
