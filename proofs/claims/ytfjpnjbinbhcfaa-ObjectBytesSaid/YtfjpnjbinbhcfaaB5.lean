/- object.Unpack of any bytes, where the law ObjectBytes asks: bytes that are read are written again as they were; bytes that are cut or longer are none. Part 5 of 8. -/
import Derived.Test.YtfjpnjbinbhcfaaB4
import Derived.Laws.BitsAllLaws
set_option maxHeartbeats 8000000
set_option maxRecDepth 100000
set_option linter.unusedVariables false
set_option linter.unusedSimpArgs false
namespace Go.Proofs.Ytfjpnjbinbhcfaa
section
namespace Q
open Go.RowKit PA PB PC
theorem qDx (p q : Addr) (w : World) :
  CallsD Try.prog 115 #[.pointer (some p), .pointer (some q)] .returning w fun e u' w' => e = .returned (.tuple #[]) ∧ u' = .returning ∧ w' = w := by
 refine callsD_of_wpS Try.func115 rfl fun c₀ cs hu => ?_
 apply wpS_seq
 apply wpS_region
 simp [wpOpsS, go_sem, recoverD, hu, Try.ntmps115, Exit.thenS]
 refine wpS_of_wp (qBN fun Q' hQ => ?_)
 have HQ := am hQ
 clear hQ
 rw [show ((#[Value.pointer (some p), Value.pointer (some q)] : Array Value) ++ (Array.replicate 15 undef).setIfInBounds 4 Value.nilIface) = #[.pointer (some p), .pointer (some q), undef, undef, undef, undef, .nilIface, undef, undef, undef, undef, undef, undef, undef, undef, undef, undef] from rfl]
 go_wp2
 refine HQ.out _ _ _ ?_
 cases c₀
 simp_all [bodyPostS, results, Try.results115]
theorem qCM (bv g bq : Nat) (x : Value) (k : Int) (v : Value) (older : List PanicEntry) (w : World) (hp : w.cell? ⟨bv, 0, none⟩ = some x) (hz : w.frozen? ⟨bv, 0, none⟩ = false) (hq : w.cell? ⟨bq, 0, none⟩ = some (.pointer (some ⟨g, 0, none⟩))) (hg : w.heap[g]? = some (.cells #[v, .int .i64 0] 144 (0, 0))) (hpg : bv ≠ g) (hpq : bv ≠ bq) :
  CallsD Try.prog 115 #[.pointer (some ⟨bv, 0, none⟩), .pointer (some ⟨bq, 0, none⟩)] (.panicking ({ v := .iface 179 (.int .i64 k), recovered := false } :: older)) w fun e u' w' =>
   e = .returned (.tuple #[]) ∧ u' = .panicking ({ v := .iface 179 (.int .i64 k), recovered := true } :: older) ∧ w' = (w.setCell ⟨bv, 0, none⟩ (.slice none 0 0)).setCell ⟨g, 1, none⟩ (.int .i64 k) := by
 have hta : ∀ (v : Value) (W : World), (Instr.typeAssert (.iface 179 v) 20 179 true).run Try.prog W = .ok (.tuple #[v, .bool true]) W := fun v W => by rfl
 have c1 : (w.setCell ⟨bv, 0, none⟩ (.slice none 0 0)).cell? ⟨g, 1, none⟩ = some (.int .i64 0) := (World.cell?_setCell_other _ _ _ _ (by intro e; injection e with e; exact hpg e)).trans ((qAb hg 1).trans rfl)
 have f1 : (w.setCell ⟨bv, 0, none⟩ (.slice none 0 0)).frozen? ⟨g, 1, none⟩ = false := (World.frozen?_setCell _ _ _ _).trans (qAc hg 1)
 have q1 : (w.setCell ⟨bv, 0, none⟩ (.slice none 0 0)).cell? ⟨bq, 0, none⟩ = some (.pointer (some ⟨g, 0, none⟩)) := (World.cell?_setCell_other _ _ _ _ (by intro e; injection e with e; exact hpq e)).trans hq
 refine callsD_of_wpS Try.func115 rfl fun c₀ cs hu => ?_
 apply wpS_seq
 apply wpS_region
 simp [wpOpsS, go_sem, recoverD, hu, Try.ntmps115, Exit.thenS]
 refine wpS_of_wp (qBN fun Q' hQ => ?_)
 have HQ := am hQ
 clear hQ
 rw [show ((#[Value.pointer (some ⟨bv, 0, none⟩), Value.pointer (some ⟨bq, 0, none⟩)] : Array Value) ++ (Array.replicate 15 undef).setIfInBounds 4 (Value.iface 179 (.int .i64 k))) = #[.pointer (some ⟨bv, 0, none⟩), .pointer (some ⟨bq, 0, none⟩), undef, undef, undef, undef, .iface 179 (.int .i64 k), undef, undef, undef, undef, undef, undef, undef, undef, undef, undef] from rfl]
 go_wp2
 refine HQ.out _ _ _ ?_
 cases c₀
 simp_all [bodyPostS, results, Try.results115]
theorem qCH (F : Value) (g : Nat) (f0 : List Int) (p e : Int) (w0 w : World) (he : e ≠ 0) (hI : qAe w0 w g f0 p e) (hB : Below w0.heap.size w0 w) :
  Calls Try.prog 98 #[.pointer (some ⟨g, 0, none⟩), F] w fun e' w' => e' = .returned (.slice none 0 0) ∧ qAe w0 w' g f0 p e ∧ Below w0.heap.size w0 w' ∧ qAd w w' g none := by
 have HI := am hI
 have HB := am hB
 have hgl := hI.lt
 obtain ⟨_, h1, h2, h3, v, hb, hr⟩ := hI
 have c1 : w.cell? ⟨g, 1, none⟩ = some (.int .i64 e) := (qAb hb 1).trans rfl
 have hb0 : (e != 0) = true := bne_iff_ne.mpr he
 clear hb hr hB h1 h2 h3 he
 go_enter_defers Try.func98, Try.ntmps98
 go_wp2
 exact ⟨.slice none 0 0, by simp [results, Try.results98, go_sem], rfl, (HI.out.alloc _).alloc _, qAu (qAu HB.out _) _, qAV (qAV (qAd.refl _ _ _) _) _⟩
theorem guarded_raw_ok (b1 b2 g : Nat) (f0 : List Int) (p p' : Int) (n : Nat) (bs : List Int) (w0 w : World) (hI : qAe w0 w g f0 p 0) (hB : Below w0.heap.size w0 w)
  (hfn : ∀ W, Below w.heap.size w W → qAe w0 W g f0 p 0 → Below w0.heap.size w0 W → Calls Try.prog 99 #[.pointer (some ⟨b1, 0, none⟩), .pointer (some ⟨b2, 0, none⟩)] W fun e w' => ∃ A c, e = .returned (.slice A n c) ∧ Kd.R (Kd.int .u8) 5 w' W.heap.size (fun _ => True) (.slice A n c) bs ∧ qAe w0 w' g f0 p' 0 ∧ Below w0.heap.size w0 w' ∧ qAd W w' g none) :
  Calls Try.prog 98 #[.pointer (some ⟨g, 0, none⟩), .func (.func 99) #[] #[.pointer (some ⟨b1, 0, none⟩), .pointer (some ⟨b2, 0, none⟩)]] w fun e w' => ∃ A c, e = .returned (.slice A n c) ∧ Kd.R (Kd.int .u8) 5 w' w.heap.size (fun _ => True) (.slice A n c) bs ∧ qAe w0 w' g f0 p' 0 ∧ Below w0.heap.size w0 w' ∧ qAd w w' g none := by
 have HI := am hI
 have HB := am hB
 have HFN := am hfn
 have hgl := hI.lt
 obtain ⟨_, h1, h2, h3, v, hb, hr⟩ := hI
 have c1 : w.cell? ⟨g, 1, none⟩ = some (.int .i64 0) := (qAb hb 1).trans rfl
 clear hb hr hB h1 h2 h3 hfn
 go_enter_defers Try.func98, Try.ntmps98
 have HB3 := am (((Below.refl w.heap.size w).alloc (Nat.le_refl _) (.cells #[.pointer (some ⟨g, 0, none⟩)] 59)).alloc (by simp) (.cells #[.slice none 0 0] 22))
 have H3 : qAf (((w.alloc (.cells #[.pointer (some ⟨g, 0, none⟩)] 59)).alloc (.cells #[.slice none 0 0] 22)).heap[w.heap.size + 1]? = some (.cells #[.slice none 0 0] 22 (0, 0))) := ⟨by simpa using heap_alloc_new (w.alloc (.cells #[.pointer (some ⟨g, 0, none⟩)] 59)) (.cells #[.slice none 0 0] 22)⟩
 go_wp2_with (go_at_call 99; refine (HFN.out _ HB3.out ((HI.out.alloc _).alloc _) (qAu (qAu HB.out _) _)).mono ?_; rintro e w4 ⟨A, c, rfl, hR, hi, hbw, hk⟩; have hv4 : w4.heap[w.heap.size + 1]? = some (.cells #[.slice none 0 0] 22 (0, 0)) := (hk.2 _ (qAO H3.out) (by omega) (by simp)).trans H3.out; have v4 : w4.cell? ⟨w.heap.size + 1, 0, none⟩ = some (.slice none 0 0) := (qAb hv4 0).trans rfl; have z4 := qAc hv4 0; have HI4 := am (hi.behind (p := ⟨w.heap.size + 1, 0, none⟩) (by show g < w.heap.size + 1; omega) (.slice A n c)); have HK4 := am (qB9 (j := 0) HB3.out hk (Nat.le_succ _) (.slice A n c)); have HV4 := am hv4; have HB4 := am (qAq (g := w.heap.size + 1) (j := 0) (v := .slice A n c) hbw (Nat.le_trans HB.out.size (Nat.le_succ _))); have HR4 := am (Kd.R_set (Kd.R_lower hR HB3.out.size) hv4 (by decide) 0 (.slice A n c)); clear hi hk hv4 hbw hR)
 refine leaves_cons (f := 115) (args := #[.pointer (some ⟨w.heap.size + 1, 0, none⟩), .pointer (some ⟨w.heap.size, 0, none⟩)]) (by simp) (by simp [go_sem]) ?_
 refine (qDx _ _ _).mono ?_
 rintro e u' w'' ⟨rfl, rfl, rfl⟩
 have hvc : (w4.setCell ⟨w.heap.size + 1, 0, none⟩ (.slice A n c)).heap[w.heap.size + 1]? = some (.cells #[.slice A n c] 22 (0, 0)) := by simpa using qB5 HV4.out 0 (.slice A n c)
 have hres := (qAb hvc 0).trans rfl
 exact ⟨.slice A n c, by simp [results, Try.results98, go_sem, hres], A, c, rfl, HR4.out, HI4.out, HB4.out, HK4.out⟩
theorem qB0 (b1 b2 g : Nat) (f0 : List Int) (p p' : Int) (k : Int) (w0 w : World) (hI : qAe w0 w g f0 p 0) (hB : Below w0.heap.size w0 w)
  (hfn : ∀ W, Below w.heap.size w W → qAe w0 W g f0 p 0 → Below w0.heap.size w0 W → Calls Try.prog 99 #[.pointer (some ⟨b1, 0, none⟩), .pointer (some ⟨b2, 0, none⟩)] W fun e w' => e = .panicked [{ v := .iface 179 (.int .i64 k), recovered := false }] ∧ qAe w0 w' g f0 p' 0 ∧ Below w0.heap.size w0 w' ∧ qAd W w' g none) :
  Calls Try.prog 98 #[.pointer (some ⟨g, 0, none⟩), .func (.func 99) #[] #[.pointer (some ⟨b1, 0, none⟩), .pointer (some ⟨b2, 0, none⟩)]] w fun e w' => e = .returned (.slice none 0 0) ∧ qAe w0 w' g f0 p' k ∧ Below w0.heap.size w0 w' ∧ qAd w w' g none := by
 have HI := am hI
 have HB := am hB
 have HFN := am hfn
 have hgl := hI.lt
 obtain ⟨_, h1, h2, h3, v, hb, hr⟩ := hI
 have c1 : w.cell? ⟨g, 1, none⟩ = some (.int .i64 0) := (qAb hb 1).trans rfl
 clear hb hr hB h1 h2 h3 hfn
 go_enter_defers Try.func98, Try.ntmps98
 have HB3 := am (((Below.refl w.heap.size w).alloc (Nat.le_refl _) (.cells #[.pointer (some ⟨g, 0, none⟩)] 59)).alloc (by simp) (.cells #[.slice none 0 0] 22))
 have H2 : qAf (((w.alloc (.cells #[.pointer (some ⟨g, 0, none⟩)] 59)).alloc (.cells #[.slice none 0 0] 22)).heap[w.heap.size]? = some (.cells #[.pointer (some ⟨g, 0, none⟩)] 59 (0, 0))) := ⟨qAR (heap_alloc_new w _) _⟩
 have H3 : qAf (((w.alloc (.cells #[.pointer (some ⟨g, 0, none⟩)] 59)).alloc (.cells #[.slice none 0 0] 22)).heap[w.heap.size + 1]? = some (.cells #[.slice none 0 0] 22 (0, 0))) := ⟨by simpa using heap_alloc_new (w.alloc (.cells #[.pointer (some ⟨g, 0, none⟩)] 59)) (.cells #[.slice none 0 0] 22)⟩
 go_wp2_with (go_at_call 99; refine (HFN.out _ HB3.out ((HI.out.alloc _).alloc _) (qAu (qAu HB.out _) _)).mono ?_; rintro e w4 ⟨rfl, hi, hbw, hk⟩)
 refine leaves_cons (f := 115) (args := #[.pointer (some ⟨w.heap.size + 1, 0, none⟩), .pointer (some ⟨w.heap.size, 0, none⟩)]) (by simp) (by simp [go_sem]) ?_
 have hv4 : w4.heap[w.heap.size + 1]? = some (.cells #[.slice none 0 0] 22 (0, 0)) := (hk.2 _ (qAO H3.out) (by omega) (by simp)).trans H3.out
 have hq4 : w4.heap[w.heap.size]? = some (.cells #[.pointer (some ⟨g, 0, none⟩)] 59 (0, 0)) := (hk.2 _ (qAO H2.out) (by omega) (by simp)).trans H2.out
 obtain ⟨_, _, _, _, v4, hg4, _⟩ := id hi
 refine (qCM (w.heap.size + 1) g w.heap.size (.slice none 0 0) k v4 [] _ ((qAb hv4 0).trans rfl) (qAc hv4 0) ((qAb hq4 0).trans rfl) hg4 (by omega) (by omega)).mono ?_
 rintro e u' w'' ⟨rfl, rfl, rfl⟩
 have HI5 := am ((hi.behind (p := ⟨w.heap.size + 1, 0, none⟩) (by show g < w.heap.size + 1; omega) (.slice none 0 0)).set_e k)
 have HB5 := am (qAq (g := g) (j := 1) (v := .int .i64 k) (qAq (g := w.heap.size + 1) (j := 0) (v := .slice none 0 0) hbw (Nat.le_trans HB.out.size (Nat.le_succ _))) HI.out.ge)
 have HK5 := am (qAd.set_ (qB9 (j := 0) HB3.out hk (Nat.le_succ _) (.slice none 0 0)) 1 (.int .i64 k))
 have hvc := qA4 (g := w.heap.size + 1) (p := ⟨g, 1, none⟩) (qB5 hv4 0 (.slice none 0 0)) (by show w.heap.size + 1 ≠ g; omega) (.int .i64 k)
 have hres := (qAb hvc 0).trans rfl
 clear hvc
 exact ⟨.slice none 0 0, by simp [results, Try.results98, go_sem, hres], rfl, HI5.out, HB5.out, HK5.out⟩
def qAs.f (s0_0 : List Int) (s0_1 : Int) (s0_2 : Int) (a1 : Int) : Option (List Int × Int × Int) :=
 some (if s0_2 ≠ 0 then ([], s0_1, s0_2) else if s0_1 + 4 ≤ s0_0.length then (if num4 s0_0 s0_1 ≤ 2147483647 then (if num4 s0_0 s0_1 ≤ mx a1 0 then (if s0_1 + 4 + num4 s0_0 s0_1 ≤ s0_0.length then ((s0_0.drop (s0_1 + 4).toNat).take (num4 s0_0 s0_1).toNat, s0_1 + 4 + num4 s0_0 s0_1, 0) else ([], s0_1 + 4, 40)) else ([], s0_1 + 4, 3)) else ([], s0_1 + 4, 42)) else ([], s0_1, 40))
theorem qAs.calls (g : Nat) (s0_0 : List Int) (s0_1 : Int) (s0_2 : Int) (a1 : Int) (r1 : List Int) (r2 : Int) (r3 : Int) (w0 w : World) (hI : qAe w0 w g s0_0 s0_1 s0_2) (hB : Below w0.heap.size w0 w) (h : qAs.f s0_0 s0_1 s0_2 a1 = some (r1, r2, r3)) :
  Calls Try.prog 52 #[.pointer (some ⟨g, 0, none⟩), .int .i64 a1] w fun e w' => ∃ v0_ : Value, e = .returned (v0_) ∧ Kd.R (Kd.int .u8) 5 w' w.heap.size (fun _ => True) v0_ r1 ∧ qAe w0 w' g s0_0 r2 r3 ∧ Below w0.heap.size w0 w' ∧ qAd w w' g none := by
 have h0 : 0 ≤ s0_1 := hI.2.1
 have hgl := hI.lt
 have HI := am ((hI.alloc (.cells #[.pointer (some ⟨g, 0, none⟩)] 59)).alloc (.cells #[.int .i64 a1] 3))
 have HB := am (qAu (qAu hB (.cells #[.pointer (some ⟨g, 0, none⟩)] 59)) (.cells #[.int .i64 a1] 3))
 have HK := am (qAV (qAV (qAd.refl w g none) (.cells #[.pointer (some ⟨g, 0, none⟩)] 59)) (.cells #[.int .i64 a1] 3))
 obtain ⟨W1, hW1⟩ : ∃ W1, W1 = (w.alloc (.cells #[.pointer (some ⟨g, 0, none⟩)] 59)).alloc (.cells #[.int .i64 a1] 3) := ⟨_, rfl⟩
 have hq : W1.cell? ⟨w.heap.size, 0, none⟩ = some (.pointer (some ⟨g, 0, none⟩)) := by rw [hW1]; exact (qAb (qAR (heap_alloc_new w _) _) 0).trans rfl
 have hq2 : W1.cell? ⟨w.heap.size + 1, 0, none⟩ = some (.int .i64 a1) := by rw [hW1]; exact (qAb (by simpa using heap_alloc_new (w.alloc (.cells #[.pointer (some ⟨g, 0, none⟩)] 59)) (.cells #[.int .i64 a1] 3)) 0).trans rfl
 rw [← hW1] at HI HB HK
 have HQ : qAf (∀ W, Below W1.heap.size W1 W → W.cell? ⟨w.heap.size, 0, none⟩ = some (.pointer (some ⟨g, 0, none⟩))) := ⟨fun W hW => (hW.cell (World.block_lt_of_cell? W1 _ hq)).trans hq⟩
 have HQ2 : qAf (∀ W, Below W1.heap.size W1 W → W.cell? ⟨w.heap.size + 1, 0, none⟩ = some (.int .i64 a1)) := ⟨fun W hW => (hW.cell (World.block_lt_of_cell? W1 _ hq2)).trans hq2⟩
 have HW1 := am hW1
 have hs1 : w.heap.size ≤ W1.heap.size := HK.out.1
 clear hq hq2 hW1
 unfold qAs.f at h
 injection h with h
 have HF : qAf (Calls Try.prog 98 #[.pointer (some ⟨g, 0, none⟩), .func (.func 99) #[] #[.pointer (some ⟨w.heap.size, 0, none⟩), .pointer (some ⟨w.heap.size + 1, 0, none⟩)]] W1 fun e w' => ∃ v0_ : Value, e = .returned (v0_) ∧ Kd.R (Kd.int .u8) 5 w' w.heap.size (fun _ => True) v0_ r1 ∧ qAe w0 w' g s0_0 r2 r3 ∧ Below w0.heap.size w0 w' ∧ qAd w w' g none) := by
  have lift : ∀ {e : Ending} {w' : World} {q : Int}, (e = .returned (.slice none 0 0) ∧ qAe w0 w' g s0_0 r2 q ∧ Below w0.heap.size w0 w' ∧ qAd W1 w' g none) → r1 = [] → r3 = q → ∃ v0_ : Value, e = .returned (v0_) ∧ Kd.R (Kd.int .u8) 5 w' w.heap.size (fun _ => True) v0_ r1 ∧ qAe w0 w' g s0_0 r2 r3 ∧ Below w0.heap.size w0 w' ∧ qAd w w' g none := by
   rintro e w' q ⟨h1, h2, h3, h4⟩ rfl rfl
   exact ⟨_, h1, Kd.R_nil _ _ _ _ _, h2, h3, HK.out.trans h4 (.inl rfl)⟩
  by_cases he : s0_2 ≠ 0
  ·rw [if_pos he] at h
   simp only [Prod.mk.injEq] at h
   obtain ⟨rfl, rfl, rfl⟩ := h
   exact ⟨(qCH _ g s0_0 _ _ w0 _ he HI.out HB.out).mono fun e' w' h => lift h rfl rfl⟩
  rw [if_neg he] at h
  simp only [Decidable.not_not] at he
  subst he
  by_cases hlt : s0_1 + 4 ≤ s0_0.length
  rotate_left
  ·rw [if_neg hlt] at h
   simp only [Prod.mk.injEq] at h
   obtain ⟨rfl, rfl, rfl⟩ := h
   exact ⟨(qB0 w.heap.size (w.heap.size + 1) g s0_0 _ _ _ w0 _ HI.out HB.out (fun W h1 h2 h3 => qDn _ _ g s0_0 _ _ _ a1 _ w0 W (HQ.out W h1) (HQ2.out W h1) h2 h3 (fun W' k1 k2 => qDu g a1 _ _ W' (qDT g s0_0 _ _ w0 W' (by omega) k1 k2)))).mono fun e' w' h => lift h rfl rfl⟩
  rw [if_pos hlt] at h
  by_cases hv : num4 s0_0 s0_1 ≤ 2147483647
  rotate_left
  ·rw [if_neg hv] at h
   simp only [Prod.mk.injEq] at h
   obtain ⟨rfl, rfl, rfl⟩ := h
   exact ⟨(qB0 w.heap.size (w.heap.size + 1) g s0_0 _ _ _ w0 _ HI.out HB.out (fun W h1 h2 h3 => qDn _ _ g s0_0 _ _ _ a1 _ w0 W (HQ.out W h1) (HQ2.out W h1) h2 h3 (fun W' k1 k2 => qDu g a1 _ _ W' (rd_int_big g s0_0 _ _ w0 W' hlt (by omega) k1 k2)))).mono fun e' w' h => lift h rfl rfl⟩
  rw [if_pos hv] at h
  by_cases hm : num4 s0_0 s0_1 ≤ mx a1 0
  rotate_left
  ·rw [if_neg hm] at h
   simp only [Prod.mk.injEq] at h
   obtain ⟨rfl, rfl, rfl⟩ := h
   exact ⟨(qB0 w.heap.size (w.heap.size + 1) g s0_0 _ _ _ w0 _ HI.out HB.out (fun W h1 h2 h3 => qDn _ _ g s0_0 _ _ _ a1 _ w0 W (HQ.out W h1) (HQ2.out W h1) h2 h3 (fun W' k1 k2 => rd_count_big g s0_0 _ _ a1 w0 W' hlt hv (by omega) k1 k2))).mono fun e' w' h => lift h rfl rfl⟩
  rw [if_pos hm] at h
  have hx0 : 0 ≤ num4 s0_0 s0_1 := qCJ _
  by_cases hle : s0_1 + 4 + num4 s0_0 s0_1 ≤ s0_0.length
  rotate_left
  ·rw [if_neg hle] at h
   simp only [Prod.mk.injEq] at h
   obtain ⟨rfl, rfl, rfl⟩ := h
   exact ⟨(qB0 w.heap.size (w.heap.size + 1) g s0_0 _ _ _ w0 _ HI.out HB.out (fun W h1 h2 h3 => raw_fn_short _ _ g (num4 s0_0 s0_1).toNat s0_0 _ _ a1 w0 W (HQ.out W h1) (HQ2.out W h1) (by omega) (by omega) hlt hv hm (by omega) (by omega) h2 h3)).mono fun e' w' h => lift h rfl rfl⟩
  rw [if_pos hle] at h
  simp only [Prod.mk.injEq] at h
  obtain ⟨rfl, rfl, rfl⟩ := h
  have hn : num4 s0_0 s0_1 = ((num4 s0_0 s0_1).toNat : Int) := by omega
  refine ⟨(guarded_raw_ok w.heap.size (w.heap.size + 1) g s0_0 _ (s0_1 + 4 + num4 s0_0 s0_1) (num4 s0_0 s0_1).toNat ((s0_0.drop (s0_1 + 4).toNat).take (num4 s0_0 s0_1).toNat) w0 _ HI.out HB.out (fun W h1 h2 h3 => ?_)).mono fun e' w' ⟨A, c, h1, h2, h3, h4, h5⟩ => ⟨_, h1, Kd.R_lower h2 hs1, h3, h4, HK.out.trans h5 (.inl rfl)⟩⟩
  refine (raw_fn_ok w.heap.size (w.heap.size + 1) g (num4 s0_0 s0_1).toNat s0_0 _ _ a1 w0 W (HQ.out W h1) (HQ2.out W h1) (by omega) (by omega) hlt hv hm hn (by omega) h2 h3).mono ?_
  rintro e w' ⟨A, c, k1, k2, k3, k4⟩
  exact ⟨A, c, k1, k2, by rwa [← hn] at k3, k4⟩
 rw [HW1.out] at HF
 clear h hI hB h0 HQ HQ2 HI HB HK hs1 HW1
 go_enter Try.func52, Try.ntmps52
 go_wp2_with (go_at_call 98; refine HF.out.mono ?_; rintro e w' ⟨v0, rfl, hR, hi, hb, hk⟩; have HR2 := am hR; have HI2 := am hi; have HB2 := am hb; have HK2 := am hk; clear hR hi hb hk)
 go_ret
 exact ⟨v0, rfl, HR2.out, HI2.out, HB2.out, HK2.out⟩
end Q
end
section
namespace Q
open Go.RowKit PA PB PC
attribute [local go_sem] qBd min2_int qBp min_two max_three min_three max_four min_four
def qAp.f (s0_0 : List Int) (s0_1 : Int) (s0_2 : Int) (a1 : Int) : Option (ByteArray × Int × Int) := (qAs.f s0_0 s0_1 s0_2 a1).bind fun aA => (some (strOfNums aA.1, aA.2.1, aA.2.2))
theorem qAp.calls (g : Nat) (s0_0 : List Int) (s0_1 : Int) (s0_2 : Int) (a1 : Int) (r1 : ByteArray) (r2 : Int) (r3 : Int) (w0 w : World) (hI : qAe w0 w g s0_0 s0_1 s0_2) (hB : Below w0.heap.size w0 w) (h : qAp.f s0_0 s0_1 s0_2 a1 = some (r1, r2, r3)) :
  Calls Try.prog 22 #[.pointer (some ⟨g, 0, none⟩), .int .i64 a1] w fun e w' => e = .returned (.string r1) ∧ qAe w0 w' g s0_0 r2 r3 ∧ Below w0.heap.size w0 w' ∧ qAd w w' g none := by
 have aF := am hI
 have HK := am (qAd.refl w g none)
 clear hI
 have HB := am hB
 clear hB
 have H : ((qAs.f s0_0 s0_1 s0_2 a1).bind fun aA => (some (strOfNums aA.1, aA.2.1, aA.2.2))) = some (r1, r2, r3) := h
 clear h
 replace H := bm H
 obtain ⟨⟨aC, aD, aE⟩, aG, H⟩ := H
 replace H : (some (strOfNums aC, aD, aE)) = some (r1, r2, r3) := H
 have A3 := am aG
 clear aG
 simp only [Option.some.injEq, Prod.mk.injEq] at H
 obtain ⟨rfl, rfl, rfl⟩ := H
 go_enter Try.func22, Try.ntmps22
 go_wp2_with ((with_reducible refine qAj (f := 52) rfl ?_); refine gL 7 Try.func52 #[.pointer (some ⟨g, 0, none⟩), .int .i64 a1] ?_; (with_reducible refine (qAs.calls g s0_0 s0_1 s0_2 a1 aC aD aE w0 _ ?side1 ?side2 A3.o).mono ?_); (case side1 => exact aF.o); (case side2 => exact HB.o); rintro e w4 ⟨aI, rfl, aH, hi, hb, hk⟩; refine ⟨_, rfl, ?_⟩; have n_ := a2 (Kd.R_lower aH (qAT (w := w) (g := g) (row := none) HK.o)) (a2 (qAd.trans HK.o hk (.inl rfl)) (a2 (hb) (am (hi)))); clear HK HB aF; obtain ⟨aB, HK, HB, aF⟩ := n_; have hcv5 := qDm (P := Try.prog) Try.underlying22 Try.underlying5 Try.underlying9 (Kd.own_of_R aB.o))
 go_ret
 exact ⟨by rfl, by exact aF.o, by exact HB.o, by exact HK.o⟩
end Q
end
section
namespace DecLaw
open Go.RowKit Base Val Ins Wr Enc
def valB (l : List Int) : Int := l.foldl (fun v x => v * 256 + x) 0
def qAM (l : List Int) : Prop := ∀ x ∈ l, 0 ≤ x ∧ x < 256
theorem qDb (l : List Int) (x : Int) : valB (l ++ [x]) = valB l * 256 + x := by simp [valB]
theorem be_snoc (n : Int) (m : Nat) : be n (m + 1) (m + 1) = be (n / 256) m m ++ [n % 256] := by
 unfold be
 rw [List.range_succ, List.map_append]
 congr 1
 ·apply List.map_congr_left
  intro t ht
  have ht' : t < m := List.mem_range.1 ht
  rw [show 8 * (m + 1 - 1 - t) = 8 + 8 * (m - 1 - t) by omega, Int.pow_add, ← Int.ediv_ediv_of_nonneg (by decide)]
  rfl
 simp
theorem qDC : ∀ (m : Nat) (l : List Int), l.length = m → qAM l → be (valB l) m m = l := by
 intro m
 induction m with
 | zero => intro l hl _; rw [List.length_eq_zero_iff.1 hl]; rfl
 | succ m ih =>
  intro l hl hb
  obtain ⟨l0, x, rfl⟩ : ∃ l0 x, l = l0 ++ [x] := ⟨l.dropLast, l.getLast (by intro e; simp [e] at hl), (List.dropLast_concat_getLast _).symm⟩
  have hx := hb x (by simp)
  rw [qDb, be_snoc, show (valB l0 * 256 + x) / 256 = valB l0 by omega, show (valB l0 * 256 + x) % 256 = x by omega, ih l0 (by simpa using hl) (fun y hy => hb y (by simp [hy]))]
theorem valB_be : ∀ (m : Nat) (n : Int), 0 ≤ n → n < 256 ^ m → valB (be n m m) = n := by
 intro m
 induction m with
 | zero =>
  intro n h0 h1; simp at h1; have : n = 0 := by omega
  subst this; rfl
 | succ m ih =>
  intro n h0 h1
  rw [Int.pow_succ] at h1
  rw [be_snoc, qDb, ih (n / 256) (by omega) (by omega)]
  omega
def qB2 (r : List Int) : InsD :=
 if r.getD 0 0 = 1 then ⟨1, 0, r.getD 1 0, valB ((r.drop 2).take 8)⟩ else ⟨r.getD 0 0, valB ((r.drop 1).take (widN (r.getD 0 0))), 0, 0⟩
theorem ok_op {x : InsD} (h : x.ok = true) : 1 ≤ x.op ∧ x.op ≤ 17 := by
 unfold InsD.ok okI at h
 split at h
 ·cases h
 omega
theorem ok_n {x : InsD} (h : x.ok = true) (h1 : x.op ≠ 1) : x.ty = 0 ∧ x.b = 0 ∧ 0 ≤ x.n ∧ x.n < 256 ^ widN x.op := by
 obtain ⟨_, _, ht, hb, hn0, _, hw⟩ := okI_mid_of x.op x.n x.ty x.b h h1
 refine ⟨ht, hb, hn0, ?_⟩
 have hm : x.n ≤ most x.op := by
  unfold InsD.ok okI at h
  split at h
  ·cases h
  split at h
  ·cases h
  rename_i h3; simp only [Decidable.not_not] at h3; exact h3.2.2.2
 unfold most at hm
 unfold widN
 rcases hw with e | e | e <;> rw [e] at hm ⊢ <;> simp at hm ⊢ <;> omega
theorem ok_push {x : InsD} (h : x.ok = true) (h1 : x.op = 1) : x.n = 0 ∧ 1 ≤ x.ty ∧ x.ty ≤ 3 := by
 unfold InsD.ok at h
 rw [h1, okI_1] at h
 simp only [Bool.and_eq_true, beq_iff_eq] at h
 refine ⟨h.1, ?_⟩
 by_cases hn : x.ty < 1 ∨ 3 < x.ty
 rotate_left
 ·omega
 rw [okV_no _ _ hn] at h; exact absurd h.2 (by simp)
theorem insB_len {x : InsD} (h : x.ok = true) : ((insB x).length : Int) = qBc x.op := by
 obtain ⟨h1, h2⟩ := ok_op h
 have hs : qBc x.op = 1 + wid x.op := by unfold qBc; rw [if_neg (by omega)]
 rw [hs]
 unfold insB
 by_cases e : x.op = 1
 ·rw [if_pos e, e]; simp [qA8, wid]
 rw [if_neg e]
 have : 0 ≤ wid x.op := by
  unfold wid; split
  ·omega
  split
  ·omega
  split <;> omega
 simp only [List.length_cons, qA8]
 unfold widN
 omega
theorem qC9 {x : InsD} (h : x.ok = true) (hb : U64 x.b) (t : List Int) : qB2 (insB x ++ t) = x := by
 obtain ⟨h1, h2⟩ := ok_op h
 have hop : x.op % 256 = x.op := by omega
 obtain ⟨op, n, ty, b⟩ := x
 dsimp only at *
 by_cases e : op = 1
 rotate_left
 ·obtain ⟨ht, hb0, hn0, hn1⟩ := ok_n h e
  dsimp only at ht hb0 hn0 hn1
  subst ht hb0
  unfold qB2 insB
  simp only [if_neg e, List.cons_append, List.getD_cons_zero, List.drop_succ_cons, List.drop_zero, hop]
  rw [List.take_append_of_le_length (by rw [qA8]; omega), List.take_of_length_le (by rw [qA8]; omega), valB_be _ _ hn0 hn1]
 subst e
 obtain ⟨hn, ht1, ht3⟩ := ok_push h rfl
 dsimp only at hn ht1 ht3
 subst hn
 unfold qB2 insB
 have hv := valB_be 8 b hb.1 (by have := hb.2; simpa using this)
 simp only [if_true, List.cons_append, List.getD_cons_zero, List.getD_cons_succ, List.drop_succ_cons, List.drop_zero, hop]
 rw [show ty % 256 = ty by omega, List.take_append_of_le_length (by rw [qA8]; omega), List.take_of_length_le (by rw [qA8]; omega), hv]
theorem qDj (r : List Int) (hr : qAM r) (h0 : qBc (r.getD 0 0) ≠ 0) (hl : qBc (r.getD 0 0) ≤ r.length) (hn : r ≠ []) :
  insB (qB2 r) ++ r.drop (qBc (r.getD 0 0)).toNat = r := by
 cases r with
 | nil => exact absurd rfl hn
 | cons op r =>
  rw [List.getD_cons_zero] at *
  have hop := hr op (by simp)
  have hb : qAM r := fun x hx => hr x (by simp [hx])
  have h17 : ¬(op < 1 ∨ 17 < op) := by
   intro h; apply h0; unfold qBc; rw [if_pos h]
  have hsz : qBc op = 1 + wid op := by unfold qBc; rw [if_neg h17]
  by_cases e : op = 1
  ·subst e
   have h10 : qBc 1 = 10 := rfl
   rw [h10] at hl ⊢
   cases r with
   | nil => simp at hl
   | cons ty r =>
    have hty := hb ty (by simp)
    have hl8 : 8 ≤ r.length := by simp at hl; omega
    unfold qB2 insB
    simp only [List.getD_cons_zero, List.getD_cons_succ, List.drop_succ_cons, List.drop_zero, if_true]
    rw [qDC 8 (r.take 8) (by rw [List.length_take]; omega) (fun x hx => hb x (by simp [List.mem_of_mem_take hx])), show ty % 256 = ty by omega]
    simp
  unfold qB2 insB
  have hw0 : 0 ≤ wid op := by
   unfold wid; split
   ·omega
   split
   ·omega
   split <;> omega
  have hlw : widN op ≤ r.length := by unfold widN; simp at hl; omega
  simp only [List.getD_cons_zero, List.drop_succ_cons, List.drop_zero, if_neg e]
  rw [qDC (widN op) (r.take (widN op)) (by rw [List.length_take]; omega) (fun x hx => hb x (List.mem_of_mem_take hx)), show op % 256 = op by omega, hsz, show (1 + wid op).toNat = widN op + 1 by unfold widN; omega]
  simp
def DecOk (bs : List Int) (l : List InsD) : Prop := (∀ x ∈ l, x.ok = true ∧ U64 x.b) ∧ l.length ≤ 4096 ∧ bs = encB l
def qD8 (bs : List Int) : Prop := ∃ l r, (∀ x ∈ l, x.ok = true ∧ U64 x.b) ∧ l.length = 4097 ∧ bs = encB l ++ r
def DecBad (bs : List Int) : Prop := ∃ l r, (∀ x ∈ l, x.ok = true ∧ U64 x.b) ∧ l.length ≤ 4096 ∧ bs = encB l ++ r ∧ r ≠ [] ∧ ∀ x t, x.ok = true → U64 x.b → r ≠ insB x ++ t
theorem insB_front {x y : InsD} {s t : List Int} (hx : x.ok = true ∧ U64 x.b) (hy : y.ok = true ∧ U64 y.b) (h : insB x ++ s = insB y ++ t) : x = y ∧ s = t := by
 have e : x = y := by rw [← qC9 hx.1 hx.2 s, h, qC9 hy.1 hy.2 t]
 subst e
 exact ⟨rfl, List.append_cancel_left h⟩
theorem qCR : ∀ (l m : List InsD) (s t : List Int), (∀ x ∈ l, x.ok = true ∧ U64 x.b) → (∀ x ∈ m, x.ok = true ∧ U64 x.b) → encB l ++ s = encB m ++ t →
  (∃ d, m = l ++ d ∧ s = encB d ++ t) ∨ (∃ d, l = m ++ d ∧ t = encB d ++ s) := by
 intro l
 induction l with
 | nil => intro m s t _ _ h; exact .inl ⟨m, rfl, by simpa [encB] using h⟩
 | cons x l ih =>
  intro m s t hl hm h
  cases m with
  | nil => exact .inr ⟨x :: l, rfl, by simpa [encB] using h.symm⟩
  | cons y m =>
   simp only [encB, List.flatMap_cons, List.append_assoc] at h
   obtain ⟨rfl, h2⟩ := insB_front (hl x (by simp)) (hm y (by simp)) h
   rcases ih m s t (fun z hz => hl z (by simp [hz])) (fun z hz => hm z (by simp [hz])) h2 with ⟨d, e1, e2⟩ | ⟨d, e1, e2⟩
   ·exact .inl ⟨d, by rw [e1]; rfl, e2⟩
   exact .inr ⟨d, by rw [e1]; rfl, e2⟩
theorem qCO (x : InsD) (l : List InsD) : encB (x :: l) = insB x ++ encB l := rfl
theorem insB_ne (x : InsD) (t : List Int) : insB x ++ t ≠ [] := by unfold insB; simp
theorem ok_ok {bs : List Int} {l m : List InsD} (h : DecOk bs l) (k : DecOk bs m) : l = m := by
 have e : encB l ++ [] = encB m ++ [] := by rw [List.append_nil, List.append_nil, ← h.2.2, ← k.2.2]
 rcases qCR l m [] [] h.1 k.1 e with ⟨d, e1, e2⟩ | ⟨d, e1, e2⟩ <;>
 cases d with
 | nil => simp [e1]
 | cons y d => rw [qCO, List.append_assoc] at e2; exact absurd e2.symm (insB_ne _ _)
theorem ok_big {bs : List Int} {l : List InsD} (h : DecOk bs l) (k : qD8 bs) : False := by
 obtain ⟨m, r, hm, hl, hr⟩ := k
 have e : encB l ++ [] = encB m ++ r := by rw [List.append_nil, ← h.2.2, hr]
 rcases qCR l m [] r h.1 hm e with ⟨d, e1, e2⟩ | ⟨d, e1, e2⟩
 ·cases d with
  | nil => have := h.2.1; rw [e1] at hl; simp at hl; omega
  | cons y d => rw [qCO, List.append_assoc] at e2; exact absurd e2.symm (insB_ne _ _)
 have := h.2.1; rw [e1] at this; simp at this; omega
theorem ok_bad {bs : List Int} {l : List InsD} (h : DecOk bs l) (k : DecBad bs) : False := by
 obtain ⟨m, r, hm, hl, hr, hne, hno⟩ := k
 have e : encB l ++ [] = encB m ++ r := by rw [List.append_nil, ← h.2.2, hr]
 rcases qCR l m [] r h.1 hm e with ⟨d, e1, e2⟩ | ⟨d, e1, e2⟩
 ·have := congrArg List.length e2; simp at this; exact hne (List.length_eq_zero_iff.1 (by omega))
 cases d with
 | nil => exact hne (by simpa [encB] using e2)
 | cons y d => exact hno y (encB d ++ []) (h.1 y (by rw [e1]; simp)).1 (h.1 y (by rw [e1]; simp)).2 (by rw [e2, qCO, List.append_assoc])
theorem big_bad {bs : List Int} (h : qD8 bs) (k : DecBad bs) : False := by
 obtain ⟨l, s, hl, hll, hs⟩ := h
 obtain ⟨m, r, hm, hml, hr, hne, hno⟩ := k
 rcases qCR l m s r hl hm (by rw [← hs, hr]) with ⟨d, e1, e2⟩ | ⟨d, e1, e2⟩
 ·rw [e1] at hml; simp at hml; omega
 cases d with
 | nil => rw [e1] at hll; simp at hll; omega
 | cons y d => exact hno y (encB d ++ s) (hl y (by rw [e1]; simp)).1 (hl y (by rw [e1]; simp)).2 (by rw [e2, qCO, List.append_assoc])
end DecLaw
end
section
namespace Dec
open Go.RowKit Base Val Ins Wr Enc DecLaw
def slen : Value → Nat
 | .slice _ n _ => n
 | _ => 0
def qCN (x : InsD) : List Value := [.int .i64 x.op, .int .i64 x.n, .int .i64 x.ty, .int .u64 x.b]
def insC (l : List InsD) : List Value := l.flatMap qCN
theorem qDM (l : List InsD) (x : InsD) : insC (l ++ [x]) = insC l ++ qCN x := by simp [insC]
theorem qCP (l : List InsD) (x : InsD) : encB (l ++ [x]) = encB l ++ insB x := by simp [encB]
theorem infoIns : (Try.prog.info? 115).map (fun i => (i.zero, i.size, i.bytes)) = some (some (.agg #[.int .i64 0, .int .i64 0, .int .i64 0, .int .u64 0]), 4, 32) := by kernel_rfl
def BytesAt (W : World) (b o : Nat) (bs : List Int) : Prop := ∀ j y, bs[j]? = some y → W.cell? ⟨b, o + j, none⟩ = some (.int .u8 y)
theorem or_low (a x : Int) (ha : 0 ≤ a) (ha2 : a < 18446744073709551616) (hx : 0 ≤ x) (hx2 : x < 256) : bits .or .u64 (a * 256 % 18446744073709551616) x = a * 256 % 18446744073709551616 + x := by
 obtain ⟨n, rfl⟩ := Int.eq_ofNat_of_zero_le ha
 obtain ⟨y, rfl⟩ := Int.eq_ofNat_of_zero_le hx
 have hy : y < 2 ^ 8 := by omega
 have e : ((n : Int) * 256 % 18446744073709551616) = ((n % 72057594037927936 * 256 : Nat) : Int) := by omega
 rw [e, u64_or_nat _ _ (by omega) (by omega)]
 have := Nat.shiftLeft_add_eq_or_of_lt hy (n % 72057594037927936)
 rw [Nat.shiftLeft_eq] at this
 rw [← this]
 omega
theorem wrap_256 (a : Int) : IntKind.u64.wrap (a * 256) = a * 256 % 18446744073709551616 := by simp [IntKind.wrap, IntKind.bits, IntKind.signed]
theorem qEd (l : List Int) (h : qAM l) : 0 ≤ valB l ∧ valB l < 256 ^ l.length := by
 have e := qDC l.length l rfl h
 induction hn : l.length generalizing l with
 | zero => rw [List.length_eq_zero_iff.1 hn]; exact ⟨by decide, by decide⟩
 | succ m ih =>
  obtain ⟨l0, x, rfl⟩ : ∃ l0 x, l = l0 ++ [x] := ⟨l.dropLast, l.getLast (by intro e; simp [e] at hn), (List.dropLast_concat_getLast _).symm⟩
  have hb0 : qAM l0 := fun y hy => h y (by simp [hy])
  have hx := h x (by simp)
  have hm : l0.length = m := by simpa using hn
  have := ih l0 hb0 (qDC l0.length l0 rfl hb0) hm
  rw [qDb, Int.pow_succ]
  omega
theorem foldl_val (l : List Int) : ∀ a : Int, l.foldl (fun v x => v * 256 + x) a = a * 256 ^ l.length + valB l := by
 induction l with
 | nil => intro a; simp [valB]
 | cons x l ih =>
  intro a
  have e := ih (0 * 256 + x)
  show l.foldl (fun v x => v * 256 + x) (a * 256 + x) = a * 256 ^ (l.length + 1) + l.foldl (fun v x => v * 256 + x) (0 * 256 + x)
  rw [ih (a * 256 + x), e, Int.pow_succ, Int.add_mul, Int.mul_assoc, Int.mul_comm 256]
  simp [Int.add_assoc]
theorem valB_cons (x : Int) (l : List Int) (_ : qAM l) : valB (x :: l) = x * 256 ^ l.length + valB l := by
 have := foldl_val l x
 show l.foldl (fun v x => v * 256 + x) (0 * 256 + x) = _
 rw [show (0 : Int) * 256 + x = x by omega]; exact this
theorem qCn {bs r : List Int} {l : List InsD} (hl : ∀ x ∈ l, x.ok = true ∧ U64 x.b) (h4 : l.length ≤ 4096) (hbs : bs = encB l ++ r) (hr : r ≠ []) (hp : (qB2 r).ok = false) : DecBad bs :=
 ⟨l, r, hl, h4, hbs, hr, fun x t hx hb e => by rw [e, qC9 hx hb t, hx] at hp; cases hp⟩
theorem qDl {W W' : World} {N0 n sz : Nat} {E : TypeId} {v : Value} {xs : List Value} (h : W.ownsRow N0 E sz v n xs) (hB : Below W.heap.size W W') : W'.ownsRow N0 E sz v n xs := by
 refine ⟨h.1, ?_⟩
 rcases h.2 with r | ⟨g, cap, cur, hv, hb, hg, r⟩
 ·exact .inl r
 exact .inr ⟨g, cap, cur, hv, hb, (hB.block g (Array.getElem?_eq_some_iff.1 hg).1).trans hg, r⟩
def DecPost (bs : List Int) (w : World) (e : Ending) (w' : World) : Prop :=
 Below w.heap.size w w' ∧
  ((∃ l v, DecOk bs l ∧ e = .returned (.tuple #[v, .int .i64 0]) ∧ w'.ownsRow w.heap.size 115 4 v l.length (insC l)) ∨
    (DecBad bs ∧ e = .returned (.tuple #[.slice none 0 0, .int .i64 51])) ∨ (qD8 bs ∧ e = .returned (.tuple #[.slice none 0 0, .int .i64 3])))
theorem decode_some (b o c : Nat) (bs : List Int) (w : World) (h : BytesAt w b o bs) (hb : b < w.heap.size) (hbs : qAM bs) (hc : bs.length ≤ c) :
  Calls Try.prog 51 #[.slice (some ⟨b, o, none⟩) bs.length c] w (DecPost bs w) := by
 have H := hid h
 have HBS := hid hbs
 clear h hbs
 go_enter Try.func51, Try.ntmps51
 go_wp2
 go_loopw [0, 4] (fun t v wr => ∃ (l : List InsD) (r : List Int) (p q c' : Nat), t = .slice (some ⟨b, q, none⟩) r.length c' ∧ (0 < r.length → q = o + p) ∧ r.length ≤ c' ∧ l.length ≤ 4096 ∧ p + r.length = bs.length ∧ Hid (bs.drop p = r ∧ bs = encB l ++ r ∧ (∀ x ∈ l, x.ok = true ∧ U64 x.b) ∧ wr.ownsRow w.heap.size 115 4 v l.length (insC l) ∧ Below w.heap.size w wr)) (fun t _ _ => slen t)
 case atStart => exact ⟨[], bs, 0, o, c, rfl, fun _ => rfl, hc, by simp, by simp, hid ⟨rfl, rfl, by simp, World.ownsRow_nil _ _ _ _, Below.refl _ _⟩⟩
 case round =>
  obtain ⟨l, r, p, q, c', rfl, hq, hrc, hl4, hp, hst⟩ := hrel
  obtain ⟨wo, rfl⟩ : ∃ wo, wo = wr := ⟨_, rfl⟩
  by_cases hlt : 0 < r.length
  rotate_left
  ·obtain rfl : r = [] := List.length_eq_zero_iff.1 (by omega)
   go_wp2
   go_ret2
   exact ⟨hst.out.2.2.2.2, .inl ⟨l, _, ⟨hst.out.2.2.1, hl4, by have := hst.out.2.1; rwa [List.append_nil] at this⟩, rfl, hst.out.2.2.2.1⟩⟩
  obtain rfl := hq hlt
  have hb0 : ∃ y, wo.cell? ⟨b, o + p, none⟩ = some (.int .u8 y) ∧ r.getD 0 0 = y ∧ 0 ≤ y ∧ y < 256 := by
   obtain ⟨y, hy⟩ : ∃ y, bs[p]? = some y := ⟨bs[p]'(by omega), List.getElem?_eq_getElem (by omega)⟩
   refine ⟨y, (hst.out.2.2.2.2.cell (p := ⟨b, o + p, none⟩) hb).trans (H.out p y hy), ?_, HBS.out y (List.mem_of_getElem? hy)⟩
   rw [← hst.out.1, List.getD_eq_getElem?_getD, List.getElem?_drop, Nat.add_zero, hy]; rfl
  obtain ⟨op, hop, hop2, hop0, hop1⟩ := hb0
  have hsz : (qBc op = 0 ∨ ∃ s1 : Nat, qBc op = ((s1 + 1 : Nat) : Int) ∧ s1 ≤ 9) := by
   unfold qBc; split
   ·left; rfl
   right; unfold wid; split
   ·exact ⟨9, rfl, by omega⟩
   split
   ·exact ⟨1, rfl, by omega⟩
   split
   ·exact ⟨2, rfl, by omega⟩
   exact ⟨0, rfl, by omega⟩
  have HS := hid (fun W => size_ins op 0 0 0 W)
  unfold insV at HS
  have hbad : (qBc op = 0 ∨ (r.length : Int) < qBc op) → DecBad bs := fun hh => by
   refine ⟨l, r, hst.out.2.2.1, hl4, hst.out.2.1, by intro e; rw [e] at hlt; simp at hlt, fun x t hx _ e => ?_⟩
   obtain ⟨o1, o2⟩ := ok_op hx
   have hxo : x.op = op := by
    rw [← hop2, e]; unfold insB; simp only [List.cons_append, List.getD_cons_zero]; omega
   have hxl := insB_len hx
   rw [hxo] at hxl
   have : (r.length : Int) = (insB x).length + t.length := by rw [e, List.length_append]; push_cast; rfl
   rcases hh with hh | hh
   ·rw [hh] at hxl; unfold insB at hxl; simp at hxl; omega
   omega
  have HBAD := hid hbad
  have HO2 := hid hop2
  clear hbad hop2
  rcases hsz with hsz | ⟨s1, hsz, hs9⟩
  ·have hbd := hid (HBAD.out (.inl hsz))
   rw [hsz] at HS
   clear HBAD hsz
   go_wp2_with fail
   refine (HS.out _).mono ?_
   rintro e w1 ⟨rfl, hb1⟩
   go_wp2
   go_ret2
   exact ⟨hst.out.2.2.2.2.trans (((Below.refl _ _).alloc (Nat.le_refl _) _).trans (hb1.mono (by simp)) |>.mono hst.out.2.2.2.2.size), .inr (.inl ⟨hbd.out, rfl⟩)⟩
  rw [hsz] at HS
  by_cases hshort : r.length < s1 + 1
  ·have hbd := hid (HBAD.out (.inr (by rw [hsz]; omega)))
   have hx1 : (((s1 + 1 : Nat) : Int) == 0) = false := beq_eq_false_iff_ne.mpr (by omega)
   have hx2 : decide ((r.length : Int) < ((s1 + 1 : Nat) : Int)) = true := by simp; omega
   clear HBAD hsz
   go_wp2_with fail
   refine (HS.out _).mono ?_
   rintro e w1 ⟨rfl, hb1⟩
   go_wp2
   all_goals go_ret2
   all_goals exact ⟨hst.out.2.2.2.2.trans (((Below.refl _ _).alloc (Nat.le_refl _) _).trans (hb1.mono (by simp)) |>.mono hst.out.2.2.2.2.size), .inr (.inl ⟨hbd.out, rfl⟩)⟩
  clear HBAD
  have hcl : ∀ j, j < s1 → ∃ y, wo.cell? ⟨b, o + p + 1 + j, none⟩ = some (.int .u8 y) ∧ 0 ≤ y ∧ y < 256 ∧ (r.drop 1).take (j + 1) = (r.drop 1).take j ++ [y] := fun j hj => by
   obtain ⟨y, hy⟩ : ∃ y, bs[p + 1 + j]? = some y := ⟨bs[p + 1 + j]'(by omega), List.getElem?_eq_getElem (by omega)⟩
   refine ⟨y, ?_, (HBS.out y (List.mem_of_getElem? hy)).1, (HBS.out y (List.mem_of_getElem? hy)).2, ?_⟩
   ·have := (hst.out.2.2.2.2.cell (p := ⟨b, o + (p + 1 + j), none⟩) hb).trans (H.out (p + 1 + j) y hy)
    rwa [show o + (p + 1 + j) = o + p + 1 + j by omega] at this
   have e : (r.drop 1)[j]? = some y := by rw [← hst.out.1, List.getElem?_drop, List.getElem?_drop, ← hy]; congr 1; omega
   rw [List.take_add_one, e]; rfl
  have HCL := hid hcl
  clear hcl
  have hx1 : (((s1 + 1 : Nat) : Int) == 0) = false := beq_eq_false_iff_ne.mpr (by omega)
  have hx2 : decide ((r.length : Int) < ((s1 + 1 : Nat) : Int)) = false := by simp; omega
  have hx3 : decide ((r.length : Int) < (s1 : Int) + 1) = false := by simp; omega
  by_cases hc1 : c' = 1
  ·subst hc1
   obtain rfl : s1 = 0 := by omega
   have h1 : op ≠ 1 := by
    intro e; subst e; have : qBc 1 = 10 := rfl
    rw [this] at hsz; simp at hsz
   go_wp2_with fail
   refine (HS.out _).mono ?_
   rintro e w1 ⟨rfl, hb1⟩
   have hBr : Hid (Below wo.heap.size wo w1) := hid (((Below.refl _ _).alloc (Nat.le_refl _) _).trans (hb1.mono (by simp)))
   have hbo : b < wo.heap.size := Nat.lt_of_lt_of_le hb hst.out.2.2.2.2.size
   go_wp2
   go_loopw [7, 32] (fun v i W => ∃ j : Nat, j ≤ 0 ∧ i = .int .i64 (j : Int) ∧ v = .int .u64 (valB ((r.drop 1).take j) % 18446744073709551616) ∧ W = w1) (fun _ i _ => (0 - intOf i).toNat)
   case atStart => exact ⟨0, Nat.zero_le _, rfl, rfl, rfl⟩
   case round =>
    obtain ⟨j, hj, rfl, rfl, hW⟩ := hrel
    subst hW
    obtain rfl : j = 0 := by omega
    clear HCL
    have h1' : (op == 1) = false := beq_eq_false_iff_ne.mpr h1
    have hwN : widN op = 0 := by
     have : qBc op = 1 + wid op := by
      unfold qBc; rw [if_neg]; intro hh; unfold qBc at hsz; rw [if_pos hh] at hsz; omega
     unfold widN; omega
    have hj2 : 0 ≤ 2 := by
     rw [← hwN]; unfold widN wid; rw [if_neg h1]; split
     ·decide
     split <;> decide
    have hdrop : r.drop 1 ≠ [] ∨ True := .inr trivial
    have hbyt : qAM ((r.drop 1).take 0) := fun x hx => HBS.out x (by
      have := List.mem_of_mem_drop (List.mem_of_mem_take hx); rw [← hst.out.1] at this; exact List.mem_of_mem_drop this)
    have hvl := qEd _ hbyt
    have hlen : ((r.drop 1).take 0).length = 0 := by rw [List.length_take, List.length_drop]; omega
    rw [hlen] at hvl
    have hv65 : valB ((r.drop 1).take 0) < 65536 := by
     rw [List.take_zero]; decide
    have hP : qB2 r = ⟨op, valB ((r.drop 1).take 0), 0, 0⟩ := by unfold qB2; rw [HO2.out, if_neg h1, hwN]
    have hv0 := hvl.1
    clear hvl hlen hbyt hdrop
    rw [show valB ((r.drop 1).take 0) % 18446744073709551616 = valB ((r.drop 1).take 0) by omega]
    generalize valB ((r.drop 1).take 0) = n at *
    have hwr : IntKind.i64.wrap n = n := by simp [IntKind.wrap, IntKind.bits, IntKind.signed]; omega
    have hrowB : wr.heap[wo.heap.size]? = some (.cells #[.int .i64 op, .int .i64 0, .int .i64 0, .int .u64 0] 115 (0, 0)) := (hb1.block wo.heap.size (by simp)).trans (World.alloc_heap_new wo _)
    have g0 : wr.cell? ⟨wo.heap.size, 0, none⟩ = some (.int .i64 op) := by simp [World.cell?, hrowB]
    have g1 : wr.cell? ⟨wo.heap.size, 1, none⟩ = some (.int .i64 0) := by simp [World.cell?, hrowB]
    have g2 : wr.cell? ⟨wo.heap.size, 2, none⟩ = some (.int .i64 0) := by simp [World.cell?, hrowB]
    have g3 : wr.cell? ⟨wo.heap.size, 3, none⟩ = some (.int .u64 0) := by simp [World.cell?, hrowB]
    have gf : wr.frozen? ⟨wo.heap.size, 1, none⟩ = false := by simp [World.frozen?, hrowB]
    have HR := hid (fun W => qCz op n 0 0 ⟨by omega, by omega⟩ W)
    unfold insV at HR
    clear hrowB
    have HU : Hid (U64 0) := hid ⟨by omega, by omega⟩
    have HBX := hBr.out.setCell (p := ⟨wo.heap.size, 1, none⟩) (Nat.le_refl _) (.int .i64 n)
    obtain ⟨WW, hWW⟩ : ∃ WW, WW = wr.setCell ⟨wo.heap.size, 1, none⟩ (.int .i64 n) := ⟨_, rfl⟩
    rw [← hWW] at HBX
    have hwb : wo.heap.size < (wr.setCell ⟨wo.heap.size, 1, none⟩ (.int .i64 n)).heap.size := by have := hb1.size; simp at *; omega
    go_wp2_with fail
    subst hWW
    have HB2 := hid HBX
    have hbw : b < wo.heap.size := hbo
    refine (HR.out _).mono ?_
    rintro e w3 ⟨rfl, hb3⟩
    have hB3 : Below wo.heap.size wo w3 := HB2.out.trans (hb3.mono HB2.out.size)
    have hwl : wo.heap.size < w3.heap.size := by have := hBr.out.size; have := hb3.size; have := hb1.size; simp at *; omega
    have k0 : w3.cell? ⟨wo.heap.size, 0, none⟩ = some (.int .i64 op) := (hb3.cell (p := ⟨wo.heap.size, 0, none⟩) hwb).trans (by rw [World.cell?_setCell_other _ _ _ _ (by intro e; injection e with _ e; omega)]; exact g0)
    have k1 : w3.cell? ⟨wo.heap.size, 1, none⟩ = some (.int .i64 n) := (hb3.cell (p := ⟨wo.heap.size, 1, none⟩) hwb).trans (World.cell?_setCell_same _ _ _ g1)
    have k2 : w3.cell? ⟨wo.heap.size, 2, none⟩ = some (.int .i64 0) := (hb3.cell (p := ⟨wo.heap.size, 2, none⟩) hwb).trans (by rw [World.cell?_setCell_other _ _ _ _ (by intro e; injection e with _ e; omega)]; exact g2)
    have k3 : w3.cell? ⟨wo.heap.size, 3, none⟩ = some (.int .u64 0) := (hb3.cell (p := ⟨wo.heap.size, 3, none⟩) hwb).trans (by rw [World.cell?_setCell_other _ _ _ _ (by intro e; injection e with _ e; omega)]; exact g3)
    clear g0 g1 g2 g3 gf
    cases hok : okI op n 0 0 with
    | false =>
     have hbd := hid (qCn hst.out.2.2.1 hl4 hst.out.2.1 (by intro e; rw [e] at hlt; simp at hlt) (by rw [hP]; exact hok))
     have HB3 := hid hB3
     clear hb3 hB3
     go_wp2
     go_ret2
     exact ⟨hst.out.2.2.2.2.trans (HB3.out.mono hst.out.2.2.2.2.size), .inr (.inl ⟨hbd.out, rfl⟩)⟩
    | true =>
     obtain ⟨i0, hi, hz0, hz1, hz2⟩ := info_parts infoIns
     have hown3 := qDl hst.out.2.2.2.1 hB3
     have HB3 := hid hB3
     have hN3 : w.heap.size ≤ w3.heap.size := Nat.le_trans hst.out.2.2.2.2.size hB3.size
     clear hb3 hB3
     go_wp2_with (at_builtin; refine wpList_append_lies _ rfl _ _ 75 rfl w.heap.size 115 i0 _ 4 32 Try.underlying75 hi hz0 hz1 hz2 rfl (by decide) _ _ _ rfl (hown3.alloc _) ⟨w3.heap.size, 0, none⟩ 1 1 (qCN ⟨op, n, 0, 0⟩) rfl rfl (World.news_of_block (World.alloc_heap_new w3 _)) ?c2 ?c0 ?c3 ?c4 ?c5 _ rfl ?_)
     case c2 => intro u hu; simp only [qCN, List.mem_cons, List.not_mem_nil, or_false] at hu; rcases hu with rfl | rfl | rfl | rfl <;> rfl
     case c0 => omega
     case c3 => unfold maxLen; omega
     case c4 => omega
     case c5 => simp; omega
     intro g cap w4 hown4 hgrow hgg hlt4
     have hH4 : w4.ownsRow w.heap.size 115 4 (.slice (some ⟨g, 0, none⟩) (l.length + 1) cap) (l.length + 1) (insC (l ++ [⟨op, n, 0, 0⟩])) := by rw [qDM]; exact hown4
     have H4 := hid hH4
     have HB4 : Hid (Below w.heap.size w w4) := hid (((hst.out.2.2.2.2.trans (HB3.out.mono hst.out.2.2.2.2.size)).alloc hN3 _).grown hgrow (by simp; omega) (fun j hj => (hown3.lt j hj).1))
     clear hown4 hgrow hgg hlt4 hown3 hH4
     have hcat : bs = encB (l ++ [⟨op, n, 0, 0⟩]) ++ r.drop (0 + 1) := by
      have e := qDj r (fun x hx => HBS.out x (by rw [← hst.out.1] at hx; exact List.mem_of_mem_drop hx)) (by rw [HO2.out, hsz]; omega) (by rw [HO2.out, hsz]; omega) (by intro e; rw [e] at hlt; simp at hlt)
      rw [HO2.out, hsz, Int.toNat_natCast, hP] at e
      rw [qCP, List.append_assoc, e]; exact hst.out.2.1
     have hall : ∀ x ∈ l ++ [⟨op, n, 0, 0⟩], x.ok = true ∧ U64 x.b := fun x hx => by
      rcases List.mem_append.1 hx with hx | hx
      ·exact hst.out.2.2.1 x hx
      obtain rfl := List.mem_singleton.1 hx; exact ⟨hok, HU.out⟩
     have HCAT := hid hcat
     have HALL := hid hall
     clear hcat hall
     by_cases hbig : l.length = 4096
     ·have hbd : Hid (qD8 bs) := hid ⟨_, _, HALL.out, by simp [hbig], HCAT.out⟩
      go_wp2
      all_goals first
       | (exfalso; omega)
       | (go_ret2; exact ⟨HB4.out, .inr (.inr ⟨hbd.out, rfl⟩)⟩)
     go_wp2
     all_goals first
      | (exfalso; omega)
      | (go_roundw
         case rel =>
           refine ⟨l ++ [⟨op, n, 0, 0⟩], r.drop (0 + 1), p + (0 + 1), o + p, 0, by rw [List.length_drop, show r.length - (0 + 1) = 0 by omega], fun hpos => by rw [List.length_drop] at hpos; omega, ?_, by simp; omega, by rw [List.length_drop]; omega, hid ⟨by rw [← List.drop_drop, hst.out.1], HCAT.out, HALL.out, by simpa using H4.out, HB4.out⟩⟩
           rw [List.length_drop]; omega
         case measure => simp [slen]; omega)
  go_wp2_with fail
  refine (HS.out _).mono ?_
  rintro e w1 ⟨rfl, hb1⟩
  have hBr : Hid (Below wo.heap.size wo w1) := hid (((Below.refl _ _).alloc (Nat.le_refl _) _).trans (hb1.mono (by simp)))
  have hbo : b < wo.heap.size := Nat.lt_of_lt_of_le hb hst.out.2.2.2.2.size
  go_wp2
  go_loopw [7, 32] (fun v i W => ∃ j : Nat, j ≤ s1 ∧ i = .int .i64 (j : Int) ∧ v = .int .u64 (valB ((r.drop 1).take j) % 18446744073709551616) ∧ W = w1) (fun _ i _ => (s1 - intOf i).toNat)
  case atStart => exact ⟨0, Nat.zero_le _, rfl, rfl, rfl⟩
  case round =>
   obtain ⟨j, hj, rfl, rfl, hW⟩ := hrel
   subst hW
   by_cases hjl : j < s1
   ·obtain ⟨y, hy, hy0, hy1, hyt⟩ := HCL.out j hjl
    have hyc := (hBr.out.cell (p := ⟨b, o + p + 1 + j, none⟩) hbo).trans hy
    have hval : valB ((r.drop 1).take (j + 1)) % 18446744073709551616 = (valB ((r.drop 1).take j) % 18446744073709551616) * 256 % 18446744073709551616 + y := by rw [hyt, qDb]; omega
    have HV := hid hval
    clear hval hyt hy
    have ha0 : 0 ≤ valB ((r.drop 1).take j) % 18446744073709551616 := by omega
    have ha1 : valB ((r.drop 1).take j) % 18446744073709551616 < 18446744073709551616 := by omega
    generalize valB ((r.drop 1).take j) % 18446744073709551616 = a at *
    have hor := or_low a y ha0 ha1 hy0 hy1
    go_wp2
    exact ⟨⟨j + 1, by omega, by simp, by rw [wrap_256 a, hor, HV.out], trivial⟩, by simp [intOf]; omega⟩
   obtain rfl : j = s1 := by omega
   by_cases h1 : op = 1
   rotate_left
   ·clear HCL
    have h1' : (op == 1) = false := beq_eq_false_iff_ne.mpr h1
    have hwN : widN op = j := by
     have : qBc op = 1 + wid op := by
      unfold qBc; rw [if_neg]; intro hh; unfold qBc at hsz; rw [if_pos hh] at hsz; omega
     unfold widN; omega
    have hj2 : j ≤ 2 := by
     rw [← hwN]; unfold widN wid; rw [if_neg h1]; split
     ·decide
     split <;> decide
    have hdrop : r.drop 1 ≠ [] ∨ True := .inr trivial
    have hbyt : qAM ((r.drop 1).take j) := fun x hx => HBS.out x (by
      have := List.mem_of_mem_drop (List.mem_of_mem_take hx); rw [← hst.out.1] at this; exact List.mem_of_mem_drop this)
    have hvl := qEd _ hbyt
    have hlen : ((r.drop 1).take j).length = j := by rw [List.length_take, List.length_drop]; omega
    rw [hlen] at hvl
    have hv65 : valB ((r.drop 1).take j) < 65536 := by
     rcases (by omega : j = 0 ∨ j = 1 ∨ j = 2) with e | e | e <;> rw [e] at hvl ⊢ <;> simp at hvl ⊢ <;> omega
    have hP : qB2 r = ⟨op, valB ((r.drop 1).take j), 0, 0⟩ := by unfold qB2; rw [HO2.out, if_neg h1, hwN]
    have hv0 := hvl.1
    clear hvl hlen hbyt hdrop
    rw [show valB ((r.drop 1).take j) % 18446744073709551616 = valB ((r.drop 1).take j) by omega]
    generalize valB ((r.drop 1).take j) = n at *
    have hwr : IntKind.i64.wrap n = n := by simp [IntKind.wrap, IntKind.bits, IntKind.signed]; omega
    have hrowB : wr.heap[wo.heap.size]? = some (.cells #[.int .i64 op, .int .i64 0, .int .i64 0, .int .u64 0] 115 (0, 0)) := (hb1.block wo.heap.size (by simp)).trans (World.alloc_heap_new wo _)
    have g0 : wr.cell? ⟨wo.heap.size, 0, none⟩ = some (.int .i64 op) := by simp [World.cell?, hrowB]
    have g1 : wr.cell? ⟨wo.heap.size, 1, none⟩ = some (.int .i64 0) := by simp [World.cell?, hrowB]
    have g2 : wr.cell? ⟨wo.heap.size, 2, none⟩ = some (.int .i64 0) := by simp [World.cell?, hrowB]
    have g3 : wr.cell? ⟨wo.heap.size, 3, none⟩ = some (.int .u64 0) := by simp [World.cell?, hrowB]
    have gf : wr.frozen? ⟨wo.heap.size, 1, none⟩ = false := by simp [World.frozen?, hrowB]
    have HR := hid (fun W => qCz op n 0 0 ⟨by omega, by omega⟩ W)
    unfold insV at HR
    clear hrowB
    have HU : Hid (U64 0) := hid ⟨by omega, by omega⟩
    have HBX := hBr.out.setCell (p := ⟨wo.heap.size, 1, none⟩) (Nat.le_refl _) (.int .i64 n)
    obtain ⟨WW, hWW⟩ : ∃ WW, WW = wr.setCell ⟨wo.heap.size, 1, none⟩ (.int .i64 n) := ⟨_, rfl⟩
    rw [← hWW] at HBX
    have hwb : wo.heap.size < (wr.setCell ⟨wo.heap.size, 1, none⟩ (.int .i64 n)).heap.size := by have := hb1.size; simp at *; omega
    go_wp2_with fail
    subst hWW
    have HB2 := hid HBX
    have hbw : b < wo.heap.size := hbo
    refine (HR.out _).mono ?_
    rintro e w3 ⟨rfl, hb3⟩
    have hB3 : Below wo.heap.size wo w3 := HB2.out.trans (hb3.mono HB2.out.size)
    have hwl : wo.heap.size < w3.heap.size := by have := hBr.out.size; have := hb3.size; have := hb1.size; simp at *; omega
    have k0 : w3.cell? ⟨wo.heap.size, 0, none⟩ = some (.int .i64 op) := (hb3.cell (p := ⟨wo.heap.size, 0, none⟩) hwb).trans (by rw [World.cell?_setCell_other _ _ _ _ (by intro e; injection e with _ e; omega)]; exact g0)
    have k1 : w3.cell? ⟨wo.heap.size, 1, none⟩ = some (.int .i64 n) := (hb3.cell (p := ⟨wo.heap.size, 1, none⟩) hwb).trans (World.cell?_setCell_same _ _ _ g1)
    have k2 : w3.cell? ⟨wo.heap.size, 2, none⟩ = some (.int .i64 0) := (hb3.cell (p := ⟨wo.heap.size, 2, none⟩) hwb).trans (by rw [World.cell?_setCell_other _ _ _ _ (by intro e; injection e with _ e; omega)]; exact g2)
    have k3 : w3.cell? ⟨wo.heap.size, 3, none⟩ = some (.int .u64 0) := (hb3.cell (p := ⟨wo.heap.size, 3, none⟩) hwb).trans (by rw [World.cell?_setCell_other _ _ _ _ (by intro e; injection e with _ e; omega)]; exact g3)
    clear g0 g1 g2 g3 gf
    cases hok : okI op n 0 0 with
    | false =>
     have hbd := hid (qCn hst.out.2.2.1 hl4 hst.out.2.1 (by intro e; rw [e] at hlt; simp at hlt) (by rw [hP]; exact hok))
     have HB3 := hid hB3
     clear hb3 hB3
     go_wp2
     go_ret2
     exact ⟨hst.out.2.2.2.2.trans (HB3.out.mono hst.out.2.2.2.2.size), .inr (.inl ⟨hbd.out, rfl⟩)⟩
    | true =>
     obtain ⟨i0, hi, hz0, hz1, hz2⟩ := info_parts infoIns
     have hown3 := qDl hst.out.2.2.2.1 hB3
     have HB3 := hid hB3
     have hN3 : w.heap.size ≤ w3.heap.size := Nat.le_trans hst.out.2.2.2.2.size hB3.size
     clear hb3 hB3
     go_wp2_with (at_builtin; refine wpList_append_lies _ rfl _ _ 75 rfl w.heap.size 115 i0 _ 4 32 Try.underlying75 hi hz0 hz1 hz2 rfl (by decide) _ _ _ rfl (hown3.alloc _) ⟨w3.heap.size, 0, none⟩ 1 1 (qCN ⟨op, n, 0, 0⟩) rfl rfl (World.news_of_block (World.alloc_heap_new w3 _)) ?c2 ?c0 ?c3 ?c4 ?c5 _ rfl ?_)
     case c2 => intro u hu; simp only [qCN, List.mem_cons, List.not_mem_nil, or_false] at hu; rcases hu with rfl | rfl | rfl | rfl <;> rfl
     case c0 => omega
     case c3 => unfold maxLen; omega
     case c4 => omega
     case c5 => simp; omega
     intro g cap w4 hown4 hgrow hgg hlt4
     have hH4 : w4.ownsRow w.heap.size 115 4 (.slice (some ⟨g, 0, none⟩) (l.length + 1) cap) (l.length + 1) (insC (l ++ [⟨op, n, 0, 0⟩])) := by rw [qDM]; exact hown4
     have H4 := hid hH4
     have HB4 : Hid (Below w.heap.size w w4) := hid (((hst.out.2.2.2.2.trans (HB3.out.mono hst.out.2.2.2.2.size)).alloc hN3 _).grown hgrow (by simp; omega) (fun j hj => (hown3.lt j hj).1))
     clear hown4 hgrow hgg hlt4 hown3 hH4
     have hcat : bs = encB (l ++ [⟨op, n, 0, 0⟩]) ++ r.drop (j + 1) := by
      have e := qDj r (fun x hx => HBS.out x (by rw [← hst.out.1] at hx; exact List.mem_of_mem_drop hx)) (by rw [HO2.out, hsz]; omega) (by rw [HO2.out, hsz]; omega) (by intro e; rw [e] at hlt; simp at hlt)
      rw [HO2.out, hsz, Int.toNat_natCast, hP] at e
      rw [qCP, List.append_assoc, e]; exact hst.out.2.1
     have hall : ∀ x ∈ l ++ [⟨op, n, 0, 0⟩], x.ok = true ∧ U64 x.b := fun x hx => by
      rcases List.mem_append.1 hx with hx | hx
      ·exact hst.out.2.2.1 x hx
      obtain rfl := List.mem_singleton.1 hx; exact ⟨hok, HU.out⟩
     have HCAT := hid hcat
     have HALL := hid hall
     clear hcat hall
     by_cases hbig : l.length = 4096
     ·have hbd : Hid (qD8 bs) := hid ⟨_, _, HALL.out, by simp [hbig], HCAT.out⟩
      go_wp2
      all_goals first
       | (exfalso; omega)
       | (go_ret2; exact ⟨HB4.out, .inr (.inr ⟨hbd.out, rfl⟩)⟩)
     go_wp2
     all_goals first
      | (exfalso; omega)
      | (go_roundw
         case rel =>
           refine ⟨l ++ [⟨op, n, 0, 0⟩], r.drop (j + 1), p + (j + 1), (if c' = j + 1 then o + p else o + p + (j + 1)), c' - (j + 1), by rw [List.length_drop]; split <;> rfl, fun hpos => by rw [if_neg (by rw [List.length_drop] at hpos; omega)]; omega, ?_, by simp; omega, by rw [List.length_drop]; omega, hid ⟨by rw [← List.drop_drop, hst.out.1], HCAT.out, HALL.out, by simpa using H4.out, HB4.out⟩⟩
           rw [List.length_drop]; omega
         case measure => simp [slen]; omega)
   subst h1
   obtain rfl : j = 9 := by
    have : qBc 1 = 10 := rfl
    rw [this] at hsz; omega
   obtain ⟨ty, hty, hty0, hty1, htyt⟩ := HCL.out 0 (by omega)
   have htc := (hBr.out.cell (p := ⟨b, o + p + 1 + 0, none⟩) hbo).trans hty
   rw [Nat.add_zero] at htc
   have hbyt : qAM (r.drop 1) := fun x hx => HBS.out x (by
     have := List.mem_of_mem_drop hx; rw [← hst.out.1] at this; exact List.mem_of_mem_drop this)
   have hr1 : r.drop 1 = ty :: r.drop 2 := by
    have h0 : (r.drop 1)[0]? = some ty := by
     have := congrArg (fun l => l[0]?) htyt
     simpa using this
    rw [show r.drop 2 = (r.drop 1).drop 1 from by rw [List.drop_drop]]
    cases hd : r.drop 1 with
    | nil => rw [hd] at h0; simp at h0
    | cons y t => rw [hd] at h0; simp at h0; rw [h0]; simp
   have hg1 : r.getD 1 0 = ty := by
    have h0 : r[1]? = some ty := by
     have := congrArg (fun l => l[0]?) hr1
     simpa [List.getElem?_drop] using this
    rw [List.getD_eq_getElem?_getD, h0]; rfl
   have hb8 : qAM ((r.drop 2).take 8) := fun x hx => hbyt x (by rw [hr1]; exact List.mem_cons_of_mem _ (List.mem_of_mem_take hx))
   have hl8 : ((r.drop 2).take 8).length = 8 := by rw [List.length_take, List.length_drop]; omega
   have hvl := qEd _ hb8
   rw [hl8] at hvl
   have hv9 : valB ((r.drop 1).take 9) % 18446744073709551616 = valB ((r.drop 2).take 8) := by
    rw [hr1, List.take_succ_cons, valB_cons _ _ hb8, hl8]
    have e : (256 : Int) ^ 8 = 18446744073709551616 := by decide
    rw [e] at hvl ⊢
    omega
   rw [hv9]
   have hP : qB2 r = ⟨1, 0, ty, valB ((r.drop 2).take 8)⟩ := by unfold qB2; rw [HO2.out, if_pos rfl, hg1]
   have hU : U64 (valB ((r.drop 2).take 8)) := ⟨hvl.1, by have := hvl.2; simpa using this⟩
   clear hvl hv9 hl8 hb8 hg1 hr1 hbyt htyt hty HCL
   generalize valB ((r.drop 2).take 8) = n at *
   have HU := hid hU
   have hrowB : wr.heap[wo.heap.size]? = some (.cells #[.int .i64 1, .int .i64 0, .int .i64 0, .int .u64 0] 115 (0, 0)) := (hb1.block wo.heap.size (by simp)).trans (World.alloc_heap_new wo _)
   have g0 : wr.cell? ⟨wo.heap.size, 0, none⟩ = some (.int .i64 1) := by simp [World.cell?, hrowB]
   have g1 : wr.cell? ⟨wo.heap.size, 1, none⟩ = some (.int .i64 0) := by simp [World.cell?, hrowB]
   have g2 : wr.cell? ⟨wo.heap.size, 2, none⟩ = some (.int .i64 0) := by simp [World.cell?, hrowB]
   have g3 : wr.cell? ⟨wo.heap.size, 3, none⟩ = some (.int .u64 0) := by simp [World.cell?, hrowB]
   have gf2 : wr.frozen? ⟨wo.heap.size, 2, none⟩ = false := by simp [World.frozen?, hrowB]
   have gf3 : wr.frozen? ⟨wo.heap.size, 3, none⟩ = false := by simp [World.frozen?, hrowB]
   have HR := hid (fun W => qCz 1 0 ty n hU W)
   unfold insV at HR
   clear hrowB hU
   have HBX := (hBr.out.setCell (p := ⟨wo.heap.size, 2, none⟩) (Nat.le_refl _) (.int .i64 ty)).setCell (p := ⟨wo.heap.size, 3, none⟩) (Nat.le_refl _) (.int .u64 n)
   have hwb : wo.heap.size < ((wr.setCell ⟨wo.heap.size, 2, none⟩ (.int .i64 ty)).setCell ⟨wo.heap.size, 3, none⟩ (.int .u64 n)).heap.size := by have := hb1.size; simp at *; omega
   go_wp2_with fail
   have HB2 := hid HBX
   have hbw : b < wo.heap.size := hbo
   refine (HR.out _).mono ?_
   rintro e w3 ⟨rfl, hb3⟩
   have hB3 : Below wo.heap.size wo w3 := HB2.out.trans (hb3.mono HB2.out.size)
   have hwl : wo.heap.size < w3.heap.size := by have := hBr.out.size; have := hb3.size; have := hb1.size; simp at *; omega
   have k0 : w3.cell? ⟨wo.heap.size, 0, none⟩ = some (.int .i64 1) := (hb3.cell (p := ⟨wo.heap.size, 0, none⟩) hwb).trans (by rw [World.cell?_setCell_other _ _ _ _ (by intro e; injection e with _ e; omega), World.cell?_setCell_other _ _ _ _ (by intro e; injection e with _ e; omega)]; exact g0)
   have k1 : w3.cell? ⟨wo.heap.size, 1, none⟩ = some (.int .i64 0) := (hb3.cell (p := ⟨wo.heap.size, 1, none⟩) hwb).trans (by rw [World.cell?_setCell_other _ _ _ _ (by intro e; injection e with _ e; omega), World.cell?_setCell_other _ _ _ _ (by intro e; injection e with _ e; omega)]; exact g1)
   have k2 : w3.cell? ⟨wo.heap.size, 2, none⟩ = some (.int .i64 ty) := (hb3.cell (p := ⟨wo.heap.size, 2, none⟩) hwb).trans (by rw [World.cell?_setCell_other _ _ _ _ (by intro e; injection e with _ e; omega)]; exact World.cell?_setCell_same _ _ _ g2)
   have k3 : w3.cell? ⟨wo.heap.size, 3, none⟩ = some (.int .u64 n) := (hb3.cell (p := ⟨wo.heap.size, 3, none⟩) hwb).trans (World.cell?_setCell_same _ _ _ (u := .int .u64 0) (by rw [World.cell?_setCell_other _ _ _ _ (by intro e; injection e with _ e; omega)]; exact g3))
   clear g0 g1 g2 g3 gf2 gf3
   cases hok : okI 1 0 ty n with
   | false =>
    have hbd := hid (qCn hst.out.2.2.1 hl4 hst.out.2.1 (by intro e; rw [e] at hlt; simp at hlt) (by rw [hP]; exact hok))
    have HB3 := hid hB3
    clear hb3 hB3
    go_wp2
    go_ret2
    exact ⟨hst.out.2.2.2.2.trans (HB3.out.mono hst.out.2.2.2.2.size), .inr (.inl ⟨hbd.out, rfl⟩)⟩
   | true =>
    obtain ⟨i0, hi, hz0, hz1, hz2⟩ := info_parts infoIns
    have hown3 := qDl hst.out.2.2.2.1 hB3
    have HB3 := hid hB3
    have hN3 : w.heap.size ≤ w3.heap.size := Nat.le_trans hst.out.2.2.2.2.size hB3.size
    clear hb3 hB3
    go_wp2_with (at_builtin; refine wpList_append_lies _ rfl _ _ 75 rfl w.heap.size 115 i0 _ 4 32 Try.underlying75 hi hz0 hz1 hz2 rfl (by decide) _ _ _ rfl (hown3.alloc _) ⟨w3.heap.size, 0, none⟩ 1 1 (qCN ⟨1, 0, ty, n⟩) rfl rfl (World.news_of_block (World.alloc_heap_new w3 _)) ?c2 ?c0 ?c3 ?c4 ?c5 _ rfl ?_)
    case c2 => intro u hu; simp only [qCN, List.mem_cons, List.not_mem_nil, or_false] at hu; rcases hu with rfl | rfl | rfl | rfl <;> rfl
    case c0 => omega
    case c3 => unfold maxLen; omega
    case c4 => omega
    case c5 => simp; omega
    intro g cap w4 hown4 hgrow hgg hlt4
    have hH4 : w4.ownsRow w.heap.size 115 4 (.slice (some ⟨g, 0, none⟩) (l.length + 1) cap) (l.length + 1) (insC (l ++ [⟨1, 0, ty, n⟩])) := by rw [qDM]; exact hown4
    have H4 := hid hH4
    have HB4 : Hid (Below w.heap.size w w4) := hid (((hst.out.2.2.2.2.trans (HB3.out.mono hst.out.2.2.2.2.size)).alloc hN3 _).grown hgrow (by simp; omega) (fun j hj => (hown3.lt j hj).1))
    clear hown4 hgrow hgg hlt4 hown3 hH4
    have hcat : bs = encB (l ++ [⟨1, 0, ty, n⟩]) ++ r.drop (9 + 1) := by
     have e := qDj r (fun x hx => HBS.out x (by rw [← hst.out.1] at hx; exact List.mem_of_mem_drop hx)) (by rw [HO2.out, hsz]; omega) (by rw [HO2.out, hsz]; omega) (by intro e; rw [e] at hlt; simp at hlt)
     rw [HO2.out, hsz, Int.toNat_natCast, hP] at e
     rw [qCP, List.append_assoc, e]; exact hst.out.2.1
    have hall : ∀ x ∈ l ++ [⟨1, 0, ty, n⟩], x.ok = true ∧ U64 x.b := fun x hx => by
     rcases List.mem_append.1 hx with hx | hx
     ·exact hst.out.2.2.1 x hx
     obtain rfl := List.mem_singleton.1 hx; exact ⟨hok, HU.out⟩
    have HCAT := hid hcat
    have HALL := hid hall
    clear hcat hall
    by_cases hbig : l.length = 4096
    ·have hbd : Hid (qD8 bs) := hid ⟨_, _, HALL.out, by simp [hbig], HCAT.out⟩
     go_wp2
     all_goals first
      | (exfalso; omega)
      | (go_ret2; exact ⟨HB4.out, .inr (.inr ⟨hbd.out, rfl⟩)⟩)
    go_wp2
    all_goals first
     | (exfalso; omega)
     | (go_roundw
        case rel =>
          refine ⟨l ++ [⟨1, 0, ty, n⟩], r.drop (9 + 1), p + (9 + 1), (if c' = 9 + 1 then o + p else o + p + (9 + 1)), c' - (9 + 1), by rw [List.length_drop]; split <;> rfl, fun hpos => by rw [if_neg (by rw [List.length_drop] at hpos; omega)]; omega, ?_, by simp; omega, by rw [List.length_drop]; omega, hid ⟨by rw [← List.drop_drop, hst.out.1], HCAT.out, HALL.out, by simpa using H4.out, HB4.out⟩⟩
          rw [List.length_drop]; omega
        case measure => simp [slen]; omega)
end Dec
end
section
namespace Q
open Go.RowKit PA PB PC
open Val Enc DecLaw Dec
def toS (x : InsD) : S115 := ⟨x.op, x.n, ⟨x.ty, x.b⟩⟩
def decL : Nat → List InsD → List Int → List InsD × Int
 | 0, _, _ => ([], 51)
 | k + 1, l, r =>
  if r = [] then (l, 0)
  else if (qB2 r).ok = true ∧ 0 ≤ (qB2 r).b ∧ (qB2 r).b < 18446744073709551616 ∧ r = insB (qB2 r) ++ r.drop (insB (qB2 r)).length then
   (if l.length = 4096 then ([], 3) else decL k (l ++ [qB2 r]) (r.drop (insB (qB2 r)).length))
  else ([], 51)
theorem decL_spec (bs : List Int) : ∀ (k : Nat) (l : List InsD) (r : List Int), r.length < k → (∀ x ∈ l, x.ok = true ∧ U64 x.b) → l.length ≤ 4096 → bs = encB l ++ r →
  (∃ m, decL k l r = (m, 0) ∧ DecOk bs m) ∨ (decL k l r = ([], 51) ∧ DecBad bs) ∨ (decL k l r = ([], 3) ∧ qD8 bs) := by
 intro k
 induction k with
 | zero => intro l r hk; omega
 | succ k ih =>
  intro l r hk hl h4 hbs
  unfold decL
  by_cases hr : r = []
  ·subst hr
   rw [if_pos rfl]
   exact .inl ⟨l, rfl, hl, h4, by rw [hbs, List.append_nil]⟩
  rw [if_neg hr]
  by_cases hp : (qB2 r).ok = true ∧ 0 ≤ (qB2 r).b ∧ (qB2 r).b < 18446744073709551616 ∧ r = insB (qB2 r) ++ r.drop (insB (qB2 r)).length
  rotate_left
  ·rw [if_neg hp]
   refine .inr (.inl ⟨rfl, l, r, hl, h4, hbs, hr, fun x t hx hu he => hp ?_⟩)
   have := qC9 hx hu t
   rw [← he] at this
   rw [this]
   exact ⟨hx, hu.1, hu.2, by rw [he, List.drop_append_of_le_length (Nat.le_refl _), List.drop_length, List.nil_append]⟩
  rw [if_pos hp]
  have hx : ∀ x ∈ l ++ [qB2 r], x.ok = true ∧ U64 x.b := fun x hx => by
   rcases List.mem_append.1 hx with hx | hx
   ·exact hl x hx
   obtain rfl := List.mem_singleton.1 hx; exact ⟨hp.1, hp.2.1, hp.2.2.1⟩
  have hcat : bs = encB (l ++ [qB2 r]) ++ r.drop (insB (qB2 r)).length := by rw [qCP, List.append_assoc, ← hp.2.2.2]; exact hbs
  by_cases hb : l.length = 4096
  ·rw [if_pos hb]
   exact .inr (.inr ⟨rfl, _, _, hx, by simp [hb], hcat⟩)
  rw [if_neg hb]
  refine ih _ _ ?_ hx (by simp; omega) hcat
  have : 0 < (insB (qB2 r)).length := by unfold insB; simp
  have : 0 < r.length := List.length_pos_iff.2 hr
  rw [List.length_drop]; omega
def qAI.f (l0 : List Int) : Option ((List (S115)) × Int) :=
 if l0.all (fun x => decide (0 ≤ x ∧ x < 256)) = true then some ((decL (l0.length + 1) [] l0).1.map toS, (decL (l0.length + 1) [] l0).2) else none
theorem decode_nil2 (A : Option Addr) (c : Nat) (w : World) : Calls Try.prog 51 #[.slice A 0 c] w fun e w' => e = .returned (.tuple #[.slice none 0 0, .int .i64 0]) ∧ w' = w := by
 go_enter Try.func51, Try.ntmps51
 go_wp2
 go_loopw [0, 4] (fun t v wr => t = .slice A 0 c ∧ v = .slice none 0 0 ∧ wr = w) (fun _ _ _ => 0)
 case atStart => exact ⟨rfl, rfl, rfl⟩
 case round =>
  obtain ⟨rfl, rfl, rfl⟩ := hrel
  go_wp2
  go_ret2
  exact ⟨rfl, rfl⟩
theorem reps_ins (w : World) (base : Nat) (ok : Nat → Prop) : ∀ l : List InsD, Reps (k115.M w base ok) 4 (l.map toS) (insC l) := by
 intro l
 induction l with
 | nil => exact Reps.none _ _
 | cons x l ih =>
  have h1 : Reps (k115.M w base ok) 4 ([] ++ [toS x]) ([] ++ qCN x) := Reps.snoc (Reps.none _ _) (k115_mkM w base ok (toS x)) rfl
  exact Kd.reps_append h1 ih
theorem qAI.calls (A0 : Option Addr) (c0 : Nat) (l0 : List Int) (r1 : List (S115)) (r2 : Int) (w : World) (hr0 : Kd.C (Kd.int .u8) w A0 l0.length l0) (hc0 : l0.length ≤ c0) (h : qAI.f l0 = some (r1, r2)) :
  Calls Try.prog 51 #[.slice A0 l0.length c0] w fun e w' => ∃ v0_ : Value, e = .returned (.tuple #[v0_, .int .i64 r2]) ∧ Kd.R k115 115 w' w.heap.size (fun _ => True) v0_ r1 ∧ Below w.heap.size w w' := by
 unfold qAI.f at h
 split at h
 case isFalse => cases h
 rename_i hb
 have hbs : qAM l0 := fun x hx => by simpa using List.all_eq_true.1 hb x hx
 simp only [Option.some.injEq, Prod.mk.injEq] at h
 obtain ⟨h1, h2⟩ := h
 have hsp := decL_spec l0 (l0.length + 1) [] l0 (by omega) (by simp) (by simp) (by simp [encB])
 have hD : Calls Try.prog 51 #[.slice A0 l0.length c0] w (DecPost l0 w) := by
  rcases Nat.eq_zero_or_pos l0.length with hz | hp
  ·obtain rfl := List.length_eq_zero_iff.1 hz
   exact (decode_nil2 A0 c0 w).mono fun e w' ⟨he, hw⟩ => ⟨hw ▸ Below.refl _ _, .inl ⟨[], _, ⟨by simp, by simp, rfl⟩, he, World.ownsRow_nil _ _ _ _⟩⟩
  obtain ⟨ad, had, hcell⟩ := hr0.2.2 hp
  subst had
  obtain ⟨b, o, s⟩ := ad
  have hat : ∀ j y, l0[j]? = some y → w.cell? (Addr.add ⟨b, o, s⟩ j) = some (.int .u8 y) := fun j y hj => by
   obtain ⟨cs, _, hK, hcc⟩ := hcell j y hj
   obtain rfl : cs = [Value.int .u8 y] := hK
   have h2 := hcc 0 _ rfl
   rw [show j * (Kd.int .u8).sz + 0 = j from Nat.mul_one j] at h2
   exact h2
  obtain ⟨y0, hy0⟩ : ∃ y, l0[0]? = some y := ⟨l0[0], List.getElem?_eq_getElem hp⟩
  have h0 := hat 0 y0 hy0
  have hlt := World.block_lt_of_cell? w _ h0
  have hadd : ∀ j, Addr.add ⟨b, o, none⟩ j = ⟨b, o + j, none⟩ := fun j => by by_cases hj : j = 0 <;> simp [Addr.add, hj]
  obtain rfl : s = none := by
   cases s with
   | none => rfl
   | some k =>
    simp only [Addr.add, World.cell?] at h0
    split at h0 <;> simp at h0
  exact decode_some b o c0 l0 w (fun j y hj => by have := hat j y hj; rw [hadd] at this; exact this) (by rw [hadd] at hlt; exact hlt) hbs hc0
 refine hD.mono fun e w' hP => ?_
 obtain ⟨hB, hP⟩ := hP
 rcases hP with ⟨l, v, hok, he, hown⟩ | ⟨hbad, he⟩ | ⟨hbig, he⟩
 ·rcases hsp with ⟨m, hm, hok2⟩ | ⟨_, hb2⟩ | ⟨_, hb2⟩
  ·obtain rfl := ok_ok hok hok2
   rw [hm] at h1 h2
   subst h1; subst h2
   exact ⟨v, he, ⟨fun _ _ => trivial, insC l, by rw [List.length_map]; exact hown, reps_ins _ _ _ l⟩, hB⟩
  ·exact (ok_bad hok hb2).elim
  ·exact (ok_big hok hb2).elim
 ·rcases hsp with ⟨m, hm, hok2⟩ | ⟨hm, _⟩ | ⟨_, hb2⟩
  ·exact (ok_bad hok2 hbad).elim
  ·rw [hm] at h1 h2
   subst h1; subst h2
   exact ⟨_, he, Kd.R_nil _ _ _ _ _, hB⟩
  ·exact (big_bad hb2 hbad).elim
 ·rcases hsp with ⟨m, hm, hok2⟩ | ⟨hm, hb2⟩ | ⟨hm, _⟩
  ·exact (ok_big hok2 hbig).elim
  ·exact (big_bad hbig hb2).elim
  ·rw [hm] at h1 h2
   subst h1; subst h2
   exact ⟨_, he, Kd.R_nil _ _ _ _ _, hB⟩
end Q
end
section
namespace Q
open Go.RowKit PA PB PC
attribute [local go_sem] qBd min2_int qBp min_two max_three min_three max_four min_four
def qAr.l0 : Nat → List Int → Int → Int → List Int → Int → Int → Option (List Int × Int × Int)
 | 0, _, _, _, _, _, _ => none
 | k + 1, x3, x6, x7, aR, aT, aU => if x7 < x6 then ((qAg.f aR aT aU).bind fun aJ => (if x3.length < 17592186044416 then (qAr.l0 k (x3 ++ [wrap64 (aJ.1)]) x6 (wrap64 (x7 + 1)) aR aJ.2.1 aJ.2.2) else (none))) else (some (x3, aT, aU))
def qAr.f (k : Nat) (s0_0 : List Int) (s0_1 : Int) (s0_2 : Int) : Option (List Int × Int × Int) := (qAg.f s0_0 s0_1 s0_2).bind fun aC => (qAr.l0 k ([] : List Int) (wrap64 (aC.1)) 0 s0_0 aC.2.1 aC.2.2)
theorem qAr.calls (k : Nat) (g : Nat) (s0_0 : List Int) (s0_1 : Int) (s0_2 : Int) (r1 : List Int) (r2 : Int) (r3 : Int) (w0 w : World) (hI : qAe w0 w g s0_0 s0_1 s0_2) (hB : Below w0.heap.size w0 w) (h : qAr.f k s0_0 s0_1 s0_2 = some (r1, r2, r3)) :
  Calls Try.prog 76 #[.pointer (some ⟨g, 0, none⟩)] w fun e w' => ∃ v0_ : Value, e = .returned (v0_) ∧ Kd.R (Kd.int .i64) 3 w' w.heap.size (fun _ => True) v0_ r1 ∧ qAe w0 w' g s0_0 r2 r3 ∧ Below w0.heap.size w0 w' ∧ qAd w w' g none := by
 have aI := am hI
 have HK := am (qAd.refl w g none)
 have HL := am hB.size
 clear hI
 have HB := am hB
 clear hB
 have H : ((qAg.f s0_0 s0_1 s0_2).bind fun aC => (qAr.l0 k ([] : List Int) (wrap64 (aC.1)) 0 s0_0 aC.2.1 aC.2.2)) = some (r1, r2, r3) := h
 clear h
 replace H := bm H
 obtain ⟨⟨aG, aV, aW⟩, a5, H⟩ := H
 replace H : (qAr.l0 k ([] : List Int) (wrap64 (aG)) 0 s0_0 aV aW) = some (r1, r2, r3) := H
 have A2 := am a5
 clear a5
 have H' := am H
 clear H
 go_enter Try.func76, Try.ntmps76
 go_wp2_with ((with_reducible refine qAj (f := 20) rfl ?_); refine gL 5 Try.func20 #[.pointer (some ⟨g, 0, none⟩)] ?_; (with_reducible refine (qAg.calls g s0_0 s0_1 s0_2 aG aV aW w0 _ ?side1 ?side2 A2.o).mono ?_); (case side1 => exact aI.o); (case side2 => exact HB.o); rintro e w3 ⟨rfl, hi, hb, hk⟩; refine ⟨_, rfl, ?_⟩; have n_ := a2 (qAd.trans HK.o hk (.inl rfl)) (a2 (hb) (am (hi))); clear HK HB aI; obtain ⟨HK, HB, aI⟩ := n_)
 go_loopg [3, 7] k (fun kq v3 v7 w' => ∃ (aH : List Int) (aD : Int) (aA : Int) (aB : Int), v7 = .int .i64 aD ∧ qAf (qAr.l0 kq aH (wrap64 (aG)) aD s0_0 aA aB = some (r1, r2, r3)) ∧ qAf (kq ≤ k) ∧ qAf (Kd.R (Kd.int .i64) 3 w' w.heap.size (fun _ => True) v3 aH) ∧ qAf (qAe w0 w' g s0_0 aA aB) ∧ qAf (qAd w w' g none) ∧ qAf (Below w0.heap.size w0 w'))
 case atStart => exact ⟨([] : List Int), (0), (aV), (aW), (by rfl), H', ⟨Nat.le_refl _⟩, ⟨by (exact Kd.R_nil _ _ _ _ _)⟩, ⟨by exact aI.o⟩, ⟨by exact HK.o⟩, ⟨by exact HB.o⟩⟩
 case round =>
  clear H'
  obtain ⟨aH, aD, aA, aB, rfl, HA, a7, aE, aI, HK, HB⟩ := hrel
  cases gk with
  | zero => exact absurd HA.o (by simp [qAr.l0])
  | succ k1 =>
   have H := HA.o
   clear HA
   simp only [qAr.l0] at H
   by_cases c4 : aD < (wrap64 (aG))
   rotate_left
   ·rw [if_neg c4] at H
    replace c4 := d0 c4
    simp only [Option.some.injEq, Prod.mk.injEq] at H
    obtain ⟨rfl, rfl, rfl⟩ := H
    go_wp2
    go_ret
    exact ⟨_, by rfl, by exact aE.o, by exact aI.o, by exact HB.o, by exact HK.o⟩
   rw [if_pos c4] at H
   replace c4 := d1 c4
   replace H := bm H
   obtain ⟨⟨aM, aN, aQ⟩, a6, H⟩ := H
   replace H : (if aH.length < 17592186044416 then (qAr.l0 k1 (aH ++ [wrap64 (aM)]) (wrap64 (aG)) (wrap64 (aD + 1)) s0_0 aN aQ) else (none)) = some (r1, r2, r3) := H
   have A5 := am a6
   clear a6
   obtain ⟨c6, H⟩ := gd H
   have a3 := am c6
   clear c6
   obtain ⟨aZ, aK⟩ : ∃ y_ : List Int, y_ = (aH ++ [wrap64 (aM)]) := ⟨_, rfl⟩
   replace H : (qAr.l0 k1 aZ (wrap64 (aG)) (wrap64 (aD + 1)) s0_0 aN aQ) = some (r1, r2, r3) := by (rw [aK]; with_reducible exact H)
   have aY := am aK
   clear aK
   have H' := am H
   clear H
   go_wp2_with (first | ((with_reducible refine qAj (f := 20) rfl ?_); refine gL 11 Try.func20 #[.pointer (some ⟨g, 0, none⟩)] ?_; (with_reducible refine (qAg.calls g s0_0 aA aB aM aN aQ w0 _ ?side1 ?side2 A5.o).mono ?_); (case side1 => exact aI.o); (case side2 => exact HB.o); rintro e w7 ⟨rfl, hi, hb, hk⟩; refine ⟨_, rfl, ?_⟩; have n_ := a2 (Kd.R_kp (qAe.apart (show qAe w0 _ g s0_0 aA aB from aI.o) aE.o (by decide)) hk) (a2 (qAd.trans HK.o hk (.inl rfl)) (a2 (hb) (am (hi)))); clear aE HK HB aI; obtain ⟨aE, HK, HB, aI⟩ := n_) | ((with_reducible refine qAQ (b := .append) (xs := #[.tmp 9, .tmp 13]) rfl ?_); at_builtin; refine Kd.R_append (Kd.int .i64) w.heap.size rfl (.tmp 9) (.tmp 13) 72 3 (.int .i64 0) 8 rfl Try.underlying72 info3 rfl (by decide) (by omega) u3 aH (wrap64 (aM)) [.int .i64 (wrap64 (aM))] (fun _ => True) (fun _ => False) rfl rfl ?aP (fun _ hk => hk.elim) ?aF ?aO (Below.refl _ _) ?aS ?aL ?_; (case aP => exact rfl); (case aF => exact (fun _ _ => trivial)); (case aO => exact aE.o); (case aS => exact (qAT (w := w) (g := g) (row := none) HK.o)); (case aL => have := a3.o; omega); intro a9 w8 ho hb hg a8; rw [← aY.o] at ho; have n_ := a2 (qAe.grownR (show qAe w0 _ g s0_0 aN aQ from aI.o) hg aI.o aE.o (by decide) (fun b_ t_ h_ => h_)) (a2 (below_weaken HB.o HL.o hb) (a2 (qAd.trans HK.o (qAd.of_grown hg g) (Kd.R_base2 aE.o)) (am (ho)))); clear aI HB HK aE; obtain ⟨aI, HB, HK, aX⟩ := n_; clear ho hb hg a8))
   go_roundg k1
   case measure => have := a7.o; omega
   case rel => exact ⟨(aZ), (wrap64 (aD + 1)), (aN), (aQ), (by rfl), H', ⟨by have := a7.o; omega⟩, ⟨by exact aX.o⟩, ⟨by exact aI.o⟩, ⟨by exact HK.o⟩, ⟨by exact HB.o⟩⟩
def qAU.f (k : Nat) (s0_0 : List Int) (s0_1 : Int) (s0_2 : Int) : Option (List Int × Int × List Int × (List (S115)) × Int × Int) := (qAr.f k s0_0 s0_1 s0_2).bind fun aY => ((qAg.f s0_0 aY.2.1 aY.2.2).bind fun aR => ((qAr.f k s0_0 aR.2.1 aR.2.2).bind fun aP => ((qAs.f s0_0 aP.2.1 aP.2.2 16384).bind fun aG => ((qAI.f aG.1).bind fun aJ => (if aJ.2 = 0 then (some (aY.1, wrap64 (aR.1), aP.1, aJ.1, aG.2.1, aG.2.2)) else ((qAy.f s0_0 aG.2.1 aG.2.2 52).bind fun aN => (some (aY.1, wrap64 (aR.1), aP.1, aJ.1, aN.1, aN.2))))))))
theorem qAU.calls (k : Nat) (g : Nat) (s0_0 : List Int) (s0_1 : Int) (s0_2 : Int) (r1 : List Int) (r2 : Int) (r3 : List Int) (r4 : List (S115)) (r5 : Int) (r6 : Int) (w0 w : World) (hI : qAe w0 w g s0_0 s0_1 s0_2) (hB : Below w0.heap.size w0 w) (h : qAU.f k s0_0 s0_1 s0_2 = some (r1, r2, r3, r4, r5, r6)) :
  Calls Try.prog 26 #[.pointer (some ⟨g, 0, none⟩)] w fun e w' => ∃ v0_ v2_ v3_ : Value, e = .returned (.agg #[v0_, .int .i64 r2, v2_, v3_]) ∧ Kd.R (Kd.int .i64) 3 w' w.heap.size (fun k_ => some k_ ≠ (v2_ : Value).ownBlock) v0_ r1 ∧ Kd.R (Kd.int .i64) 3 w' w.heap.size (fun k_ => some k_ ≠ (v0_ : Value).ownBlock) v2_ r3 ∧ Kd.R k115 115 w' w.heap.size (fun _ => True) v3_ r4 ∧ qAe w0 w' g s0_0 r5 r6 ∧ Below w0.heap.size w0 w' ∧ qAd w w' g none := by
 have aL := am hI
 have HK := am (qAd.refl w g none)
 clear hI
 have bA := am hB.size
 have HB := am hB
 clear hB
 have H : ((qAr.f k s0_0 s0_1 s0_2).bind fun aY => ((qAg.f s0_0 aY.2.1 aY.2.2).bind fun aR => ((qAr.f k s0_0 aR.2.1 aR.2.2).bind fun aP => ((qAs.f s0_0 aP.2.1 aP.2.2 16384).bind fun aG => ((qAI.f aG.1).bind fun aJ => (if aJ.2 = 0 then (some (aY.1, wrap64 (aR.1), aP.1, aJ.1, aG.2.1, aG.2.2)) else ((qAy.f s0_0 aG.2.1 aG.2.2 52).bind fun aN => (some (aY.1, wrap64 (aR.1), aP.1, aJ.1, aN.1, aN.2))))))))) = some (r1, r2, r3, r4, r5, r6) := h
 clear h
 replace H := bm H
 obtain ⟨⟨aH, ap, aq⟩, cI, H⟩ := H
 replace H : ((qAg.f s0_0 ap aq).bind fun aR => ((qAr.f k s0_0 aR.2.1 aR.2.2).bind fun aP => ((qAs.f s0_0 aP.2.1 aP.2.2 16384).bind fun aG => ((qAI.f aG.1).bind fun aJ => (if aJ.2 = 0 then (some (aH, wrap64 (aR.1), aP.1, aJ.1, aG.2.1, aG.2.2)) else ((qAy.f s0_0 aG.2.1 aG.2.2 52).bind fun aN => (some (aH, wrap64 (aR.1), aP.1, aJ.1, aN.1, aN.2)))))))) = some (r1, r2, r3, r4, r5, r6) := H
 have A2 := am cI
 clear cI
 replace H := bm H
 obtain ⟨⟨aK, ar, au⟩, cJ, H⟩ := H
 replace H : ((qAr.f k s0_0 ar au).bind fun aP => ((qAs.f s0_0 aP.2.1 aP.2.2 16384).bind fun aG => ((qAI.f aG.1).bind fun aJ => (if aJ.2 = 0 then (some (aH, wrap64 (aK), aP.1, aJ.1, aG.2.1, aG.2.2)) else ((qAy.f s0_0 aG.2.1 aG.2.2 52).bind fun aN => (some (aH, wrap64 (aK), aP.1, aJ.1, aN.1, aN.2))))))) = some (r1, r2, r3, r4, r5, r6) := H
 have A3 := am cJ
 clear cJ
 replace H := bm H
 obtain ⟨⟨aQ, ab, ac⟩, cK, H⟩ := H
 replace H : ((qAs.f s0_0 ab ac 16384).bind fun aG => ((qAI.f aG.1).bind fun aJ => (if aJ.2 = 0 then (some (aH, wrap64 (aK), aQ, aJ.1, aG.2.1, aG.2.2)) else ((qAy.f s0_0 aG.2.1 aG.2.2 52).bind fun aN => (some (aH, wrap64 (aK), aQ, aJ.1, aN.1, aN.2)))))) = some (r1, r2, r3, r4, r5, r6) := H
 have A4 := am cK
 clear cK
 replace H := bm H
 obtain ⟨⟨ai, ak, aj⟩, cL, H⟩ := H
 replace H : ((qAI.f ai).bind fun aJ => (if aJ.2 = 0 then (some (aH, wrap64 (aK), aQ, aJ.1, ak, aj)) else ((qAy.f s0_0 ak aj 52).bind fun aN => (some (aH, wrap64 (aK), aQ, aJ.1, aN.1, aN.2))))) = some (r1, r2, r3, r4, r5, r6) := H
 have A5 := am cL
 clear cL
 replace H := bm H
 obtain ⟨⟨aS, al⟩, cM, H⟩ := H
 replace H : (if al = 0 then (some (aH, wrap64 (aK), aQ, aS, ak, aj)) else ((qAy.f s0_0 ak aj 52).bind fun aN => (some (aH, wrap64 (aK), aQ, aS, aN.1, aN.2)))) = some (r1, r2, r3, r4, r5, r6) := H
 have A6 := am cM
 clear cM
 by_cases c7 : al = 0
 ·rw [if_pos c7] at H
  have bp : (al != 0) = false := bn c7
  clear c7
  simp only [Option.some.injEq, Prod.mk.injEq] at H
  obtain ⟨rfl, rfl, rfl, rfl, rfl, rfl⟩ := H
  go_enter Try.func26, Try.ntmps26
  go_wp2_with (first | ((with_reducible refine qAC (N := 2) rfl ?_); refine bx 2 #[.slice none 0 0, .int .i64 0, .slice none 0 0, .slice none 0 0] 77 ?_; intro aD hg w8 hbox hb; have n_ := a2 (qAe.below aL.o hb) (a2 (qAd.trans HK.o (qAd.of_below hb g none) (.inl rfl)) (a2 (qAo HB.o hb) (a2 (hbox) (a2 (by rw [hg]; exact (qAT HK.o) : w.heap.size ≤ aD) (a2 (Nat.le_trans bA.o (by rw [hg]; exact (qAT HK.o) : w.heap.size ≤ aD) : w0.heap.size ≤ aD) (a2 (by rw [hg]; exact Nat.ne_of_lt (qAe.lt aL.o) : g ≠ aD) (am (by rw [hg]; exact Nat.ne_of_gt (qAe.lt aL.o) : aD ≠ g)))))))); clear aL HK HB; obtain ⟨aL, HK, HB, aA, ao, an, aX, aM⟩ := n_; clear hb hbox hg) | ((with_reducible refine qAj (f := 76) rfl ?_); refine gL 7 Try.func76 #[.pointer (some ⟨g, 0, none⟩)] ?_; (with_reducible refine (qAr.calls k g s0_0 s0_1 s0_2 aH ap aq w0 _ ?side1 ?side2 A2.o).mono ?_); (case side1 => exact aL.o); (case side2 => exact HB.o); rintro e w9 ⟨cF, rfl, a5, hi, hb, hk⟩; refine ⟨_, rfl, ?_⟩; have n_ := a2 (qAd.blk hk aA.o aM.o (by simp)) (a2 (Kd.R_lower a5 (qAT HK.o)) (a2 (qAd.trans HK.o hk (.inl rfl)) (a2 (hb) (am (hi))))); clear aA HK HB aL; obtain ⟨aA, aE, HK, HB, aL⟩ := n_) | ((with_reducible refine qAj (f := 20) rfl ?_); refine gL 9 Try.func20 #[.pointer (some ⟨g, 0, none⟩)] ?_; (with_reducible refine (qAg.calls g s0_0 ap aq aK ar au w0 _ ?side1 ?side2 A3.o).mono ?_); (case side1 => exact aL.o); (case side2 => exact HB.o); rintro e cY ⟨rfl, hi, hb, hk⟩; refine ⟨_, rfl, ?_⟩; have n_ := a2 (qAd.blk hk aA.o aM.o (by simp)) (a2 (Kd.R_kp (qAe.apart aL.o aE.o (by decide)) hk) (a2 (qAd.trans HK.o hk (.inl rfl)) (a2 (hb) (am (hi))))); clear aA aE HK HB aL; obtain ⟨aA, aE, HK, HB, aL⟩ := n_; obtain ⟨aV, aZ, bs⟩ := Kd.R_slice aE.o; subst bs) | ((with_reducible refine qAj (f := 76) rfl ?_); refine gL 13 Try.func76 #[.pointer (some ⟨g, 0, none⟩)] ?_; (with_reducible refine (qAr.calls k g s0_0 ar au aQ ab ac w0 _ ?side1 ?side2 A4.o).mono ?_); (case side1 => exact aL.o); (case side2 => exact HB.o); rintro e cZ ⟨cG, rfl, a5, hi, hb, hk⟩; refine ⟨_, rfl, ?_⟩; have n_ := a2 (qAd.blk hk aA.o aM.o (by simp)) (a2 (Kd.R_mono (Kd.R_told (Kd.R_oldK (qAe.apart aL.o aE.o (by decide)) hk) (Kd.R_base a5)) (fun _ h_ => h_.1)) (a2 (Kd.R_lower (Kd.R_new' a5 (Kd.R_lt aE.o)) (qAT HK.o)) (a2 (qAd.trans HK.o hk (.inl rfl)) (a2 (hb) (am (hi)))))); clear aA aE HK HB aL; obtain ⟨aA, aE, aI, HK, HB, aL⟩ := n_; obtain ⟨a7, a9, bu⟩ := Kd.R_slice aI.o; subst bu) | ((with_reducible refine qAC (N := 3) rfl ?_); refine bx 3 #[.slice none 0 0, .int .i64 0, .slice none 0 0, .slice none 0 0] 77 ?_; intro aC hg bj hbox hb; have n_ := a2 (Kd.R_below aE.o hb) (a2 (Kd.R_below aI.o hb) (a2 (qAe.below aL.o hb) (a2 (qAz aA.o hb) (a2 (qAd.trans HK.o (qAd.of_below hb g none) (.inl rfl)) (a2 (qAo HB.o hb) (a2 (hbox) (a2 (by rw [hg]; exact (qAT HK.o) : w.heap.size ≤ aC) (a2 (Nat.le_trans bA.o (by rw [hg]; exact (qAT HK.o) : w.heap.size ≤ aC) : w0.heap.size ≤ aC) (a2 (by rw [hg]; exact Nat.ne_of_lt (qAO aA.o) : aD ≠ aC) (a2 (by rw [hg]; exact Nat.ne_of_lt (qAe.lt aL.o) : g ≠ aC) (am (by rw [hg]; exact Nat.ne_of_gt (qAe.lt aL.o) : aC ≠ g)))))))))))); clear aE aI aL aA HK HB; obtain ⟨aE, aI, aL, aA, HK, HB, aB, a6, ad, aF, aO, aU⟩ := n_; clear hb hbox hg; have cR := aF.o; have cN := aU.o; have cS := aO.o; have bB : bj.cell? ⟨aC, 0, none⟩ = some (.slice none 0 0) := (qAb aB.o 0).trans rfl; have bC : bj.cell? ⟨aC, 1, none⟩ = some (.int .i64 0) := (qAb aB.o 1).trans rfl; have bD : bj.cell? ⟨aC, 2, none⟩ = some (.slice none 0 0) := (qAb aB.o 2).trans rfl; have bE : bj.cell? ⟨aC, 3, none⟩ = some (.slice none 0 0) := (qAb aB.o 3).trans rfl; have bZ := qAc aB.o 0; have b0 := qAc aB.o 1; have b1 := qAc aB.o 2; have b2 := qAc aB.o 3) | ((with_reducible refine qAj (f := 52) rfl ?_); refine gL 17 Try.func52 #[.pointer (some ⟨g, 0, none⟩), .int .i64 16384] ?_; (with_reducible refine (qAs.calls g s0_0 ab ac 16384 ai ak aj w0 _ ?side1 ?side2 A5.o).mono ?_); (case side1 => repeat (with_reducible first | exact aL.o | refine qAe.far ?_ aO.o (by (with_reducible repeat (apply TyB.set)); exact TyB.of aB.o) (by decide) _)); (case side2 => repeat (with_reducible first | exact HB.o | refine qAq ?_ ad.o)); rintro e c0 ⟨cE, rfl, a5, hi, hb, hk⟩; refine ⟨_, rfl, ?_⟩; have n_ := a2 (qAd.blk hk (g' := aD) (o := .cells #[.slice none 0 0, .int .i64 0, .slice none 0 0, .slice none 0 0] 77 (0, 0)) (by refine qA4 ?_ aF.o _; refine qA4 ?_ aF.o _; refine qA4 ?_ aF.o _; refine qA4 ?_ aF.o _; exact aA.o) aM.o (by simp)) (a2 (Kd.R_kp (qAe.apart (show qAe w0 _ g s0_0 ab ac from by repeat (with_reducible first | exact aL.o | refine qAe.far ?_ aO.o (by (with_reducible repeat (apply TyB.set)); exact TyB.of aB.o) (by decide) _)) (by exact (Kd.R_mono (Kd.R_far (p := ⟨aC, 3, none⟩) (Kd.R_far (p := ⟨aC, 2, none⟩) (Kd.R_far (p := ⟨aC, 1, none⟩) (Kd.R_far (p := ⟨aC, 0, none⟩) (Kd.R_types aE.o aB.o (by decide)) (fun _ hk => hk.2) (.slice aV aH.length aZ)) (fun _ hk => hk.2) (.int .i64 (wrap64 (aK)))) (fun _ hk => hk.2) (.slice a7 aQ.length a9)) (fun _ hk => hk.2) (.slice none 0 0)) (fun _ h_ => h_.1))) (by decide)) hk) (a2 (Kd.R_kp (qAe.apart (show qAe w0 _ g s0_0 ab ac from by repeat (with_reducible first | exact aL.o | refine qAe.far ?_ aO.o (by (with_reducible repeat (apply TyB.set)); exact TyB.of aB.o) (by decide) _)) (by exact (Kd.R_mono (Kd.R_far (p := ⟨aC, 3, none⟩) (Kd.R_far (p := ⟨aC, 2, none⟩) (Kd.R_far (p := ⟨aC, 1, none⟩) (Kd.R_far (p := ⟨aC, 0, none⟩) (Kd.R_types aI.o aB.o (by decide)) (fun _ hk => hk.2) (.slice aV aH.length aZ)) (fun _ hk => hk.2) (.int .i64 (wrap64 (aK)))) (fun _ hk => hk.2) (.slice a7 aQ.length a9)) (fun _ hk => hk.2) (.slice none 0 0)) (fun _ h_ => h_.1))) (by decide)) hk) (a2 (qAd.blk hk (g' := aC) (o := .cells #[.slice aV aH.length aZ, .int .i64 (wrap64 (aK)), .slice a7 aQ.length a9, .slice none 0 0] 77 (0, 0)) (by refine qAt (cs := #[.slice aV aH.length aZ, .int .i64 (wrap64 (aK)), .slice a7 aQ.length a9, .slice none 0 0]) ?_ 3 _ rfl; refine qAt (cs := #[.slice aV aH.length aZ, .int .i64 (wrap64 (aK)), .slice none 0 0, .slice none 0 0]) ?_ 2 _ rfl; refine qAt (cs := #[.slice aV aH.length aZ, .int .i64 0, .slice none 0 0, .slice none 0 0]) ?_ 1 _ rfl; refine qAt (cs := #[.slice none 0 0, .int .i64 0, .slice none 0 0, .slice none 0 0]) ?_ 0 _ rfl; exact aB.o) aU.o (by simp)) (a2 (Kd.R_lower a5 (qAT (w := w) (g := g) (row := none) (by repeat (with_reducible first | exact HK.o | refine qBL ?_ a6.o _)))) (a2 (qAd.trans (by repeat (with_reducible first | exact HK.o | refine qBL ?_ a6.o _)) hk (.inl rfl)) (a2 (hb) (am (hi)))))))); clear aA aE aI aB HK HB aL; obtain ⟨aA, aE, aI, aB, aT, HK, HB, aL⟩ := n_; obtain ⟨bl, bq, bw⟩ := Kd.R_slice aT.o; subst bw) | ((with_reducible refine qAj (f := 51) rfl ?_); refine gL 18 Try.func51 #[.slice bl ai.length bq] ?_; (with_reducible refine (qAI.calls _ _ ai aS al _ ?side1 ?side2 A6.o).mono ?_); (case side1 => exact (Kd.R_reads' aT.o).2.2); (case side2 => exact (Kd.R_reads' aT.o).2.1); rintro e av ⟨cH, rfl, a5, hb⟩; refine ⟨_, rfl, ?_⟩; have n_ := a2 (Kd.R_below aE.o hb) (a2 (Kd.R_below aI.o hb) (a2 (Kd.R_lower a5 (qAT HK.o)) (a2 (qAe.below aL.o hb) (a2 (qAz aA.o hb) (a2 (qAz aB.o hb) (a2 (qAd.trans HK.o (qAd.of_below hb g none) (.inl rfl)) (am (qAo HB.o hb)))))))); clear aE aI aT aL aA aB HK HB; obtain ⟨aE, aI, a4, aL, aA, aB, HK, HB⟩ := n_; obtain ⟨ae, ag, bz⟩ := Kd.R_slice a4.o; subst bz; have bF : av.cell? ⟨aC, 0, none⟩ = some (.slice aV aH.length aZ) := (qAb aB.o 0).trans rfl; have bG : av.cell? ⟨aC, 1, none⟩ = some (.int .i64 (wrap64 (aK))) := (qAb aB.o 1).trans rfl; have bH : av.cell? ⟨aC, 2, none⟩ = some (.slice a7 aQ.length a9) := (qAb aB.o 2).trans rfl; have bI : av.cell? ⟨aC, 3, none⟩ = some (.slice none 0 0) := (qAb aB.o 3).trans rfl; have b3 := qAc aB.o 3; have cO := aM.o; have cT := aX.o; have bJ : av.cell? ⟨aD, 0, none⟩ = some (.slice none 0 0) := (qAb aA.o 0).trans rfl; have bK : av.cell? ⟨aD, 1, none⟩ = some (.int .i64 0) := (qAb aA.o 1).trans rfl; have bL : av.cell? ⟨aD, 2, none⟩ = some (.slice none 0 0) := (qAb aA.o 2).trans rfl; have bM : av.cell? ⟨aD, 3, none⟩ = some (.slice none 0 0) := (qAb aA.o 3).trans rfl; have b4 := qAc aA.o 0; have b5 := qAc aA.o 1; have b6 := qAc aA.o 2; have b7 := qAc aA.o 3))
  refine bodyPost_ret (results_cell_row rfl _ _ aD 77 #[.slice aV aH.length aZ, .int .i64 (wrap64 (aK)), .slice a7 aQ.length a9, .slice ae aS.length ag] (0, 0) _ rfl (by refine qAt (cs := #[.slice aV aH.length aZ, .int .i64 (wrap64 (aK)), .slice a7 aQ.length a9, .slice none 0 0]) ?_ 3 _ rfl; refine qAt (cs := #[.slice aV aH.length aZ, .int .i64 (wrap64 (aK)), .slice none 0 0, .slice none 0 0]) ?_ 2 _ rfl; refine qAt (cs := #[.slice aV aH.length aZ, .int .i64 0, .slice none 0 0, .slice none 0 0]) ?_ 1 _ rfl; refine qAt (cs := #[.slice none 0 0, .int .i64 0, .slice none 0 0, .slice none 0 0]) ?_ 0 _ rfl; refine qA4 ?_ aF.o _; exact aA.o) Try.underlying77 rfl (by kernel_rfl)) rfl ?_
  exact ⟨_, _, _, by rfl, by exact Kd.R_mono (Kd.R_far (p := ⟨aD, 3, none⟩) (Kd.R_far (p := ⟨aD, 2, none⟩) (Kd.R_far (p := ⟨aD, 1, none⟩) (Kd.R_far (p := ⟨aD, 0, none⟩) (Kd.R_far (p := ⟨aC, 3, none⟩) (Kd.R_types (Kd.R_types aE.o aB.o (by decide)) aA.o (by decide)) (fun _ hk => hk.1.2) (.slice ae aS.length ag)) (fun _ hk => hk.2) (.slice aV aH.length aZ)) (fun _ hk => hk.2) (.int .i64 (wrap64 (aK)))) (fun _ hk => hk.2) (.slice a7 aQ.length a9)) (fun _ hk => hk.2) (.slice ae aS.length ag)) (fun _ hk => hk.1.1.2), by exact Kd.R_mono (Kd.R_far (p := ⟨aD, 3, none⟩) (Kd.R_far (p := ⟨aD, 2, none⟩) (Kd.R_far (p := ⟨aD, 1, none⟩) (Kd.R_far (p := ⟨aD, 0, none⟩) (Kd.R_far (p := ⟨aC, 3, none⟩) (Kd.R_types (Kd.R_types aI.o aB.o (by decide)) aA.o (by decide)) (fun _ hk => hk.1.2) (.slice ae aS.length ag)) (fun _ hk => hk.2) (.slice aV aH.length aZ)) (fun _ hk => hk.2) (.int .i64 (wrap64 (aK)))) (fun _ hk => hk.2) (.slice a7 aQ.length a9)) (fun _ hk => hk.2) (.slice ae aS.length ag)) (fun _ hk => hk.1.1.2), by exact Kd.R_mono (Kd.R_far (p := ⟨aD, 3, none⟩) (Kd.R_far (p := ⟨aD, 2, none⟩) (Kd.R_far (p := ⟨aD, 1, none⟩) (Kd.R_far (p := ⟨aD, 0, none⟩) (Kd.R_far (p := ⟨aC, 3, none⟩) (Kd.R_types (Kd.R_types a4.o aB.o (by decide)) aA.o (by decide)) (fun _ hk => hk.1.2) (.slice ae aS.length ag)) (fun _ hk => hk.2) (.slice aV aH.length aZ)) (fun _ hk => hk.2) (.int .i64 (wrap64 (aK)))) (fun _ hk => hk.2) (.slice a7 aQ.length a9)) (fun _ hk => hk.2) (.slice ae aS.length ag)) (fun _ hk => trivial), by repeat (with_reducible first | exact aL.o | refine qAe.far ?_ aX.o (by (with_reducible repeat (apply TyB.set)); exact TyB.of aA.o) (by decide) _ | refine qAe.far ?_ aO.o (by exact TyB.of aB.o) (by decide) _), by repeat (with_reducible first | exact HB.o | refine qAq ?_ an.o | refine qAq ?_ ad.o), by repeat (with_reducible first | exact HK.o | refine qBL ?_ ao.o _ | refine qBL ?_ a6.o _)⟩
 ·rw [if_neg c7] at H
  have bp : (al != 0) = true := bne_iff_ne.mpr c7
  replace H := bm H
  obtain ⟨⟨ay, az⟩, ax, H⟩ := H
  replace H : (some (aH, wrap64 (aK), aQ, aS, ay, az)) = some (r1, r2, r3, r4, r5, r6) := H
  have cX := am ax
  clear ax
  simp only [Option.some.injEq, Prod.mk.injEq] at H
  obtain ⟨rfl, rfl, rfl, rfl, rfl, rfl⟩ := H
  go_enter Try.func26, Try.ntmps26
  go_wp2_with (first | ((with_reducible refine qAC (N := 2) rfl ?_); refine bx 2 #[.slice none 0 0, .int .i64 0, .slice none 0 0, .slice none 0 0] 77 ?_; intro aD hg c1 hbox hb; have n_ := a2 (qAe.below aL.o hb) (a2 (qAd.trans HK.o (qAd.of_below hb g none) (.inl rfl)) (a2 (qAo HB.o hb) (a2 (hbox) (a2 (by rw [hg]; exact (qAT HK.o) : w.heap.size ≤ aD) (a2 (Nat.le_trans bA.o (by rw [hg]; exact (qAT HK.o) : w.heap.size ≤ aD) : w0.heap.size ≤ aD) (a2 (by rw [hg]; exact Nat.ne_of_lt (qAe.lt aL.o) : g ≠ aD) (am (by rw [hg]; exact Nat.ne_of_gt (qAe.lt aL.o) : aD ≠ g)))))))); clear aL HK HB; obtain ⟨aL, HK, HB, aA, ao, an, aX, aM⟩ := n_; clear hb hbox hg) | ((with_reducible refine qAj (f := 76) rfl ?_); refine gL 7 Try.func76 #[.pointer (some ⟨g, 0, none⟩)] ?_; (with_reducible refine (qAr.calls k g s0_0 s0_1 s0_2 aH ap aq w0 _ ?side1 ?side2 A2.o).mono ?_); (case side1 => exact aL.o); (case side2 => exact HB.o); rintro e ca ⟨cF, rfl, a5, hi, hb, hk⟩; refine ⟨_, rfl, ?_⟩; have n_ := a2 (qAd.blk hk aA.o aM.o (by simp)) (a2 (Kd.R_lower a5 (qAT HK.o)) (a2 (qAd.trans HK.o hk (.inl rfl)) (a2 (hb) (am (hi))))); clear aA HK HB aL; obtain ⟨aA, aE, HK, HB, aL⟩ := n_) | ((with_reducible refine qAj (f := 20) rfl ?_); refine gL 9 Try.func20 #[.pointer (some ⟨g, 0, none⟩)] ?_; (with_reducible refine (qAg.calls g s0_0 ap aq aK ar au w0 _ ?side1 ?side2 A3.o).mono ?_); (case side1 => exact aL.o); (case side2 => exact HB.o); rintro e cc ⟨rfl, hi, hb, hk⟩; refine ⟨_, rfl, ?_⟩; have n_ := a2 (qAd.blk hk aA.o aM.o (by simp)) (a2 (Kd.R_kp (qAe.apart aL.o aE.o (by decide)) hk) (a2 (qAd.trans HK.o hk (.inl rfl)) (a2 (hb) (am (hi))))); clear aA aE HK HB aL; obtain ⟨aA, aE, HK, HB, aL⟩ := n_; obtain ⟨aW, a3, cA⟩ := Kd.R_slice aE.o; subst cA) | ((with_reducible refine qAj (f := 76) rfl ?_); refine gL 13 Try.func76 #[.pointer (some ⟨g, 0, none⟩)] ?_; (with_reducible refine (qAr.calls k g s0_0 ar au aQ ab ac w0 _ ?side1 ?side2 A4.o).mono ?_); (case side1 => exact aL.o); (case side2 => exact HB.o); rintro e cd ⟨cG, rfl, a5, hi, hb, hk⟩; refine ⟨_, rfl, ?_⟩; have n_ := a2 (qAd.blk hk aA.o aM.o (by simp)) (a2 (Kd.R_mono (Kd.R_told (Kd.R_oldK (qAe.apart aL.o aE.o (by decide)) hk) (Kd.R_base a5)) (fun _ h_ => h_.1)) (a2 (Kd.R_lower (Kd.R_new' a5 (Kd.R_lt aE.o)) (qAT HK.o)) (a2 (qAd.trans HK.o hk (.inl rfl)) (a2 (hb) (am (hi)))))); clear aA aE HK HB aL; obtain ⟨aA, aE, aI, HK, HB, aL⟩ := n_; obtain ⟨a8, aa, cB⟩ := Kd.R_slice aI.o; subst cB) | ((with_reducible refine qAC (N := 3) rfl ?_); refine bx 3 #[.slice none 0 0, .int .i64 0, .slice none 0 0, .slice none 0 0] 77 ?_; intro aC hg bk hbox hb; have n_ := a2 (Kd.R_below aE.o hb) (a2 (Kd.R_below aI.o hb) (a2 (qAe.below aL.o hb) (a2 (qAz aA.o hb) (a2 (qAd.trans HK.o (qAd.of_below hb g none) (.inl rfl)) (a2 (qAo HB.o hb) (a2 (hbox) (a2 (by rw [hg]; exact (qAT HK.o) : w.heap.size ≤ aC) (a2 (Nat.le_trans bA.o (by rw [hg]; exact (qAT HK.o) : w.heap.size ≤ aC) : w0.heap.size ≤ aC) (a2 (by rw [hg]; exact Nat.ne_of_lt (qAO aA.o) : aD ≠ aC) (a2 (by rw [hg]; exact Nat.ne_of_lt (qAe.lt aL.o) : g ≠ aC) (am (by rw [hg]; exact Nat.ne_of_gt (qAe.lt aL.o) : aC ≠ g)))))))))))); clear aE aI aL aA HK HB; obtain ⟨aE, aI, aL, aA, HK, HB, aB, a6, ad, aF, aO, aU⟩ := n_; clear hb hbox hg; have cU := aF.o; have cP := aU.o; have cV := aO.o; have bN : bk.cell? ⟨aC, 0, none⟩ = some (.slice none 0 0) := (qAb aB.o 0).trans rfl; have bO : bk.cell? ⟨aC, 1, none⟩ = some (.int .i64 0) := (qAb aB.o 1).trans rfl; have bP : bk.cell? ⟨aC, 2, none⟩ = some (.slice none 0 0) := (qAb aB.o 2).trans rfl; have bQ : bk.cell? ⟨aC, 3, none⟩ = some (.slice none 0 0) := (qAb aB.o 3).trans rfl; have b8 := qAc aB.o 0; have b9 := qAc aB.o 1; have ba := qAc aB.o 2; have bb := qAc aB.o 3) | ((with_reducible refine qAj (f := 52) rfl ?_); refine gL 17 Try.func52 #[.pointer (some ⟨g, 0, none⟩), .int .i64 16384] ?_; (with_reducible refine (qAs.calls g s0_0 ab ac 16384 ai ak aj w0 _ ?side1 ?side2 A5.o).mono ?_); (case side1 => repeat (with_reducible first | exact aL.o | refine qAe.far ?_ aO.o (by (with_reducible repeat (apply TyB.set)); exact TyB.of aB.o) (by decide) _)); (case side2 => repeat (with_reducible first | exact HB.o | refine qAq ?_ ad.o)); rintro e ce ⟨cE, rfl, a5, hi, hb, hk⟩; refine ⟨_, rfl, ?_⟩; have n_ := a2 (qAd.blk hk (g' := aD) (o := .cells #[.slice none 0 0, .int .i64 0, .slice none 0 0, .slice none 0 0] 77 (0, 0)) (by refine qA4 ?_ aF.o _; refine qA4 ?_ aF.o _; refine qA4 ?_ aF.o _; refine qA4 ?_ aF.o _; exact aA.o) aM.o (by simp)) (a2 (Kd.R_kp (qAe.apart (show qAe w0 _ g s0_0 ab ac from by repeat (with_reducible first | exact aL.o | refine qAe.far ?_ aO.o (by (with_reducible repeat (apply TyB.set)); exact TyB.of aB.o) (by decide) _)) (by exact (Kd.R_mono (Kd.R_far (p := ⟨aC, 3, none⟩) (Kd.R_far (p := ⟨aC, 2, none⟩) (Kd.R_far (p := ⟨aC, 1, none⟩) (Kd.R_far (p := ⟨aC, 0, none⟩) (Kd.R_types aE.o aB.o (by decide)) (fun _ hk => hk.2) (.slice aW aH.length a3)) (fun _ hk => hk.2) (.int .i64 (wrap64 (aK)))) (fun _ hk => hk.2) (.slice a8 aQ.length aa)) (fun _ hk => hk.2) (.slice none 0 0)) (fun _ h_ => h_.1))) (by decide)) hk) (a2 (Kd.R_kp (qAe.apart (show qAe w0 _ g s0_0 ab ac from by repeat (with_reducible first | exact aL.o | refine qAe.far ?_ aO.o (by (with_reducible repeat (apply TyB.set)); exact TyB.of aB.o) (by decide) _)) (by exact (Kd.R_mono (Kd.R_far (p := ⟨aC, 3, none⟩) (Kd.R_far (p := ⟨aC, 2, none⟩) (Kd.R_far (p := ⟨aC, 1, none⟩) (Kd.R_far (p := ⟨aC, 0, none⟩) (Kd.R_types aI.o aB.o (by decide)) (fun _ hk => hk.2) (.slice aW aH.length a3)) (fun _ hk => hk.2) (.int .i64 (wrap64 (aK)))) (fun _ hk => hk.2) (.slice a8 aQ.length aa)) (fun _ hk => hk.2) (.slice none 0 0)) (fun _ h_ => h_.1))) (by decide)) hk) (a2 (qAd.blk hk (g' := aC) (o := .cells #[.slice aW aH.length a3, .int .i64 (wrap64 (aK)), .slice a8 aQ.length aa, .slice none 0 0] 77 (0, 0)) (by refine qAt (cs := #[.slice aW aH.length a3, .int .i64 (wrap64 (aK)), .slice a8 aQ.length aa, .slice none 0 0]) ?_ 3 _ rfl; refine qAt (cs := #[.slice aW aH.length a3, .int .i64 (wrap64 (aK)), .slice none 0 0, .slice none 0 0]) ?_ 2 _ rfl; refine qAt (cs := #[.slice aW aH.length a3, .int .i64 0, .slice none 0 0, .slice none 0 0]) ?_ 1 _ rfl; refine qAt (cs := #[.slice none 0 0, .int .i64 0, .slice none 0 0, .slice none 0 0]) ?_ 0 _ rfl; exact aB.o) aU.o (by simp)) (a2 (Kd.R_lower a5 (qAT (w := w) (g := g) (row := none) (by repeat (with_reducible first | exact HK.o | refine qBL ?_ a6.o _)))) (a2 (qAd.trans (by repeat (with_reducible first | exact HK.o | refine qBL ?_ a6.o _)) hk (.inl rfl)) (a2 (hb) (am (hi)))))))); clear aA aE aI aB HK HB aL; obtain ⟨aA, aE, aI, aB, aT, HK, HB, aL⟩ := n_; obtain ⟨bo, br, cC⟩ := Kd.R_slice aT.o; subst cC) | ((with_reducible refine qAj (f := 51) rfl ?_); refine gL 18 Try.func51 #[.slice bo ai.length br] ?_; (with_reducible refine (qAI.calls _ _ ai aS al _ ?side1 ?side2 A6.o).mono ?_); (case side1 => exact (Kd.R_reads' aT.o).2.2); (case side2 => exact (Kd.R_reads' aT.o).2.1); rintro e cf ⟨cH, rfl, a5, hb⟩; refine ⟨_, rfl, ?_⟩; have n_ := a2 (Kd.R_below aE.o hb) (a2 (Kd.R_below aI.o hb) (a2 (Kd.R_below aT.o hb) (a2 (Kd.R_lower a5 (qAT HK.o)) (a2 (qAe.below aL.o hb) (a2 (qAz aA.o hb) (a2 (qAz aB.o hb) (a2 (qAd.trans HK.o (qAd.of_below hb g none) (.inl rfl)) (am (qAo HB.o hb))))))))); clear aE aI aT aL aA aB HK HB; obtain ⟨aE, aI, aT, a4, aL, aA, aB, HK, HB⟩ := n_) | ((with_reducible refine qAj (f := 21) rfl ?_); refine gL 24 Try.func21 #[.pointer (some ⟨g, 0, none⟩), .int .i64 52] ?_; (with_reducible refine (qAy.calls g s0_0 ak aj 52 ay az w0 _ ?side1 ?side2 cX.o).mono ?_); (case side1 => exact aL.o); (case side2 => exact HB.o); rintro e aw ⟨rfl, hi, hb, hk⟩; refine ⟨_, rfl, ?_⟩; have n_ := a2 (qAd.blk hk aA.o aM.o (by simp)) (a2 (Kd.R_kp (qAe.apart aL.o aE.o (by decide)) hk) (a2 (Kd.R_kp (qAe.apart aL.o aI.o (by decide)) hk) (a2 (qAd.blk hk aB.o aU.o (by simp)) (a2 (Kd.R_kp (qAe.apart aL.o a4.o (by decide)) hk) (a2 (qAd.trans HK.o hk (.inl rfl)) (a2 (hb) (am (hi)))))))); clear aA aE aI aB aT a4 HK HB aL; obtain ⟨aA, aE, aI, aB, a4, HK, HB, aL⟩ := n_; obtain ⟨af, ah, cD⟩ := Kd.R_slice a4.o; subst cD; have bR : aw.cell? ⟨aC, 0, none⟩ = some (.slice aW aH.length a3) := (qAb aB.o 0).trans rfl; have bS : aw.cell? ⟨aC, 1, none⟩ = some (.int .i64 (wrap64 (aK))) := (qAb aB.o 1).trans rfl; have bT : aw.cell? ⟨aC, 2, none⟩ = some (.slice a8 aQ.length aa) := (qAb aB.o 2).trans rfl; have bU : aw.cell? ⟨aC, 3, none⟩ = some (.slice none 0 0) := (qAb aB.o 3).trans rfl; have bc := qAc aB.o 3; have cQ := aM.o; have cW := aX.o; have bV : aw.cell? ⟨aD, 0, none⟩ = some (.slice none 0 0) := (qAb aA.o 0).trans rfl; have bW : aw.cell? ⟨aD, 1, none⟩ = some (.int .i64 0) := (qAb aA.o 1).trans rfl; have bX : aw.cell? ⟨aD, 2, none⟩ = some (.slice none 0 0) := (qAb aA.o 2).trans rfl; have bY : aw.cell? ⟨aD, 3, none⟩ = some (.slice none 0 0) := (qAb aA.o 3).trans rfl; have bd := qAc aA.o 0; have bg := qAc aA.o 1; have bh := qAc aA.o 2; have bi := qAc aA.o 3))
  refine bodyPost_ret (results_cell_row rfl _ _ aD 77 #[.slice aW aH.length a3, .int .i64 (wrap64 (aK)), .slice a8 aQ.length aa, .slice af aS.length ah] (0, 0) _ rfl (by refine qAt (cs := #[.slice aW aH.length a3, .int .i64 (wrap64 (aK)), .slice a8 aQ.length aa, .slice none 0 0]) ?_ 3 _ rfl; refine qAt (cs := #[.slice aW aH.length a3, .int .i64 (wrap64 (aK)), .slice none 0 0, .slice none 0 0]) ?_ 2 _ rfl; refine qAt (cs := #[.slice aW aH.length a3, .int .i64 0, .slice none 0 0, .slice none 0 0]) ?_ 1 _ rfl; refine qAt (cs := #[.slice none 0 0, .int .i64 0, .slice none 0 0, .slice none 0 0]) ?_ 0 _ rfl; refine qA4 ?_ aF.o _; exact aA.o) Try.underlying77 rfl (by kernel_rfl)) rfl ?_
  exact ⟨_, _, _, by rfl, by exact Kd.R_mono (Kd.R_far (p := ⟨aD, 3, none⟩) (Kd.R_far (p := ⟨aD, 2, none⟩) (Kd.R_far (p := ⟨aD, 1, none⟩) (Kd.R_far (p := ⟨aD, 0, none⟩) (Kd.R_far (p := ⟨aC, 3, none⟩) (Kd.R_types (Kd.R_types aE.o aB.o (by decide)) aA.o (by decide)) (fun _ hk => hk.1.2) (.slice af aS.length ah)) (fun _ hk => hk.2) (.slice aW aH.length a3)) (fun _ hk => hk.2) (.int .i64 (wrap64 (aK)))) (fun _ hk => hk.2) (.slice a8 aQ.length aa)) (fun _ hk => hk.2) (.slice af aS.length ah)) (fun _ hk => hk.1.1.2), by exact Kd.R_mono (Kd.R_far (p := ⟨aD, 3, none⟩) (Kd.R_far (p := ⟨aD, 2, none⟩) (Kd.R_far (p := ⟨aD, 1, none⟩) (Kd.R_far (p := ⟨aD, 0, none⟩) (Kd.R_far (p := ⟨aC, 3, none⟩) (Kd.R_types (Kd.R_types aI.o aB.o (by decide)) aA.o (by decide)) (fun _ hk => hk.1.2) (.slice af aS.length ah)) (fun _ hk => hk.2) (.slice aW aH.length a3)) (fun _ hk => hk.2) (.int .i64 (wrap64 (aK)))) (fun _ hk => hk.2) (.slice a8 aQ.length aa)) (fun _ hk => hk.2) (.slice af aS.length ah)) (fun _ hk => hk.1.1.2), by exact Kd.R_mono (Kd.R_far (p := ⟨aD, 3, none⟩) (Kd.R_far (p := ⟨aD, 2, none⟩) (Kd.R_far (p := ⟨aD, 1, none⟩) (Kd.R_far (p := ⟨aD, 0, none⟩) (Kd.R_far (p := ⟨aC, 3, none⟩) (Kd.R_types (Kd.R_types a4.o aB.o (by decide)) aA.o (by decide)) (fun _ hk => hk.1.2) (.slice af aS.length ah)) (fun _ hk => hk.2) (.slice aW aH.length a3)) (fun _ hk => hk.2) (.int .i64 (wrap64 (aK)))) (fun _ hk => hk.2) (.slice a8 aQ.length aa)) (fun _ hk => hk.2) (.slice af aS.length ah)) (fun _ hk => trivial), by repeat (with_reducible first | exact aL.o | refine qAe.far ?_ aX.o (by (with_reducible repeat (apply TyB.set)); exact TyB.of aA.o) (by decide) _ | refine qAe.far ?_ aO.o (by exact TyB.of aB.o) (by decide) _), by repeat (with_reducible first | exact HB.o | refine qAq ?_ an.o | refine qAq ?_ ad.o), by repeat (with_reducible first | exact HK.o | refine qBL ?_ ao.o _ | refine qBL ?_ a6.o _)⟩
def qAA.f (s0_0 : List Int) (s0_1 : Int) (s0_2 : Int) : Option (Int × Int × Int) := (qAL.f s0_0 s0_1 s0_2).bind fun aA => (if aA.1 > 0 then (some (41, aA.2.1, aA.2.2)) else ((qAv.f s0_0 aA.2.1 aA.2.2).bind fun aB => (some (aB.1, aB.2.1, aB.2.2))))
theorem qAA.calls (g : Nat) (s0_0 : List Int) (s0_1 : Int) (s0_2 : Int) (r1 : Int) (r2 : Int) (r3 : Int) (w0 w : World) (hI : qAe w0 w g s0_0 s0_1 s0_2) (hB : Below w0.heap.size w0 w) (h : qAA.f s0_0 s0_1 s0_2 = some (r1, r2, r3)) :
  Calls Try.prog 28 #[.pointer (some ⟨g, 0, none⟩)] w fun e w' => e = .returned (.int .i64 r1) ∧ qAe w0 w' g s0_0 r2 r3 ∧ Below w0.heap.size w0 w' ∧ qAd w w' g none := by
 have aD := am hI
 have HK := am (qAd.refl w g none)
 clear hI
 have HB := am hB
 clear hB
 have H : ((qAL.f s0_0 s0_1 s0_2).bind fun aA => (if aA.1 > 0 then (some (41, aA.2.1, aA.2.2)) else ((qAv.f s0_0 aA.2.1 aA.2.2).bind fun aB => (some (aB.1, aB.2.1, aB.2.2))))) = some (r1, r2, r3) := h
 clear h
 replace H := bm H
 obtain ⟨⟨aC, aE, aF⟩, aK, H⟩ := H
 replace H : (if aC > 0 then (some (41, aE, aF)) else ((qAv.f s0_0 aE aF).bind fun aB => (some (aB.1, aB.2.1, aB.2.2)))) = some (r1, r2, r3) := H
 have A2 := am aK
 clear aK
 by_cases c3 : aC > 0
 ·rw [if_pos c3] at H
  replace c3 := d1 c3
  simp only [Option.some.injEq, Prod.mk.injEq] at H
  obtain ⟨rfl, rfl, rfl⟩ := H
  go_enter Try.func28, Try.ntmps28
  go_wp2_with ((with_reducible refine qAj (f := 78) rfl ?_); refine gL 4 Try.func78 #[.pointer (some ⟨g, 0, none⟩)] ?_; (with_reducible refine (qAL.calls g s0_0 s0_1 s0_2 aC aE aF w0 _ ?side1 ?side2 A2.o).mono ?_); (case side1 => exact aD.o); (case side2 => exact HB.o); rintro e w4 ⟨rfl, hi, hb, hk⟩; refine ⟨_, rfl, ?_⟩; have n_ := a2 (qAd.trans HK.o hk (.inl rfl)) (a2 (hb) (am (hi))); clear HK HB aD; obtain ⟨HK, HB, aD⟩ := n_)
  go_ret
  exact ⟨by rfl, by exact aD.o, by exact HB.o, by exact HK.o⟩
 ·rw [if_neg c3] at H
  replace c3 := d0 c3
  replace H := bm H
  obtain ⟨⟨aG, aH, aI⟩, aL, H⟩ := H
  replace H : (some (aG, aH, aI)) = some (r1, r2, r3) := H
  have A5 := am aL
  clear aL
  simp only [Option.some.injEq, Prod.mk.injEq] at H
  obtain ⟨rfl, rfl, rfl⟩ := H
  go_enter Try.func28, Try.ntmps28
  go_wp2_with (first | ((with_reducible refine qAj (f := 78) rfl ?_); refine gL 4 Try.func78 #[.pointer (some ⟨g, 0, none⟩)] ?_; (with_reducible refine (qAL.calls g s0_0 s0_1 s0_2 aC aE aF w0 _ ?side1 ?side2 A2.o).mono ?_); (case side1 => exact aD.o); (case side2 => exact HB.o); rintro e w6 ⟨rfl, hi, hb, hk⟩; refine ⟨_, rfl, ?_⟩; have n_ := a2 (qAd.trans HK.o hk (.inl rfl)) (a2 (hb) (am (hi))); clear HK HB aD; obtain ⟨HK, HB, aD⟩ := n_) | ((with_reducible refine qAj (f := 24) rfl ?_); refine gL 7 Try.func24 #[.pointer (some ⟨g, 0, none⟩)] ?_; (with_reducible refine (qAv.calls g s0_0 aE aF aG aH aI w0 _ ?side1 ?side2 A5.o).mono ?_); (case side1 => exact aD.o); (case side2 => exact HB.o); rintro e w7 ⟨rfl, hi, hb, hk⟩; refine ⟨_, rfl, ?_⟩; have n_ := a2 (qAd.trans HK.o hk (.inl rfl)) (a2 (hb) (am (hi))); clear HK HB aD; obtain ⟨HK, HB, aD⟩ := n_))
  go_ret
  exact ⟨by rfl, by exact aD.o, by exact HB.o, by exact HK.o⟩
def qAl.l0 : Nat → List Int → List Int → Int → Int → Option (Bool)
 | 0, _, _, _, _ => none
 | k + 1, x0, x1, aU, aJ => if aJ < aU then (if 0 ≤ aJ then (if aJ < (x0.length : Int) then (if aJ < (x1.length : Int) then (if (rd x0 aJ) = (rd x1 aJ) then (qAl.l0 k x0 x1 aU (wrap64 (aJ + 1))) else (some false)) else (none)) else (none)) else (none)) else (some true)
def qAl.f (k : Nat) (l0 : List Int) (l1 : List Int) : Option (Bool) := if (l0.length : Int) = (l1.length : Int) then (qAl.l0 k l0 l1 (l0.length : Int) 0) else (some false)
theorem qAl.calls (k : Nat) (A0 : Option Addr) (c0 : Nat) (l0 : List Int) (A1 : Option Addr) (c1 : Nat) (l1 : List Int) (r : Bool) (w : World) (hr0 : Kd.C (Kd.int .u8) w A0 l0.length l0) (hc0 : l0.length ≤ c0) (hr1 : Kd.C (Kd.int .u8) w A1 l1.length l1) (hc1 : l1.length ≤ c1) (h : qAl.f k l0 l1 = some r) :
  Calls Try.prog 29 #[.slice A0 l0.length c0, .slice A1 l1.length c1] w fun e w' => e = .returned (.bool r) ∧ qAH w w' := by
 have aS := am hr0
 clear hr0 hc0
 have aT := am hr1
 clear hr1 hc1
 have H : (if (l0.length : Int) = (l1.length : Int) then (qAl.l0 k l0 l1 (l0.length : Int) 0) else (some false)) = some r := h
 clear h
 by_cases c3 : (l0.length : Int) = (l1.length : Int)
 ·rw [if_pos c3] at H
  have aN : ((l0.length : Int) == (l1.length : Int)) = true := beq_iff_eq.mpr c3
  have aM : ((l0.length : Int) != (l1.length : Int)) = false := bn c3
  have aO : (l0.length == l1.length) = true := by (simp at c3 ⊢; omega)
  clear c3
  have H' := am H
  clear H
  go_enter Try.func29, Try.ntmps29
  go_wp2
  repeat (go_quiet (fail))
  go_loopg [13] k (fun kq aY w' => ∃ (aA : Int), aY = .int .i64 aA ∧ qAf (qAl.l0 kq l0 l1 (l0.length : Int) aA = some r) ∧ qAf (kq ≤ k) ∧ qAH w w')
  case atStart => exact ⟨(0), (by rfl), H', ⟨Nat.le_refl _⟩, by exact qAH.refl _⟩
  case round =>
   clear H'
   obtain ⟨aA, rfl, HA, aR, ⟨m1, rfl⟩⟩ := hrel
   cases gk with
   | zero => exact absurd HA.o (by simp [qAl.l0])
   | succ k1 =>
    have H := HA.o
    clear HA
    simp only [qAl.l0] at H
    by_cases c4 : aA < (l0.length : Int)
    rotate_left
    ·rw [if_neg c4] at H
     replace c4 := d0 c4
     obtain rfl := Option.some.inj H
     go_wp2
     repeat (go_quiet (fail))
     go_ret
     exact ⟨by rfl, by repeat (first | exact qAH.refl _ | apply qAH.step)⟩
    rw [if_pos c4] at H
    replace c4 := d1 c4
    obtain ⟨c5, H⟩ := gd H
    replace c5 := d1 c5
    obtain ⟨c6, H⟩ := gd H
    replace c6 := d1 c6
    obtain ⟨c7, H⟩ := gd H
    replace c7 := d1 c7
    by_cases c8 : (rd l0 aA) = (rd l1 aA)
    rotate_left
    ·rw [if_neg c8] at H
     have aQ : ((rd l0 aA) != (rd l1 aA)) = true := bne_iff_ne.mpr c8
     obtain rfl := Option.some.inj H
     have aB : 0 ≤ aA := od (by assumption)
     have aC : aA < (l0.length : Int) := od (by assumption)
     obtain ⟨aK, aG, aE⟩ := Kd.at_int aS.o aA aB aC
     cases aG
     replace aB := eq_true aB
     replace aC := eq_true aC
     have aI : 0 ≤ aA := od (by assumption)
     have aD : aA < (l1.length : Int) := od (by assumption)
     obtain ⟨aL, aH, aF⟩ := Kd.at_int aT.o aA aI aD
     cases aH
     replace aD := eq_true aD
     go_wp2
     repeat (go_quiet (fail); try go_wp2)
     go_ret
     exact ⟨by rfl, by repeat (first | exact qAH.refl _ | apply qAH.step)⟩
    rw [if_pos c8] at H
    have aQ : ((rd l0 aA) != (rd l1 aA)) = false := bn c8
    clear c8
    have H' := am H
    clear H
    have aB : 0 ≤ aA := od (by assumption)
    have aC : aA < (l0.length : Int) := od (by assumption)
    obtain ⟨aK, aG, aE⟩ := Kd.at_int aS.o aA aB aC
    cases aG
    replace aB := eq_true aB
    replace aC := eq_true aC
    have aI : 0 ≤ aA := od (by assumption)
    have aD : aA < (l1.length : Int) := od (by assumption)
    obtain ⟨aL, aH, aF⟩ := Kd.at_int aT.o aA aI aD
    cases aH
    replace aD := eq_true aD
    go_wp2
    repeat (go_quiet (fail); try go_wp2)
    go_roundg k1
    case measure => have := aR.o; omega
    case rel => exact ⟨(wrap64 (aA + 1)), (by rfl), H', ⟨by have := aR.o; omega⟩, by repeat (first | exact qAH.refl _ | apply qAH.step)⟩
 ·rw [if_neg c3] at H
  have aM : ((l0.length : Int) != (l1.length : Int)) = true := bne_iff_ne.mpr c3
  obtain rfl := Option.some.inj H
  go_enter Try.func29, Try.ntmps29
  go_wp2
  repeat (go_quiet (fail))
  go_ret
  exact ⟨by rfl, by exact qAH.refl _⟩
end Q
end
end Go.Proofs.Ytfjpnjbinbhcfaa
