/- object.Pack and the document's Pack of any object, where what is read is of bulk at most 1048576: the same bytes and the same error. Part 3 of 8. -/
import Derived.Test.YtfjpnjbinbhcfaaGreatP2
import Derived.Lib.SliceRun
import Derived.Deep.RegionHeld3
import Derived.RegionDies
import Derived.Deep.AppendLies
set_option maxHeartbeats 8000000
set_option maxRecDepth 100000
set_option linter.unusedVariables false
set_option linter.unusedSimpArgs false
namespace Go.Proofs.YtfjpnjbinbhcfaaGreat
section
namespace Q
open Go.RowKit PA PC PB
theorem qDO (p q : Addr) (w : World) :
  CallsD Tryz.prog 155 #[.pointer (some p), .pointer (some q)] .returning w fun e u' w' => e = .returned (.tuple #[]) ∧ u' = .returning ∧ w' = w := by
 refine callsD_of_wpS Tryz.func155 rfl fun c₀ cs hu => ?_
 apply wpS_seq
 apply wpS_region
 simp [wpOpsS, go_sem, recoverD, hu, Tryz.ntmps155, Exit.thenS]
 refine wpS_of_wp (qCT fun Q' hQ => ?_)
 have HQ := am hQ
 clear hQ
 rw [show ((#[Value.pointer (some p), Value.pointer (some q)] : Array Value) ++ (Array.replicate 15 undef).setIfInBounds 4 Value.nilIface) = #[.pointer (some p), .pointer (some q), undef, undef, undef, undef, .nilIface, undef, undef, undef, undef, undef, undef, undef, undef, undef, undef] from rfl]
 go_wp2
 refine HQ.out _ _ _ ?_
 cases c₀
 simp_all [bodyPostS, results, Tryz.results155]
theorem qDu (bv g bq : Nat) (x : Value) (k : Int) (v : Value) (older : List PanicEntry) (w : World) (hp : w.cell? ⟨bv, 0, none⟩ = some x) (hz : w.frozen? ⟨bv, 0, none⟩ = false) (hq : w.cell? ⟨bq, 0, none⟩ = some (.pointer (some ⟨g, 0, none⟩))) (hg : w.heap[g]? = some (.cells #[v, .int .i64 0] 182 (0, 0))) (hpg : bv ≠ g) (hpq : bv ≠ bq) :
  CallsD Tryz.prog 155 #[.pointer (some ⟨bv, 0, none⟩), .pointer (some ⟨bq, 0, none⟩)] (.panicking ({ v := .iface 214 (.int .i64 k), recovered := false } :: older)) w fun e u' w' =>
   e = .returned (.tuple #[]) ∧ u' = .panicking ({ v := .iface 214 (.int .i64 k), recovered := true } :: older) ∧ w' = (w.setCell ⟨bv, 0, none⟩ (.int .i64 0)).setCell ⟨g, 1, none⟩ (.int .i64 k) := by
 have hta : ∀ (v : Value) (W : World), (Instr.typeAssert (.iface 214 v) 20 214 true).run Tryz.prog W = .ok (.tuple #[v, .bool true]) W := fun v W => by rfl
 have c1 : (w.setCell ⟨bv, 0, none⟩ (.int .i64 0)).cell? ⟨g, 1, none⟩ = some (.int .i64 0) := (World.cell?_setCell_other _ _ _ _ (by intro e; injection e with e; exact hpg e)).trans ((qAn hg 1).trans rfl)
 have f1 : (w.setCell ⟨bv, 0, none⟩ (.int .i64 0)).frozen? ⟨g, 1, none⟩ = false := (World.frozen?_setCell _ _ _ _).trans (qAx hg 1)
 have q1 : (w.setCell ⟨bv, 0, none⟩ (.int .i64 0)).cell? ⟨bq, 0, none⟩ = some (.pointer (some ⟨g, 0, none⟩)) := (World.cell?_setCell_other _ _ _ _ (by intro e; injection e with e; exact hpq e)).trans hq
 refine callsD_of_wpS Tryz.func155 rfl fun c₀ cs hu => ?_
 apply wpS_seq
 apply wpS_region
 simp [wpOpsS, go_sem, recoverD, hu, Tryz.ntmps155, Exit.thenS]
 refine wpS_of_wp (qCT fun Q' hQ => ?_)
 have HQ := am hQ
 clear hQ
 rw [show ((#[Value.pointer (some ⟨bv, 0, none⟩), Value.pointer (some ⟨bq, 0, none⟩)] : Array Value) ++ (Array.replicate 15 undef).setIfInBounds 4 (Value.iface 214 (.int .i64 k))) = #[.pointer (some ⟨bv, 0, none⟩), .pointer (some ⟨bq, 0, none⟩), undef, undef, undef, undef, .iface 214 (.int .i64 k), undef, undef, undef, undef, undef, undef, undef, undef, undef, undef] from rfl]
 go_wp2
 refine HQ.out _ _ _ ?_
 cases c₀
 simp_all [bodyPostS, results, Tryz.results155]
theorem qDd (F : Value) (g : Nat) (f0 : List Int) (p e : Int) (w0 w : World) (he : e ≠ 0) (hI : qAm w0 w g f0 p e) (hB : Below w0.heap.size w0 w) :
  Calls Tryz.prog 123 #[.pointer (some ⟨g, 0, none⟩), F] w fun e' w' => e' = .returned (.int .i64 0) ∧ qAm w0 w' g f0 p e ∧ Below w0.heap.size w0 w' ∧ qAh w w' g none := by
 have HI := am hI
 have HB := am hB
 have hgl := hI.lt
 obtain ⟨_, h1, h2, h3, v, hb, hr⟩ := hI
 have c1 : w.cell? ⟨g, 1, none⟩ = some (.int .i64 e) := (qAn hb 1).trans rfl
 have hb0 : (e != 0) = true := bne_iff_ne.mpr he
 clear hb hr hB h1 h2 h3 he
 go_enter_defers Tryz.func123, Tryz.ntmps123
 go_wp2
 exact ⟨.int .i64 0, by simp [results, Tryz.results123, go_sem], rfl, (HI.out.alloc _).alloc _, qA3 (qA3 HB.out _) _, qBE (qBE (qAh.refl _ _ _) _) _⟩
theorem catch_u64_idle (p q : Addr) (w : World) :
  CallsD Tryz.prog 156 #[.pointer (some p), .pointer (some q)] .returning w fun e u' w' => e = .returned (.tuple #[]) ∧ u' = .returning ∧ w' = w := by
 refine callsD_of_wpS Tryz.func156 rfl fun c₀ cs hu => ?_
 apply wpS_seq
 apply wpS_region
 simp [wpOpsS, go_sem, recoverD, hu, Tryz.ntmps156, Exit.thenS]
 refine wpS_of_wp (qCT fun Q' hQ => ?_)
 have HQ := am hQ
 clear hQ
 rw [show ((#[Value.pointer (some p), Value.pointer (some q)] : Array Value) ++ (Array.replicate 15 undef).setIfInBounds 4 Value.nilIface) = #[.pointer (some p), .pointer (some q), undef, undef, undef, undef, .nilIface, undef, undef, undef, undef, undef, undef, undef, undef, undef, undef] from rfl]
 go_wp2
 refine HQ.out _ _ _ ?_
 cases c₀
 simp_all [bodyPostS, results, Tryz.results156]
theorem qEQ (bv g bq : Nat) (x : Value) (k : Int) (v : Value) (older : List PanicEntry) (w : World) (hp : w.cell? ⟨bv, 0, none⟩ = some x) (hz : w.frozen? ⟨bv, 0, none⟩ = false) (hq : w.cell? ⟨bq, 0, none⟩ = some (.pointer (some ⟨g, 0, none⟩))) (hg : w.heap[g]? = some (.cells #[v, .int .i64 0] 182 (0, 0))) (hpg : bv ≠ g) (hpq : bv ≠ bq) :
  CallsD Tryz.prog 156 #[.pointer (some ⟨bv, 0, none⟩), .pointer (some ⟨bq, 0, none⟩)] (.panicking ({ v := .iface 214 (.int .i64 k), recovered := false } :: older)) w fun e u' w' =>
   e = .returned (.tuple #[]) ∧ u' = .panicking ({ v := .iface 214 (.int .i64 k), recovered := true } :: older) ∧ w' = (w.setCell ⟨bv, 0, none⟩ (.int .u64 0)).setCell ⟨g, 1, none⟩ (.int .i64 k) := by
 have hta : ∀ (v : Value) (W : World), (Instr.typeAssert (.iface 214 v) 20 214 true).run Tryz.prog W = .ok (.tuple #[v, .bool true]) W := fun v W => by rfl
 have c1 : (w.setCell ⟨bv, 0, none⟩ (.int .u64 0)).cell? ⟨g, 1, none⟩ = some (.int .i64 0) := (World.cell?_setCell_other _ _ _ _ (by intro e; injection e with e; exact hpg e)).trans ((qAn hg 1).trans rfl)
 have f1 : (w.setCell ⟨bv, 0, none⟩ (.int .u64 0)).frozen? ⟨g, 1, none⟩ = false := (World.frozen?_setCell _ _ _ _).trans (qAx hg 1)
 have q1 : (w.setCell ⟨bv, 0, none⟩ (.int .u64 0)).cell? ⟨bq, 0, none⟩ = some (.pointer (some ⟨g, 0, none⟩)) := (World.cell?_setCell_other _ _ _ _ (by intro e; injection e with e; exact hpq e)).trans hq
 refine callsD_of_wpS Tryz.func156 rfl fun c₀ cs hu => ?_
 apply wpS_seq
 apply wpS_region
 simp [wpOpsS, go_sem, recoverD, hu, Tryz.ntmps156, Exit.thenS]
 refine wpS_of_wp (qCT fun Q' hQ => ?_)
 have HQ := am hQ
 clear hQ
 rw [show ((#[Value.pointer (some ⟨bv, 0, none⟩), Value.pointer (some ⟨bq, 0, none⟩)] : Array Value) ++ (Array.replicate 15 undef).setIfInBounds 4 (Value.iface 214 (.int .i64 k))) = #[.pointer (some ⟨bv, 0, none⟩), .pointer (some ⟨bq, 0, none⟩), undef, undef, undef, undef, .iface 214 (.int .i64 k), undef, undef, undef, undef, undef, undef, undef, undef, undef, undef] from rfl]
 go_wp2
 refine HQ.out _ _ _ ?_
 cases c₀
 simp_all [bodyPostS, results, Tryz.results156]
theorem qE4 (F : Value) (g : Nat) (f0 : List Int) (p e : Int) (w0 w : World) (he : e ≠ 0) (hI : qAm w0 w g f0 p e) (hB : Below w0.heap.size w0 w) :
  Calls Tryz.prog 126 #[.pointer (some ⟨g, 0, none⟩), F] w fun e' w' => e' = .returned (.int .u64 0) ∧ qAm w0 w' g f0 p e ∧ Below w0.heap.size w0 w' ∧ qAh w w' g none := by
 have HI := am hI
 have HB := am hB
 have hgl := hI.lt
 obtain ⟨_, h1, h2, h3, v, hb, hr⟩ := hI
 have c1 : w.cell? ⟨g, 1, none⟩ = some (.int .i64 e) := (qAn hb 1).trans rfl
 have hb0 : (e != 0) = true := bne_iff_ne.mpr he
 clear hb hr hB h1 h2 h3 he
 go_enter_defers Tryz.func126, Tryz.ntmps126
 go_wp2
 exact ⟨.int .u64 0, by simp [results, Tryz.results126, go_sem], rfl, (HI.out.alloc _).alloc _, qA3 (qA3 HB.out _) _, qBE (qBE (qAh.refl _ _ _) _) _⟩
theorem short_fn_ok (b1 g : Nat) (f0 : List Int) (p e : Int) (w0 w : World) (hq : w.cell? ⟨b1, 0, none⟩ = some (.pointer (some ⟨g, 0, none⟩))) (hlt : p + 2 ≤ f0.length) (hI : qAm w0 w g f0 p e) (hB : Below w0.heap.size w0 w) :
  Calls Tryz.prog 130 #[.pointer (some ⟨b1, 0, none⟩)] w fun e' w' => e' = .returned (.int .i64 (wrap64 (numF ((f0.drop p.toNat).take 2)))) ∧ qAm w0 w' g f0 (p + 2) e ∧ Below w0.heap.size w0 w' ∧ qAh w w' g none := by
 have HI := am hI
 have HB := am hB
 have h0 := hI.2.1
 clear hI hB
 have hl : ((f0.drop p.toNat).take 2).length = 2 := by rw [List.length_take, List.length_drop]; omega
 have HL := am hl
 clear hl
 go_enter Tryz.func130, Tryz.ntmps130
 go_wp2_with (first | (go_at_call 122; refine (qCD g f0 p e 2 w0 w (by omega) (by omega) HI.out).mono ?_; rintro e' w' ⟨A, c, v, rfl, hc, hC, hi, hw⟩; have hk := hw ▸ qAh.set_ (qAh.refl w g none) 0 v; have HK := am hk; have HN := am hi; have HBN := am (hw ▸ qA1 (g := g) (j := 0) (v := v) HB.out HI.out.ge); have hnum := qCg A c ((f0.drop p.toNat).take 2) w' (by rw [HL.out]; exact hC) (by rw [HL.out]; exact hc) (by rw [HL.out]; decide); rw [HL.out] at hnum; have HNM := am hnum; clear hk hi hw hC hnum) | (go_at_call 128; refine HNM.out.mono ?_; rintro e' w'' ⟨rfl, hd⟩; obtain ⟨m, rfl⟩ := hd.out))
 go_ret
 exact ⟨rfl, HN.out.drewN m, qAl HBN.out m, qDK HK.out m⟩
theorem short_fn_bad (b1 g : Nat) (f0 : List Int) (p e : Int) (w0 w : World) (hq : w.cell? ⟨b1, 0, none⟩ = some (.pointer (some ⟨g, 0, none⟩))) (hlt : f0.length < p + 2) (hI : qAm w0 w g f0 p e) (hB : Below w0.heap.size w0 w) :
  Calls Tryz.prog 130 #[.pointer (some ⟨b1, 0, none⟩)] w fun e' w' => e' = .panicked [{ v := .iface 214 (.int .i64 40), recovered := false }] ∧ qAm w0 w' g f0 p e ∧ Below w0.heap.size w0 w' ∧ qAh w w' g none := by
 have HI := am hI
 have HB := am hB
 clear hI hB
 go_enter Tryz.func130, Tryz.ntmps130
 go_wp2_with (go_at_call 122; refine (qCy g f0 p e 2 w0 w (by omega) HI.out).mono ?_; rintro e' w' ⟨rfl, rfl⟩)
 exact ⟨rfl, rfl, HI.out, HB.out, qAh.refl _ _ _⟩
theorem qET (b1 g : Nat) (f0 : List Int) (p p' : Int) (x : Int) (w0 w : World) (hI : qAm w0 w g f0 p 0) (hB : Below w0.heap.size w0 w)
  (hfn : ∀ W, Below w.heap.size w W → qAm w0 W g f0 p 0 → Below w0.heap.size w0 W → Calls Tryz.prog 130 #[.pointer (some ⟨b1, 0, none⟩)] W fun e w' => e = .returned (.int .i64 x) ∧ qAm w0 w' g f0 p' 0 ∧ Below w0.heap.size w0 w' ∧ qAh W w' g none) :
  Calls Tryz.prog 123 #[.pointer (some ⟨g, 0, none⟩), .func (.func 130) #[] #[.pointer (some ⟨b1, 0, none⟩)]] w fun e w' => e = .returned (.int .i64 x) ∧ qAm w0 w' g f0 p' 0 ∧ Below w0.heap.size w0 w' ∧ qAh w w' g none := by
 have HI := am hI
 have HB := am hB
 have HFN := am hfn
 have hgl := hI.lt
 obtain ⟨_, h1, h2, h3, v, hb, hr⟩ := hI
 have c1 : w.cell? ⟨g, 1, none⟩ = some (.int .i64 0) := (qAn hb 1).trans rfl
 clear hb hr hB h1 h2 h3 hfn
 go_enter_defers Tryz.func123, Tryz.ntmps123
 have HB3 := am (((Below.refl w.heap.size w).alloc (Nat.le_refl _) (.cells #[.pointer (some ⟨g, 0, none⟩)] 124)).alloc (by simp) (.cells #[.int .i64 0] 3))
 have H3 : qAa (((w.alloc (.cells #[.pointer (some ⟨g, 0, none⟩)] 124)).alloc (.cells #[.int .i64 0] 3)).heap[w.heap.size + 1]? = some (.cells #[.int .i64 0] 3 (0, 0))) := ⟨by simpa using heap_alloc_new (w.alloc (.cells #[.pointer (some ⟨g, 0, none⟩)] 124)) (.cells #[.int .i64 0] 3)⟩
 go_wp2_with (go_at_call 130; refine (HFN.out _ HB3.out ((HI.out.alloc _).alloc _) (qA3 (qA3 HB.out _) _)).mono ?_; rintro e w4 ⟨rfl, hi, hbw, hk⟩; have hv4 : w4.heap[w.heap.size + 1]? = some (.cells #[.int .i64 0] 3 (0, 0)) := (hk.2 _ (qBd H3.out) (by omega) (by simp)).trans H3.out; have v4 : w4.cell? ⟨w.heap.size + 1, 0, none⟩ = some (.int .i64 0) := (qAn hv4 0).trans rfl; have z4 := qAx hv4 0; have HI4 := am (hi.behind (p := ⟨w.heap.size + 1, 0, none⟩) (by show g < w.heap.size + 1; omega) (.int .i64 x)); have HK4 := am (qC0 (j := 0) HB3.out hk (Nat.le_succ _) (.int .i64 x)); have HV4 := am hv4; have HB4 := am (qA1 (g := w.heap.size + 1) (j := 0) (v := .int .i64 x) hbw (Nat.le_trans HB.out.size (Nat.le_succ _))); clear hi hk hv4 hbw)
 refine leaves_cons (f := 155) (args := #[.pointer (some ⟨w.heap.size + 1, 0, none⟩), .pointer (some ⟨w.heap.size, 0, none⟩)]) (by simp) (by simp [go_sem]) ?_
 refine (qDO _ _ _).mono ?_
 rintro e u' w'' ⟨rfl, rfl, rfl⟩
 have hvc : (w4.setCell ⟨w.heap.size + 1, 0, none⟩ (.int .i64 x)).heap[w.heap.size + 1]? = some (.cells #[.int .i64 x] 3 (0, 0)) := by simpa using qCm HV4.out 0 (.int .i64 x)
 have hres := (qAn hvc 0).trans rfl
 exact ⟨.int .i64 x, by simp [results, Tryz.results123, go_sem, hres], rfl, HI4.out, HB4.out, HK4.out⟩
theorem qE3 (b1 g : Nat) (f0 : List Int) (p p' : Int) (k : Int) (w0 w : World) (hI : qAm w0 w g f0 p 0) (hB : Below w0.heap.size w0 w)
  (hfn : ∀ W, Below w.heap.size w W → qAm w0 W g f0 p 0 → Below w0.heap.size w0 W → Calls Tryz.prog 130 #[.pointer (some ⟨b1, 0, none⟩)] W fun e w' => e = .panicked [{ v := .iface 214 (.int .i64 k), recovered := false }] ∧ qAm w0 w' g f0 p' 0 ∧ Below w0.heap.size w0 w' ∧ qAh W w' g none) :
  Calls Tryz.prog 123 #[.pointer (some ⟨g, 0, none⟩), .func (.func 130) #[] #[.pointer (some ⟨b1, 0, none⟩)]] w fun e w' => e = .returned (.int .i64 0) ∧ qAm w0 w' g f0 p' k ∧ Below w0.heap.size w0 w' ∧ qAh w w' g none := by
 have HI := am hI
 have HB := am hB
 have HFN := am hfn
 have hgl := hI.lt
 obtain ⟨_, h1, h2, h3, v, hb, hr⟩ := hI
 have c1 : w.cell? ⟨g, 1, none⟩ = some (.int .i64 0) := (qAn hb 1).trans rfl
 clear hb hr hB h1 h2 h3 hfn
 go_enter_defers Tryz.func123, Tryz.ntmps123
 have HB3 := am (((Below.refl w.heap.size w).alloc (Nat.le_refl _) (.cells #[.pointer (some ⟨g, 0, none⟩)] 124)).alloc (by simp) (.cells #[.int .i64 0] 3))
 have H2 : qAa (((w.alloc (.cells #[.pointer (some ⟨g, 0, none⟩)] 124)).alloc (.cells #[.int .i64 0] 3)).heap[w.heap.size]? = some (.cells #[.pointer (some ⟨g, 0, none⟩)] 124 (0, 0))) := ⟨qAW (heap_alloc_new w _) _⟩
 have H3 : qAa (((w.alloc (.cells #[.pointer (some ⟨g, 0, none⟩)] 124)).alloc (.cells #[.int .i64 0] 3)).heap[w.heap.size + 1]? = some (.cells #[.int .i64 0] 3 (0, 0))) := ⟨by simpa using heap_alloc_new (w.alloc (.cells #[.pointer (some ⟨g, 0, none⟩)] 124)) (.cells #[.int .i64 0] 3)⟩
 go_wp2_with (go_at_call 130; refine (HFN.out _ HB3.out ((HI.out.alloc _).alloc _) (qA3 (qA3 HB.out _) _)).mono ?_; rintro e w4 ⟨rfl, hi, hbw, hk⟩)
 refine leaves_cons (f := 155) (args := #[.pointer (some ⟨w.heap.size + 1, 0, none⟩), .pointer (some ⟨w.heap.size, 0, none⟩)]) (by simp) (by simp [go_sem]) ?_
 have hv4 : w4.heap[w.heap.size + 1]? = some (.cells #[.int .i64 0] 3 (0, 0)) := (hk.2 _ (qBd H3.out) (by omega) (by simp)).trans H3.out
 have hq4 : w4.heap[w.heap.size]? = some (.cells #[.pointer (some ⟨g, 0, none⟩)] 124 (0, 0)) := (hk.2 _ (qBd H2.out) (by omega) (by simp)).trans H2.out
 obtain ⟨_, _, _, _, v4, hg4, _⟩ := id hi
 refine (qDu (w.heap.size + 1) g w.heap.size (.int .i64 0) k v4 [] _ ((qAn hv4 0).trans rfl) (qAx hv4 0) ((qAn hq4 0).trans rfl) hg4 (by omega) (by omega)).mono ?_
 rintro e u' w'' ⟨rfl, rfl, rfl⟩
 have HI5 := am ((hi.behind (p := ⟨w.heap.size + 1, 0, none⟩) (by show g < w.heap.size + 1; omega) (.int .i64 0)).set_e k)
 have HB5 := am (qA1 (g := g) (j := 1) (v := .int .i64 k) (qA1 (g := w.heap.size + 1) (j := 0) (v := .int .i64 0) hbw (Nat.le_trans HB.out.size (Nat.le_succ _))) HI.out.ge)
 have HK5 := am (qAh.set_ (qC0 (j := 0) HB3.out hk (Nat.le_succ _) (.int .i64 0)) 1 (.int .i64 k))
 have hvc := qA2 (g := w.heap.size + 1) (p := ⟨g, 1, none⟩) (qCm hv4 0 (.int .i64 0)) (by show w.heap.size + 1 ≠ g; omega) (.int .i64 k)
 have hres := (qAn hvc 0).trans rfl
 clear hvc
 exact ⟨.int .i64 0, by simp [results, Tryz.results123, go_sem, hres], rfl, HI5.out, HB5.out, HK5.out⟩
theorem long_fn_ok (b1 g : Nat) (f0 : List Int) (p e : Int) (w0 w : World) (hq : w.cell? ⟨b1, 0, none⟩ = some (.pointer (some ⟨g, 0, none⟩))) (hlt : p + 8 ≤ f0.length) (hI : qAm w0 w g f0 p e) (hB : Below w0.heap.size w0 w) :
  Calls Tryz.prog 127 #[.pointer (some ⟨b1, 0, none⟩)] w fun e' w' => e' = .returned (.int .u64 (numF ((f0.drop p.toNat).take 8))) ∧ qAm w0 w' g f0 (p + 8) e ∧ Below w0.heap.size w0 w' ∧ qAh w w' g none := by
 have HI := am hI
 have HB := am hB
 have h0 := hI.2.1
 clear hI hB
 have hl : ((f0.drop p.toNat).take 8).length = 8 := by rw [List.length_take, List.length_drop]; omega
 have HL := am hl
 clear hl
 go_enter Tryz.func127, Tryz.ntmps127
 go_wp2_with (first | (go_at_call 122; refine (qCD g f0 p e 8 w0 w (by omega) (by omega) HI.out).mono ?_; rintro e' w' ⟨A, c, v, rfl, hc, hC, hi, hw⟩; have hk := hw ▸ qAh.set_ (qAh.refl w g none) 0 v; have HK := am hk; have HN := am hi; have HBN := am (hw ▸ qA1 (g := g) (j := 0) (v := v) HB.out HI.out.ge); have hnum := qCg A c ((f0.drop p.toNat).take 8) w' (by rw [HL.out]; exact hC) (by rw [HL.out]; exact hc) (by rw [HL.out]; decide); rw [HL.out] at hnum; have HNM := am hnum; clear hk hi hw hC hnum) | (go_at_call 128; refine HNM.out.mono ?_; rintro e' w'' ⟨rfl, hd⟩; obtain ⟨m, rfl⟩ := hd.out))
 go_ret
 exact ⟨rfl, HN.out.drewN m, qAl HBN.out m, qDK HK.out m⟩
theorem long_fn_bad (b1 g : Nat) (f0 : List Int) (p e : Int) (w0 w : World) (hq : w.cell? ⟨b1, 0, none⟩ = some (.pointer (some ⟨g, 0, none⟩))) (hlt : f0.length < p + 8) (hI : qAm w0 w g f0 p e) (hB : Below w0.heap.size w0 w) :
  Calls Tryz.prog 127 #[.pointer (some ⟨b1, 0, none⟩)] w fun e' w' => e' = .panicked [{ v := .iface 214 (.int .i64 40), recovered := false }] ∧ qAm w0 w' g f0 p e ∧ Below w0.heap.size w0 w' ∧ qAh w w' g none := by
 have HI := am hI
 have HB := am hB
 clear hI hB
 go_enter Tryz.func127, Tryz.ntmps127
 go_wp2_with (go_at_call 122; refine (qCy g f0 p e 8 w0 w (by omega) HI.out).mono ?_; rintro e' w' ⟨rfl, rfl⟩)
 exact ⟨rfl, rfl, HI.out, HB.out, qAh.refl _ _ _⟩
theorem qFq (b1 g : Nat) (f0 : List Int) (p p' : Int) (x : Int) (w0 w : World) (hI : qAm w0 w g f0 p 0) (hB : Below w0.heap.size w0 w)
  (hfn : ∀ W, Below w.heap.size w W → qAm w0 W g f0 p 0 → Below w0.heap.size w0 W → Calls Tryz.prog 127 #[.pointer (some ⟨b1, 0, none⟩)] W fun e w' => e = .returned (.int .u64 x) ∧ qAm w0 w' g f0 p' 0 ∧ Below w0.heap.size w0 w' ∧ qAh W w' g none) :
  Calls Tryz.prog 126 #[.pointer (some ⟨g, 0, none⟩), .func (.func 127) #[] #[.pointer (some ⟨b1, 0, none⟩)]] w fun e w' => e = .returned (.int .u64 x) ∧ qAm w0 w' g f0 p' 0 ∧ Below w0.heap.size w0 w' ∧ qAh w w' g none := by
 have HI := am hI
 have HB := am hB
 have HFN := am hfn
 have hgl := hI.lt
 obtain ⟨_, h1, h2, h3, v, hb, hr⟩ := hI
 have c1 : w.cell? ⟨g, 1, none⟩ = some (.int .i64 0) := (qAn hb 1).trans rfl
 clear hb hr hB h1 h2 h3 hfn
 go_enter_defers Tryz.func126, Tryz.ntmps126
 have HB3 := am (((Below.refl w.heap.size w).alloc (Nat.le_refl _) (.cells #[.pointer (some ⟨g, 0, none⟩)] 124)).alloc (by simp) (.cells #[.int .u64 0] 81))
 have H3 : qAa (((w.alloc (.cells #[.pointer (some ⟨g, 0, none⟩)] 124)).alloc (.cells #[.int .u64 0] 81)).heap[w.heap.size + 1]? = some (.cells #[.int .u64 0] 81 (0, 0))) := ⟨by simpa using heap_alloc_new (w.alloc (.cells #[.pointer (some ⟨g, 0, none⟩)] 124)) (.cells #[.int .u64 0] 81)⟩
 go_wp2_with (go_at_call 127; refine (HFN.out _ HB3.out ((HI.out.alloc _).alloc _) (qA3 (qA3 HB.out _) _)).mono ?_; rintro e w4 ⟨rfl, hi, hbw, hk⟩; have hv4 : w4.heap[w.heap.size + 1]? = some (.cells #[.int .u64 0] 81 (0, 0)) := (hk.2 _ (qBd H3.out) (by omega) (by simp)).trans H3.out; have v4 : w4.cell? ⟨w.heap.size + 1, 0, none⟩ = some (.int .u64 0) := (qAn hv4 0).trans rfl; have z4 := qAx hv4 0; have HI4 := am (hi.behind (p := ⟨w.heap.size + 1, 0, none⟩) (by show g < w.heap.size + 1; omega) (.int .u64 x)); have HK4 := am (qC0 (j := 0) HB3.out hk (Nat.le_succ _) (.int .u64 x)); have HV4 := am hv4; have HB4 := am (qA1 (g := w.heap.size + 1) (j := 0) (v := .int .u64 x) hbw (Nat.le_trans HB.out.size (Nat.le_succ _))); clear hi hk hv4 hbw)
 refine leaves_cons (f := 156) (args := #[.pointer (some ⟨w.heap.size + 1, 0, none⟩), .pointer (some ⟨w.heap.size, 0, none⟩)]) (by simp) (by simp [go_sem]) ?_
 refine (catch_u64_idle _ _ _).mono ?_
 rintro e u' w'' ⟨rfl, rfl, rfl⟩
 have hvc : (w4.setCell ⟨w.heap.size + 1, 0, none⟩ (.int .u64 x)).heap[w.heap.size + 1]? = some (.cells #[.int .u64 x] 81 (0, 0)) := by simpa using qCm HV4.out 0 (.int .u64 x)
 have hres := (qAn hvc 0).trans rfl
 exact ⟨.int .u64 x, by simp [results, Tryz.results126, go_sem, hres], rfl, HI4.out, HB4.out, HK4.out⟩
theorem qES (b1 g : Nat) (f0 : List Int) (p p' : Int) (k : Int) (w0 w : World) (hI : qAm w0 w g f0 p 0) (hB : Below w0.heap.size w0 w)
  (hfn : ∀ W, Below w.heap.size w W → qAm w0 W g f0 p 0 → Below w0.heap.size w0 W → Calls Tryz.prog 127 #[.pointer (some ⟨b1, 0, none⟩)] W fun e w' => e = .panicked [{ v := .iface 214 (.int .i64 k), recovered := false }] ∧ qAm w0 w' g f0 p' 0 ∧ Below w0.heap.size w0 w' ∧ qAh W w' g none) :
  Calls Tryz.prog 126 #[.pointer (some ⟨g, 0, none⟩), .func (.func 127) #[] #[.pointer (some ⟨b1, 0, none⟩)]] w fun e w' => e = .returned (.int .u64 0) ∧ qAm w0 w' g f0 p' k ∧ Below w0.heap.size w0 w' ∧ qAh w w' g none := by
 have HI := am hI
 have HB := am hB
 have HFN := am hfn
 have hgl := hI.lt
 obtain ⟨_, h1, h2, h3, v, hb, hr⟩ := hI
 have c1 : w.cell? ⟨g, 1, none⟩ = some (.int .i64 0) := (qAn hb 1).trans rfl
 clear hb hr hB h1 h2 h3 hfn
 go_enter_defers Tryz.func126, Tryz.ntmps126
 have HB3 := am (((Below.refl w.heap.size w).alloc (Nat.le_refl _) (.cells #[.pointer (some ⟨g, 0, none⟩)] 124)).alloc (by simp) (.cells #[.int .u64 0] 81))
 have H2 : qAa (((w.alloc (.cells #[.pointer (some ⟨g, 0, none⟩)] 124)).alloc (.cells #[.int .u64 0] 81)).heap[w.heap.size]? = some (.cells #[.pointer (some ⟨g, 0, none⟩)] 124 (0, 0))) := ⟨qAW (heap_alloc_new w _) _⟩
 have H3 : qAa (((w.alloc (.cells #[.pointer (some ⟨g, 0, none⟩)] 124)).alloc (.cells #[.int .u64 0] 81)).heap[w.heap.size + 1]? = some (.cells #[.int .u64 0] 81 (0, 0))) := ⟨by simpa using heap_alloc_new (w.alloc (.cells #[.pointer (some ⟨g, 0, none⟩)] 124)) (.cells #[.int .u64 0] 81)⟩
 go_wp2_with (go_at_call 127; refine (HFN.out _ HB3.out ((HI.out.alloc _).alloc _) (qA3 (qA3 HB.out _) _)).mono ?_; rintro e w4 ⟨rfl, hi, hbw, hk⟩)
 refine leaves_cons (f := 156) (args := #[.pointer (some ⟨w.heap.size + 1, 0, none⟩), .pointer (some ⟨w.heap.size, 0, none⟩)]) (by simp) (by simp [go_sem]) ?_
 have hv4 : w4.heap[w.heap.size + 1]? = some (.cells #[.int .u64 0] 81 (0, 0)) := (hk.2 _ (qBd H3.out) (by omega) (by simp)).trans H3.out
 have hq4 : w4.heap[w.heap.size]? = some (.cells #[.pointer (some ⟨g, 0, none⟩)] 124 (0, 0)) := (hk.2 _ (qBd H2.out) (by omega) (by simp)).trans H2.out
 obtain ⟨_, _, _, _, v4, hg4, _⟩ := id hi
 refine (qEQ (w.heap.size + 1) g w.heap.size (.int .u64 0) k v4 [] _ ((qAn hv4 0).trans rfl) (qAx hv4 0) ((qAn hq4 0).trans rfl) hg4 (by omega) (by omega)).mono ?_
 rintro e u' w'' ⟨rfl, rfl, rfl⟩
 have HI5 := am ((hi.behind (p := ⟨w.heap.size + 1, 0, none⟩) (by show g < w.heap.size + 1; omega) (.int .u64 0)).set_e k)
 have HB5 := am (qA1 (g := g) (j := 1) (v := .int .i64 k) (qA1 (g := w.heap.size + 1) (j := 0) (v := .int .u64 0) hbw (Nat.le_trans HB.out.size (Nat.le_succ _))) HI.out.ge)
 have HK5 := am (qAh.set_ (qC0 (j := 0) HB3.out hk (Nat.le_succ _) (.int .u64 0)) 1 (.int .i64 k))
 have hvc := qA2 (g := w.heap.size + 1) (p := ⟨g, 1, none⟩) (qCm hv4 0 (.int .u64 0)) (by show w.heap.size + 1 ≠ g; omega) (.int .i64 k)
 have hres := (qAn hvc 0).trans rfl
 clear hvc
 exact ⟨.int .u64 0, by simp [results, Tryz.results126, go_sem, hres], rfl, HI5.out, HB5.out, HK5.out⟩
def qBe.f (s0_0 : List Int) (s0_1 : Int) (s0_2 : Int) : Option (Int × Int × Int) :=
 some (if s0_2 ≠ 0 then (0, s0_1, s0_2) else if s0_1 + 2 ≤ s0_0.length then (wrap64 (numF ((s0_0.drop s0_1.toNat).take 2)), s0_1 + 2, 0) else (0, s0_1, 40))
theorem qBe.calls (g : Nat) (s0_0 : List Int) (s0_1 : Int) (s0_2 : Int) (r1 : Int) (r2 : Int) (r3 : Int) (w0 w : World) (hI : qAm w0 w g s0_0 s0_1 s0_2) (hB : Below w0.heap.size w0 w) (h : qBe.f s0_0 s0_1 s0_2 = some (r1, r2, r3)) :
  Calls Tryz.prog 63 #[.pointer (some ⟨g, 0, none⟩)] w fun e w' => e = .returned (.int .i64 r1) ∧ qAm w0 w' g s0_0 r2 r3 ∧ Below w0.heap.size w0 w' ∧ qAh w w' g none := by
 have HI := am (hI.alloc (.cells #[.pointer (some ⟨g, 0, none⟩)] 124))
 have HB := am (qA3 hB (.cells #[.pointer (some ⟨g, 0, none⟩)] 124))
 have HK := am (qBE (qAh.refl w g none) (.cells #[.pointer (some ⟨g, 0, none⟩)] 124))
 have hq : (w.alloc (.cells #[.pointer (some ⟨g, 0, none⟩)] 124)).cell? ⟨w.heap.size, 0, none⟩ = some (.pointer (some ⟨g, 0, none⟩)) := (qAn (heap_alloc_new w _) 0).trans rfl
 have HQ : qAa (∀ W, Below (w.alloc (.cells #[.pointer (some ⟨g, 0, none⟩)] 124)).heap.size (w.alloc (.cells #[.pointer (some ⟨g, 0, none⟩)] 124)) W → W.cell? ⟨w.heap.size, 0, none⟩ = some (.pointer (some ⟨g, 0, none⟩))) := ⟨fun W hW => (hW.cell (p := ⟨w.heap.size, 0, none⟩) (by simp)).trans hq⟩
 clear hq
 have h0 : 0 ≤ s0_1 := hI.2.1
 unfold qBe.f at h
 injection h with h
 have HF : qAa (Calls Tryz.prog 123 #[.pointer (some ⟨g, 0, none⟩), .func (.func 130) #[] #[.pointer (some ⟨w.heap.size, 0, none⟩)]] (w.alloc (.cells #[.pointer (some ⟨g, 0, none⟩)] 124)) fun e w' => e = .returned (.int .i64 r1) ∧ qAm w0 w' g s0_0 r2 r3 ∧ Below w0.heap.size w0 w' ∧ qAh w w' g none) := by
  by_cases he : s0_2 ≠ 0
  ·rw [if_pos he] at h
   simp only [Prod.mk.injEq] at h
   obtain ⟨rfl, rfl, rfl⟩ := h
   exact ⟨(qDd _ g s0_0 _ _ w0 _ he HI.out HB.out).mono fun e' w' ⟨h1, h2, h3, h4⟩ => ⟨h1, h2, h3, HK.out.trans h4 (.inl rfl)⟩⟩
  rw [if_neg he] at h
  simp only [Decidable.not_not] at he
  subst he
  by_cases hlt : s0_1 + 2 ≤ s0_0.length
  ·rw [if_pos hlt] at h
   simp only [Prod.mk.injEq] at h
   obtain ⟨rfl, rfl, rfl⟩ := h
   exact ⟨(qET w.heap.size g s0_0 _ _ _ w0 _ HI.out HB.out (fun W h1 h2 h3 => short_fn_ok _ g s0_0 _ _ w0 W (HQ.out W h1) hlt h2 h3)).mono fun e' w' ⟨h1, h2, h3, h4⟩ => ⟨h1, h2, h3, HK.out.trans h4 (.inl rfl)⟩⟩
  rw [if_neg hlt] at h
  simp only [Prod.mk.injEq] at h
  obtain ⟨rfl, rfl, rfl⟩ := h
  exact ⟨(qE3 w.heap.size g s0_0 _ _ _ w0 _ HI.out HB.out (fun W h1 h2 h3 => short_fn_bad _ g s0_0 _ _ w0 W (HQ.out W h1) (by omega) h2 h3)).mono fun e' w' ⟨h1, h2, h3, h4⟩ => ⟨h1, h2, h3, HK.out.trans h4 (.inl rfl)⟩⟩
 clear h hI hB h0
 go_enter Tryz.func63, Tryz.ntmps63
 go_wp2_with (go_at_call 123; refine HF.out.mono ?_; rintro e w' ⟨rfl, hi, hb, hk⟩; have HI2 := am hi; have HB2 := am hb; have HK2 := am hk; clear hi hb hk)
 go_ret
 exact ⟨rfl, HI2.out, HB2.out, HK2.out⟩
def qBn.f (s0_0 : List Int) (s0_1 : Int) (s0_2 : Int) : Option (Int × Int × Int) :=
 some (if s0_2 ≠ 0 then (0, s0_1, s0_2) else if s0_1 + 8 ≤ s0_0.length then (numF ((s0_0.drop s0_1.toNat).take 8), s0_1 + 8, 0) else (0, s0_1, 40))
theorem qBn.calls (g : Nat) (s0_0 : List Int) (s0_1 : Int) (s0_2 : Int) (r1 : Int) (r2 : Int) (r3 : Int) (w0 w : World) (hI : qAm w0 w g s0_0 s0_1 s0_2) (hB : Below w0.heap.size w0 w) (h : qBn.f s0_0 s0_1 s0_2 = some (r1, r2, r3)) :
  Calls Tryz.prog 61 #[.pointer (some ⟨g, 0, none⟩)] w fun e w' => e = .returned (.int .u64 r1) ∧ qAm w0 w' g s0_0 r2 r3 ∧ Below w0.heap.size w0 w' ∧ qAh w w' g none := by
 have HI := am (hI.alloc (.cells #[.pointer (some ⟨g, 0, none⟩)] 124))
 have HB := am (qA3 hB (.cells #[.pointer (some ⟨g, 0, none⟩)] 124))
 have HK := am (qBE (qAh.refl w g none) (.cells #[.pointer (some ⟨g, 0, none⟩)] 124))
 have hq : (w.alloc (.cells #[.pointer (some ⟨g, 0, none⟩)] 124)).cell? ⟨w.heap.size, 0, none⟩ = some (.pointer (some ⟨g, 0, none⟩)) := (qAn (heap_alloc_new w _) 0).trans rfl
 have HQ : qAa (∀ W, Below (w.alloc (.cells #[.pointer (some ⟨g, 0, none⟩)] 124)).heap.size (w.alloc (.cells #[.pointer (some ⟨g, 0, none⟩)] 124)) W → W.cell? ⟨w.heap.size, 0, none⟩ = some (.pointer (some ⟨g, 0, none⟩))) := ⟨fun W hW => (hW.cell (p := ⟨w.heap.size, 0, none⟩) (by simp)).trans hq⟩
 clear hq
 have h0 : 0 ≤ s0_1 := hI.2.1
 unfold qBn.f at h
 injection h with h
 have HF : qAa (Calls Tryz.prog 126 #[.pointer (some ⟨g, 0, none⟩), .func (.func 127) #[] #[.pointer (some ⟨w.heap.size, 0, none⟩)]] (w.alloc (.cells #[.pointer (some ⟨g, 0, none⟩)] 124)) fun e w' => e = .returned (.int .u64 r1) ∧ qAm w0 w' g s0_0 r2 r3 ∧ Below w0.heap.size w0 w' ∧ qAh w w' g none) := by
  by_cases he : s0_2 ≠ 0
  ·rw [if_pos he] at h
   simp only [Prod.mk.injEq] at h
   obtain ⟨rfl, rfl, rfl⟩ := h
   exact ⟨(qE4 _ g s0_0 _ _ w0 _ he HI.out HB.out).mono fun e' w' ⟨h1, h2, h3, h4⟩ => ⟨h1, h2, h3, HK.out.trans h4 (.inl rfl)⟩⟩
  rw [if_neg he] at h
  simp only [Decidable.not_not] at he
  subst he
  by_cases hlt : s0_1 + 8 ≤ s0_0.length
  ·rw [if_pos hlt] at h
   simp only [Prod.mk.injEq] at h
   obtain ⟨rfl, rfl, rfl⟩ := h
   exact ⟨(qFq w.heap.size g s0_0 _ _ _ w0 _ HI.out HB.out (fun W h1 h2 h3 => long_fn_ok _ g s0_0 _ _ w0 W (HQ.out W h1) hlt h2 h3)).mono fun e' w' ⟨h1, h2, h3, h4⟩ => ⟨h1, h2, h3, HK.out.trans h4 (.inl rfl)⟩⟩
  rw [if_neg hlt] at h
  simp only [Prod.mk.injEq] at h
  obtain ⟨rfl, rfl, rfl⟩ := h
  exact ⟨(qES w.heap.size g s0_0 _ _ _ w0 _ HI.out HB.out (fun W h1 h2 h3 => long_fn_bad _ g s0_0 _ _ w0 W (HQ.out W h1) (by omega) h2 h3)).mono fun e' w' ⟨h1, h2, h3, h4⟩ => ⟨h1, h2, h3, HK.out.trans h4 (.inl rfl)⟩⟩
 clear h hI hB h0
 go_enter Tryz.func61, Tryz.ntmps61
 go_wp2_with (go_at_call 126; refine HF.out.mono ?_; rintro e w' ⟨rfl, hi, hb, hk⟩; have HI2 := am hi; have HB2 := am hb; have HK2 := am hk; clear hi hb hk)
 go_ret
 exact ⟨rfl, HI2.out, HB2.out, HK2.out⟩
theorem numStep_nonneg (n x : Int) : 0 ≤ qD8 n x := by
 unfold qD8 Go.bits
 simp only [IntKind.wrap, IntKind.bits, IntKind.signed]
 have : ∀ a : Int, 0 ≤ a % (2 : Int) ^ 64 := fun a => Int.emod_nonneg _ (by decide)
 simp
 try omega
theorem qDW (l : List Int) : 0 ≤ numF l := by
 unfold numF
 have : ∀ (l : List Int) (n : Int), 0 ≤ n → 0 ≤ l.foldl qD8 n := by
  intro l
  induction l with
  | nil => intro n h; exact h
  | cons x l ih => intro n _; exact ih _ (numStep_nonneg n x)
 exact this l 0 (Int.le_refl 0)
def num4 (f0 : List Int) (p : Int) : Int := numF ((f0.drop p.toNat).take 4)
theorem qF2 (g : Nat) (f0 : List Int) (p e : Int) (w0 w : World) (hlt : p + 4 ≤ f0.length) (hv : num4 f0 p ≤ 2147483647) (hI : qAm w0 w g f0 p e) (hB : Below w0.heap.size w0 w) :
  Calls Tryz.prog 125 #[.pointer (some ⟨g, 0, none⟩)] w fun e' w' => e' = .returned (.int .i64 (num4 f0 p)) ∧ qAm w0 w' g f0 (p + 4) e ∧ Below w0.heap.size w0 w' ∧ qAh w w' g none := by
 have HI := am hI
 have HB := am hB
 have h0 := hI.2.1
 have hx0 : 0 ≤ num4 f0 p := qDW _
 obtain ⟨x, hx⟩ : ∃ x, x = num4 f0 p := ⟨_, rfl⟩
 have HX : qAa (x = numF ((f0.drop p.toNat).take 4)) := ⟨hx⟩
 rw [← hx] at hx0 hv ⊢
 clear hI hB hx
 have hl : ((f0.drop p.toNat).take 4).length = 4 := by rw [List.length_take, List.length_drop]; omega
 have HL := am hl
 clear hl
 go_enter Tryz.func125, Tryz.ntmps125
 go_wp2_with (first | (go_at_call 122; refine (qCD g f0 p e 4 w0 w (by omega) (by omega) HI.out).mono ?_; rintro e' w' ⟨A, c, v, rfl, hc, hC, hi, hw⟩; have hk := hw ▸ qAh.set_ (qAh.refl w g none) 0 v; have HK := am hk; have HN := am hi; have HBN := am (hw ▸ qA1 (g := g) (j := 0) (v := v) HB.out HI.out.ge); have hnum := qCg A c ((f0.drop p.toNat).take 4) w' (by rw [HL.out]; exact hC) (by rw [HL.out]; exact hc) (by rw [HL.out]; decide); rw [HL.out, ← HX.out] at hnum; have HNM := am hnum; clear hk hi hw hC hnum) | (go_at_call 128; refine HNM.out.mono ?_; rintro e' w'' ⟨rfl, hd⟩; obtain ⟨m, rfl⟩ := hd.out))
 go_ret
 exact ⟨rfl, HN.out.drewN m, qAl HBN.out m, qDK HK.out m⟩
theorem rd_int_big (g : Nat) (f0 : List Int) (p e : Int) (w0 w : World) (hlt : p + 4 ≤ f0.length) (hv : 2147483647 < num4 f0 p) (hI : qAm w0 w g f0 p e) (hB : Below w0.heap.size w0 w) :
  Calls Tryz.prog 125 #[.pointer (some ⟨g, 0, none⟩)] w fun e' w' => e' = .panicked [{ v := .iface 214 (.int .i64 42), recovered := false }] ∧ qAm w0 w' g f0 (p + 4) e ∧ Below w0.heap.size w0 w' ∧ qAh w w' g none := by
 have HI := am hI
 have HB := am hB
 have h0 := hI.2.1
 have hx0 : 0 ≤ num4 f0 p := qDW _
 obtain ⟨x, hx⟩ : ∃ x, x = num4 f0 p := ⟨_, rfl⟩
 have HX : qAa (x = numF ((f0.drop p.toNat).take 4)) := ⟨hx⟩
 rw [← hx] at hx0 hv
 clear hI hB hx
 have hl : ((f0.drop p.toNat).take 4).length = 4 := by rw [List.length_take, List.length_drop]; omega
 have HL := am hl
 clear hl
 go_enter Tryz.func125, Tryz.ntmps125
 go_wp2_with (first | (go_at_call 122; refine (qCD g f0 p e 4 w0 w (by omega) (by omega) HI.out).mono ?_; rintro e' w' ⟨A, c, v, rfl, hc, hC, hi, hw⟩; have hk := hw ▸ qAh.set_ (qAh.refl w g none) 0 v; have HK := am hk; have HN := am hi; have HBN := am (hw ▸ qA1 (g := g) (j := 0) (v := v) HB.out HI.out.ge); have hnum := qCg A c ((f0.drop p.toNat).take 4) w' (by rw [HL.out]; exact hC) (by rw [HL.out]; exact hc) (by rw [HL.out]; decide); rw [HL.out, ← HX.out] at hnum; have HNM := am hnum; clear hk hi hw hC hnum) | (go_at_call 128; refine HNM.out.mono ?_; rintro e' w'' ⟨rfl, hd⟩; obtain ⟨m, rfl⟩ := hd.out))
 skip
 exact ⟨rfl, rfl, HN.out.drewN m, qAl HBN.out m, qDK HK.out m⟩
theorem qF1 (g : Nat) (f0 : List Int) (p e : Int) (w0 w : World) (hlt : f0.length < p + 4) (hI : qAm w0 w g f0 p e) (hB : Below w0.heap.size w0 w) :
  Calls Tryz.prog 125 #[.pointer (some ⟨g, 0, none⟩)] w fun e' w' => e' = .panicked [{ v := .iface 214 (.int .i64 40), recovered := false }] ∧ qAm w0 w' g f0 p e ∧ Below w0.heap.size w0 w' ∧ qAh w w' g none := by
 have HI := am hI
 have HB := am hB
 clear hI hB
 go_enter Tryz.func125, Tryz.ntmps125
 go_wp2_with (go_at_call 122; refine (qCy g f0 p e 4 w0 w (by omega) HI.out).mono ?_; rintro e' w' ⟨rfl, rfl⟩)
 exact ⟨rfl, rfl, HI.out, HB.out, qAh.refl _ _ _⟩
theorem int_fn_ret (b1 g : Nat) (x : Int) (R : Ending → World → Prop) (w : World) (hq : w.cell? ⟨b1, 0, none⟩ = some (.pointer (some ⟨g, 0, none⟩)))
  (h : Calls Tryz.prog 125 #[.pointer (some ⟨g, 0, none⟩)] w fun e w' => e = .returned (.int .i64 x) ∧ R e w') :
  Calls Tryz.prog 124 #[.pointer (some ⟨b1, 0, none⟩)] w R := by
 have H := am h
 clear h
 go_enter Tryz.func124, Tryz.ntmps124
 go_wp2_with (go_at_call 125; refine H.out.mono ?_; rintro e w' ⟨rfl, hR⟩; have HR := am hR; clear hR)
 exact HR.out
theorem int_fn_pan (b1 g : Nat) (c : List PanicEntry) (R : Ending → World → Prop) (w : World) (hq : w.cell? ⟨b1, 0, none⟩ = some (.pointer (some ⟨g, 0, none⟩)))
  (h : Calls Tryz.prog 125 #[.pointer (some ⟨g, 0, none⟩)] w fun e w' => e = .panicked c ∧ R e w') :
  Calls Tryz.prog 124 #[.pointer (some ⟨b1, 0, none⟩)] w R := by
 have H := am h
 clear h
 go_enter Tryz.func124, Tryz.ntmps124
 go_wp2_with (go_at_call 125; refine H.out.mono ?_; rintro e w' ⟨rfl, hR⟩; have HR := am hR; clear hR)
 exact ⟨rfl, HR.out⟩
theorem guarded_int_ok (b1 g : Nat) (f0 : List Int) (p p' : Int) (x : Int) (w0 w : World) (hI : qAm w0 w g f0 p 0) (hB : Below w0.heap.size w0 w)
  (hfn : ∀ W, Below w.heap.size w W → qAm w0 W g f0 p 0 → Below w0.heap.size w0 W → Calls Tryz.prog 124 #[.pointer (some ⟨b1, 0, none⟩)] W fun e w' => e = .returned (.int .i64 x) ∧ qAm w0 w' g f0 p' 0 ∧ Below w0.heap.size w0 w' ∧ qAh W w' g none) :
  Calls Tryz.prog 123 #[.pointer (some ⟨g, 0, none⟩), .func (.func 124) #[] #[.pointer (some ⟨b1, 0, none⟩)]] w fun e w' => e = .returned (.int .i64 x) ∧ qAm w0 w' g f0 p' 0 ∧ Below w0.heap.size w0 w' ∧ qAh w w' g none := by
 have HI := am hI
 have HB := am hB
 have HFN := am hfn
 have hgl := hI.lt
 obtain ⟨_, h1, h2, h3, v, hb, hr⟩ := hI
 have c1 : w.cell? ⟨g, 1, none⟩ = some (.int .i64 0) := (qAn hb 1).trans rfl
 clear hb hr hB h1 h2 h3 hfn
 go_enter_defers Tryz.func123, Tryz.ntmps123
 have HB3 := am (((Below.refl w.heap.size w).alloc (Nat.le_refl _) (.cells #[.pointer (some ⟨g, 0, none⟩)] 124)).alloc (by simp) (.cells #[.int .i64 0] 3))
 have H3 : qAa (((w.alloc (.cells #[.pointer (some ⟨g, 0, none⟩)] 124)).alloc (.cells #[.int .i64 0] 3)).heap[w.heap.size + 1]? = some (.cells #[.int .i64 0] 3 (0, 0))) := ⟨by simpa using heap_alloc_new (w.alloc (.cells #[.pointer (some ⟨g, 0, none⟩)] 124)) (.cells #[.int .i64 0] 3)⟩
 go_wp2_with (go_at_call 124; refine (HFN.out _ HB3.out ((HI.out.alloc _).alloc _) (qA3 (qA3 HB.out _) _)).mono ?_; rintro e w4 ⟨rfl, hi, hbw, hk⟩; have hv4 : w4.heap[w.heap.size + 1]? = some (.cells #[.int .i64 0] 3 (0, 0)) := (hk.2 _ (qBd H3.out) (by omega) (by simp)).trans H3.out; have v4 : w4.cell? ⟨w.heap.size + 1, 0, none⟩ = some (.int .i64 0) := (qAn hv4 0).trans rfl; have z4 := qAx hv4 0; have HI4 := am (hi.behind (p := ⟨w.heap.size + 1, 0, none⟩) (by show g < w.heap.size + 1; omega) (.int .i64 x)); have HK4 := am (qC0 (j := 0) HB3.out hk (Nat.le_succ _) (.int .i64 x)); have HV4 := am hv4; have HB4 := am (qA1 (g := w.heap.size + 1) (j := 0) (v := .int .i64 x) hbw (Nat.le_trans HB.out.size (Nat.le_succ _))); clear hi hk hv4 hbw)
 refine leaves_cons (f := 155) (args := #[.pointer (some ⟨w.heap.size + 1, 0, none⟩), .pointer (some ⟨w.heap.size, 0, none⟩)]) (by simp) (by simp [go_sem]) ?_
 refine (qDO _ _ _).mono ?_
 rintro e u' w'' ⟨rfl, rfl, rfl⟩
 have hvc : (w4.setCell ⟨w.heap.size + 1, 0, none⟩ (.int .i64 x)).heap[w.heap.size + 1]? = some (.cells #[.int .i64 x] 3 (0, 0)) := by simpa using qCm HV4.out 0 (.int .i64 x)
 have hres := (qAn hvc 0).trans rfl
 exact ⟨.int .i64 x, by simp [results, Tryz.results123, go_sem, hres], rfl, HI4.out, HB4.out, HK4.out⟩
theorem qD6 (b1 g : Nat) (f0 : List Int) (p p' : Int) (k : Int) (w0 w : World) (hI : qAm w0 w g f0 p 0) (hB : Below w0.heap.size w0 w)
  (hfn : ∀ W, Below w.heap.size w W → qAm w0 W g f0 p 0 → Below w0.heap.size w0 W → Calls Tryz.prog 124 #[.pointer (some ⟨b1, 0, none⟩)] W fun e w' => e = .panicked [{ v := .iface 214 (.int .i64 k), recovered := false }] ∧ qAm w0 w' g f0 p' 0 ∧ Below w0.heap.size w0 w' ∧ qAh W w' g none) :
  Calls Tryz.prog 123 #[.pointer (some ⟨g, 0, none⟩), .func (.func 124) #[] #[.pointer (some ⟨b1, 0, none⟩)]] w fun e w' => e = .returned (.int .i64 0) ∧ qAm w0 w' g f0 p' k ∧ Below w0.heap.size w0 w' ∧ qAh w w' g none := by
 have HI := am hI
 have HB := am hB
 have HFN := am hfn
 have hgl := hI.lt
 obtain ⟨_, h1, h2, h3, v, hb, hr⟩ := hI
 have c1 : w.cell? ⟨g, 1, none⟩ = some (.int .i64 0) := (qAn hb 1).trans rfl
 clear hb hr hB h1 h2 h3 hfn
 go_enter_defers Tryz.func123, Tryz.ntmps123
 have HB3 := am (((Below.refl w.heap.size w).alloc (Nat.le_refl _) (.cells #[.pointer (some ⟨g, 0, none⟩)] 124)).alloc (by simp) (.cells #[.int .i64 0] 3))
 have H2 : qAa (((w.alloc (.cells #[.pointer (some ⟨g, 0, none⟩)] 124)).alloc (.cells #[.int .i64 0] 3)).heap[w.heap.size]? = some (.cells #[.pointer (some ⟨g, 0, none⟩)] 124 (0, 0))) := ⟨qAW (heap_alloc_new w _) _⟩
 have H3 : qAa (((w.alloc (.cells #[.pointer (some ⟨g, 0, none⟩)] 124)).alloc (.cells #[.int .i64 0] 3)).heap[w.heap.size + 1]? = some (.cells #[.int .i64 0] 3 (0, 0))) := ⟨by simpa using heap_alloc_new (w.alloc (.cells #[.pointer (some ⟨g, 0, none⟩)] 124)) (.cells #[.int .i64 0] 3)⟩
 go_wp2_with (go_at_call 124; refine (HFN.out _ HB3.out ((HI.out.alloc _).alloc _) (qA3 (qA3 HB.out _) _)).mono ?_; rintro e w4 ⟨rfl, hi, hbw, hk⟩)
 refine leaves_cons (f := 155) (args := #[.pointer (some ⟨w.heap.size + 1, 0, none⟩), .pointer (some ⟨w.heap.size, 0, none⟩)]) (by simp) (by simp [go_sem]) ?_
 have hv4 : w4.heap[w.heap.size + 1]? = some (.cells #[.int .i64 0] 3 (0, 0)) := (hk.2 _ (qBd H3.out) (by omega) (by simp)).trans H3.out
 have hq4 : w4.heap[w.heap.size]? = some (.cells #[.pointer (some ⟨g, 0, none⟩)] 124 (0, 0)) := (hk.2 _ (qBd H2.out) (by omega) (by simp)).trans H2.out
 obtain ⟨_, _, _, _, v4, hg4, _⟩ := id hi
 refine (qDu (w.heap.size + 1) g w.heap.size (.int .i64 0) k v4 [] _ ((qAn hv4 0).trans rfl) (qAx hv4 0) ((qAn hq4 0).trans rfl) hg4 (by omega) (by omega)).mono ?_
 rintro e u' w'' ⟨rfl, rfl, rfl⟩
 have HI5 := am ((hi.behind (p := ⟨w.heap.size + 1, 0, none⟩) (by show g < w.heap.size + 1; omega) (.int .i64 0)).set_e k)
 have HB5 := am (qA1 (g := g) (j := 1) (v := .int .i64 k) (qA1 (g := w.heap.size + 1) (j := 0) (v := .int .i64 0) hbw (Nat.le_trans HB.out.size (Nat.le_succ _))) HI.out.ge)
 have HK5 := am (qAh.set_ (qC0 (j := 0) HB3.out hk (Nat.le_succ _) (.int .i64 0)) 1 (.int .i64 k))
 have hvc := qA2 (g := w.heap.size + 1) (p := ⟨g, 1, none⟩) (qCm hv4 0 (.int .i64 0)) (by show w.heap.size + 1 ≠ g; omega) (.int .i64 k)
 have hres := (qAn hvc 0).trans rfl
 clear hvc
 exact ⟨.int .i64 0, by simp [results, Tryz.results123, go_sem, hres], rfl, HI5.out, HB5.out, HK5.out⟩
def qBa.f (s0_0 : List Int) (s0_1 : Int) (s0_2 : Int) : Option (Int × Int × Int) :=
 some (if s0_2 ≠ 0 then (0, s0_1, s0_2) else if s0_1 + 4 ≤ s0_0.length then (if num4 s0_0 s0_1 ≤ 2147483647 then (num4 s0_0 s0_1, s0_1 + 4, 0) else (0, s0_1 + 4, 42)) else (0, s0_1, 40))
theorem qBa.calls (g : Nat) (s0_0 : List Int) (s0_1 : Int) (s0_2 : Int) (r1 : Int) (r2 : Int) (r3 : Int) (w0 w : World) (hI : qAm w0 w g s0_0 s0_1 s0_2) (hB : Below w0.heap.size w0 w) (h : qBa.f s0_0 s0_1 s0_2 = some (r1, r2, r3)) :
  Calls Tryz.prog 59 #[.pointer (some ⟨g, 0, none⟩)] w fun e w' => e = .returned (.int .i64 r1) ∧ qAm w0 w' g s0_0 r2 r3 ∧ Below w0.heap.size w0 w' ∧ qAh w w' g none := by
 have HI := am (hI.alloc (.cells #[.pointer (some ⟨g, 0, none⟩)] 124))
 have HB := am (qA3 hB (.cells #[.pointer (some ⟨g, 0, none⟩)] 124))
 have HK := am (qBE (qAh.refl w g none) (.cells #[.pointer (some ⟨g, 0, none⟩)] 124))
 have hq : (w.alloc (.cells #[.pointer (some ⟨g, 0, none⟩)] 124)).cell? ⟨w.heap.size, 0, none⟩ = some (.pointer (some ⟨g, 0, none⟩)) := (qAn (heap_alloc_new w _) 0).trans rfl
 have HQ : qAa (∀ W, Below (w.alloc (.cells #[.pointer (some ⟨g, 0, none⟩)] 124)).heap.size (w.alloc (.cells #[.pointer (some ⟨g, 0, none⟩)] 124)) W → W.cell? ⟨w.heap.size, 0, none⟩ = some (.pointer (some ⟨g, 0, none⟩))) := ⟨fun W hW => (hW.cell (p := ⟨w.heap.size, 0, none⟩) (by simp)).trans hq⟩
 clear hq
 have h0 : 0 ≤ s0_1 := hI.2.1
 unfold qBa.f at h
 injection h with h
 have HF : qAa (Calls Tryz.prog 123 #[.pointer (some ⟨g, 0, none⟩), .func (.func 124) #[] #[.pointer (some ⟨w.heap.size, 0, none⟩)]] (w.alloc (.cells #[.pointer (some ⟨g, 0, none⟩)] 124)) fun e w' => e = .returned (.int .i64 r1) ∧ qAm w0 w' g s0_0 r2 r3 ∧ Below w0.heap.size w0 w' ∧ qAh w w' g none) := by
  by_cases he : s0_2 ≠ 0
  ·rw [if_pos he] at h
   simp only [Prod.mk.injEq] at h
   obtain ⟨rfl, rfl, rfl⟩ := h
   exact ⟨(qDd _ g s0_0 _ _ w0 _ he HI.out HB.out).mono fun e' w' ⟨h1, h2, h3, h4⟩ => ⟨h1, h2, h3, HK.out.trans h4 (.inl rfl)⟩⟩
  rw [if_neg he] at h
  simp only [Decidable.not_not] at he
  subst he
  by_cases hlt : s0_1 + 4 ≤ s0_0.length
  rotate_left
  ·rw [if_neg hlt] at h
   simp only [Prod.mk.injEq] at h
   obtain ⟨rfl, rfl, rfl⟩ := h
   exact ⟨(qD6 w.heap.size g s0_0 _ _ _ w0 _ HI.out HB.out (fun W h1 h2 h3 => int_fn_pan _ g _ _ W (HQ.out W h1) ((qF1 g s0_0 _ _ w0 W (by omega) h2 h3).mono fun e w' h => ⟨h.1, h⟩))).mono fun e' w' ⟨h1, h2, h3, h4⟩ => ⟨h1, h2, h3, HK.out.trans h4 (.inl rfl)⟩⟩
  rw [if_pos hlt] at h
  by_cases hv : num4 s0_0 s0_1 ≤ 2147483647
  ·rw [if_pos hv] at h
   simp only [Prod.mk.injEq] at h
   obtain ⟨rfl, rfl, rfl⟩ := h
   exact ⟨(guarded_int_ok w.heap.size g s0_0 _ _ _ w0 _ HI.out HB.out (fun W h1 h2 h3 => int_fn_ret _ g _ _ W (HQ.out W h1) ((qF2 g s0_0 _ _ w0 W hlt hv h2 h3).mono fun e w' h => ⟨h.1, h⟩))).mono fun e' w' ⟨h1, h2, h3, h4⟩ => ⟨h1, h2, h3, HK.out.trans h4 (.inl rfl)⟩⟩
  rw [if_neg hv] at h
  simp only [Prod.mk.injEq] at h
  obtain ⟨rfl, rfl, rfl⟩ := h
  exact ⟨(qD6 w.heap.size g s0_0 _ _ _ w0 _ HI.out HB.out (fun W h1 h2 h3 => int_fn_pan _ g _ _ W (HQ.out W h1) ((rd_int_big g s0_0 _ _ w0 W hlt (by omega) h2 h3).mono fun e w' h => ⟨h.1, h⟩))).mono fun e' w' ⟨h1, h2, h3, h4⟩ => ⟨h1, h2, h3, HK.out.trans h4 (.inl rfl)⟩⟩
 clear h hI hB h0
 go_enter Tryz.func59, Tryz.ntmps59
 go_wp2_with (go_at_call 123; refine HF.out.mono ?_; rintro e w' ⟨rfl, hi, hb, hk⟩; have HI2 := am hi; have HB2 := am hb; have HK2 := am hk; clear hi hb hk)
 go_ret
 exact ⟨rfl, HI2.out, HB2.out, HK2.out⟩
end Q
end
section
namespace Q
open Go.RowKit PA PC PB
attribute [local go_sem] qAX min2_int qBi min_two max_three min_three max_four min_four
theorem rd_next_zero (g : Nat) (f0 : List Int) (p e : Int) (w0 w : World) (hI : qAm w0 w g f0 p e) :
  Calls Tryz.prog 122 #[.pointer (some ⟨g, 0, none⟩), .int .i64 0] w fun e' w' => ∃ A c v, e' = .returned (.slice A 0 c) ∧ qAm w0 w' g f0 p e ∧ w' = w.setCell ⟨g, 0, none⟩ v := by
 have HI := am hI
 obtain ⟨_, h1, h2, h3, v, hb, hr⟩ := hI
 have hlen : (f0.drop p.toNat).length = f0.length - p.toNat := List.length_drop
 have HR := am hr
 obtain ⟨A, c, rfl⟩ := hr.form
 have c0 : w.cell? ⟨g, 0, none⟩ = some _ := (qAn hb 0).trans rfl
 have f0z := qAx hb 0
 obtain ⟨m, hm⟩ : ∃ m, m = (f0.drop p.toNat).length := ⟨_, rfl⟩
 have hml : m ≤ 9223372036854775807 := by omega
 rw [← hm] at c0
 have HS : qAa (qAm w0 (w.setCell ⟨g, 0, none⟩ (.slice A m c)) g f0 p e) := ⟨HI.out.set_b h1 h2 (by rw [hm]; exact HR.out)⟩
 have hcap : m ≤ c ∨ m = 0 := by
  rcases HR.out with ⟨hz, _⟩ | ⟨gb, o, c', cells, _, _, hv, _, hcl, _⟩
  ·right; rw [hm, hz]; rfl
  injection hv with _ _ hc; subst hc; left; omega
 clear hr hb hlen hm
 cases A with
 | none =>
  go_enter Tryz.func122, Tryz.ntmps122
  go_wp2
  go_ret
  exact ⟨none, c, _, rfl, HS.out, rfl⟩
 | some ad =>
  go_enter Tryz.func122, Tryz.ntmps122
  go_wp2
  go_ret
  exact ⟨some ad, c, _, rfl, HS.out, rfl⟩
theorem qF0 (g : Nat) (f0 : List Int) (p e most : Int) (w0 w : World) (hlt : p + 4 ≤ f0.length) (hv : num4 f0 p ≤ 2147483647) (hm : num4 f0 p ≤ mx most 0) (hI : qAm w0 w g f0 p e) (hB : Below w0.heap.size w0 w) :
  Calls Tryz.prog 145 #[.pointer (some ⟨g, 0, none⟩), .int .i64 most] w fun e' w' => e' = .returned (.int .i64 (num4 f0 p)) ∧ qAm w0 w' g f0 (p + 4) e ∧ Below w0.heap.size w0 w' ∧ qAh w w' g none := by
 have HF := am (qF2 g f0 p e w0 w hlt hv hI hB)
 have hm1 : most < 0 → decide (0 < num4 f0 p) = false := fun h => by unfold mx at hm; rw [if_pos h] at hm; simp; omega
 have hm2 : ¬ most < 0 → decide (most < num4 f0 p) = false := fun h => by unfold mx at hm; rw [if_neg h] at hm; simp; omega
 generalize num4 f0 p = x at *
 clear hI hB hlt hm
 by_cases hz : most < 0
 all_goals first | have hm' := hm1 hz | have hm' := hm2 hz
 all_goals clear hm1 hm2
 all_goals go_enter Tryz.func145, Tryz.ntmps145
 all_goals go_wp2_with (go_at_call 125; refine HF.out.mono ?_; rintro e' w' ⟨rfl, hi, hb, hk⟩; have HI := am hi; have HB := am hb; have HK := am hk; clear hi hb hk)
 all_goals go_ret
 all_goals exact ⟨rfl, HI.out, HB.out, HK.out⟩
theorem rd_count_big (g : Nat) (f0 : List Int) (p e most : Int) (w0 w : World) (hlt : p + 4 ≤ f0.length) (hv : num4 f0 p ≤ 2147483647) (hm : mx most 0 < num4 f0 p) (hI : qAm w0 w g f0 p e) (hB : Below w0.heap.size w0 w) :
  Calls Tryz.prog 145 #[.pointer (some ⟨g, 0, none⟩), .int .i64 most] w fun e' w' => e' = .panicked [{ v := .iface 214 (.int .i64 3), recovered := false }] ∧ qAm w0 w' g f0 (p + 4) e ∧ Below w0.heap.size w0 w' ∧ qAh w w' g none := by
 have HF := am (qF2 g f0 p e w0 w hlt hv hI hB)
 have hm1 : most < 0 → decide (0 < num4 f0 p) = true := fun h => by unfold mx at hm; rw [if_pos h] at hm; simp; omega
 have hm2 : ¬ most < 0 → decide (most < num4 f0 p) = true := fun h => by unfold mx at hm; rw [if_neg h] at hm; simp; omega
 generalize num4 f0 p = x at *
 clear hI hB hlt hm
 by_cases hz : most < 0
 all_goals first | have hm' := hm1 hz | have hm' := hm2 hz
 all_goals clear hm1 hm2
 all_goals go_enter Tryz.func145, Tryz.ntmps145
 all_goals go_wp2_with (go_at_call 125; refine HF.out.mono ?_; rintro e' w' ⟨rfl, hi, hb, hk⟩; have HI := am hi; have HB := am hb; have HK := am hk; clear hi hb hk)
 all_goals exact ⟨rfl, rfl, HI.out, HB.out, HK.out⟩
theorem qEJ (g : Nat) (most : Int) (c : List PanicEntry) (R : World → Prop) (w : World)
  (h : Calls Tryz.prog 125 #[.pointer (some ⟨g, 0, none⟩)] w fun e w' => e = .panicked c ∧ R w') :
  Calls Tryz.prog 145 #[.pointer (some ⟨g, 0, none⟩), .int .i64 most] w fun e w' => e = .panicked c ∧ R w' := by
 have H := am h
 clear h
 go_enter Tryz.func145, Tryz.ntmps145
 go_wp2_with (go_at_call 125; refine H.out.mono ?_; rintro e w' ⟨rfl, hR⟩; have HR := am hR; clear hR)
 exact ⟨rfl, rfl, HR.out⟩
end Q
end
section
namespace Q
open Go.RowKit PA PC PB
theorem cl_info_bytes : (Tryz.prog.info? 5).map (fun i => (i.zero, i.size, i.bytes)) = some (some (.int .u8 0), 1, 1) := by kernel_rfl
def qBv.f (l0 : List Int) : Option (List Int) := if l0.length ≤ 4294967296 then some l0 else none
theorem qBv.calls (A0 : Option Addr) (c0 : Nat) (l0 : List Int) (r : List Int) (w : World) (hr0 : Kd.C (Kd.int .u8) w A0 l0.length l0) (hc0 : l0.length ≤ c0) (h : qBv.f l0 = some r) :
  Calls Tryz.prog 116 #[.slice A0 l0.length c0] w fun e w' => ∃ v0_ : Value, e = .returned (v0_) ∧ Kd.R (Kd.int .u8) 5 w' w.heap.size (fun _ => True) v0_ r ∧ Below w.heap.size w w' := by
 unfold qBv.f at h
 split at h
 case isFalse => cases h
 rename_i hl
 injection h with h
 subst h
 have HC := am hr0
 have HL := am hl
 clear hr0 hc0
 obtain ⟨n, hn⟩ : ∃ n, n = l0.length := ⟨_, rfl⟩
 cases A0 with
 | none =>
  have h0 : l0 = [] := by
   rcases Nat.eq_zero_or_pos l0.length with h | h
   ·exact List.length_eq_zero_iff.1 h
   obtain ⟨ad, had, _⟩ := HC.out.2.2 h; cases had
  subst h0
  have hq := Lib.run_eql_slice_nil (P := Tryz.prog) w 38 5 none 0 c0 0 0 Tryz.underlying38
  clear hn HL hl
  go_enter Tryz.func116, Tryz.ntmps116
  go_wp2
  go_ret
  exact ⟨_, rfl, Kd.R_nil _ _ _ _ _, Below.refl _ _⟩
 | some a =>
  obtain ⟨i0, hi, hz0, hz1, hz2⟩ := info_parts cl_info_bytes
  have hq := Lib.run_eql_slice_nil (P := Tryz.prog) w 38 5 (some a) n c0 0 0 Tryz.underlying38
  have hown : (w.alloc (.cells #[] 5)).ownsRow w.heap.size 5 1 (.slice (some ⟨w.heap.size, 0, none⟩) 0 0) 0 [] := World.ownsRow_made w #[] 0 (Nat.le_refl _) (by unfold maxLen; omega) rfl
  rw [← hn]
  have HN := am hn
  by_cases h0 : n = 0
  ·have h1 : l0 = [] := List.length_eq_zero_iff.1 (by omega)
   subst h0; subst h1
   clear hn HL hl
   go_enter Tryz.func116, Tryz.ntmps116
   go_wp2_with (at_builtin; refine Base.wpList_append_zero rfl _ _ 38 rfl w.heap.size 5 i0 1 Tryz.underlying38 hi _ _ _ rfl hown (some a) c0 rfl ?_)
   go_ret
   exact ⟨_, rfl, ⟨fun _ _ => trivial, [], hown, Reps.none _ _⟩, (Below.refl _ _).alloc (Nat.le_refl _) _⟩
  have hnews : ∀ j u, (encs (Value.int .u8) l0)[j]? = some u → (w.alloc (.cells #[] 5)).cell? (a.add j) = some u := fun j u hu => by
   obtain ⟨ad, had, hcell⟩ := HC.out.2.2 (by omega)
   cases had
   have hj : j < l0.length := by have := (List.getElem?_eq_some_iff.1 hu).1; rwa [qDo] at this
   obtain ⟨c, hcl, hK, hcc⟩ := hcell j _ (List.getElem?_eq_getElem hj)
   obtain rfl : c = [Value.int .u8 l0[j]] := hK
   have h2 := hcc 0 _ rfl
   rw [show j * (Kd.int .u8).sz + 0 = j from Nat.mul_one j] at h2
   have hu' : u = Value.int .u8 l0[j] := by
    have := (List.getElem?_eq_some_iff.1 hu).2
    rw [← this]; simp [encs]
   rw [hu']
   exact (((Below.refl w.heap.size w).alloc (Nat.le_refl _) _).cell (World.block_lt_of_cell? w _ h2)).trans h2
  have HNW := am hnews
  clear hnews hn hl
  go_enter Tryz.func116, Tryz.ntmps116
  go_wp2_with (at_builtin; refine wpList_append_lies _ rfl _ _ 38 rfl w.heap.size 5 i0 (.int .u8 0) 1 1 Tryz.underlying38 hi hz0 hz1 hz2 rfl (by decide) _ _ _ rfl hown a n c0 (encs (Value.int .u8) l0) rfl ?c9 HNW.out ?c2 ?c0 ?c3 ?c4 ?c5 _ rfl ?_)
  case c9 => rw [qDo, HN.out]; omega
  case c2 => intro u hu; obtain ⟨y, _, rfl⟩ := List.mem_map.1 hu; rfl
  case c0 => omega
  case c3 => have := HN.out; have := HL.out; unfold maxLen; omega
  case c4 => have := HN.out; have := HL.out; omega
  case c5 => simp
  intro g cap w1 hown' hgrow hgg hlt
  have H1 : qAa (w1.ownsRow w.heap.size 5 1 (.slice (some ⟨g, 0, none⟩) n cap) n (encs (Value.int .u8) l0)) := ⟨by simpa using hown'⟩
  have H2 : qAa (Below w.heap.size w w1) := ⟨((Below.refl _ _).alloc (Nat.le_refl _) _).grown hgrow (by simp) (fun j hj => (hown.lt j hj).1)⟩
  clear hown' hgrow hgg hlt hown
  go_wp2
  go_ret
  exact ⟨.slice (some ⟨g, 0, none⟩) n cap, by simp, Kd.R_of_own (by rw [← HN.out]; exact H1.out) (fun _ _ => trivial), H2.out⟩
theorem drop_take_len (f0 : List Int) (p : Int) (n : Nat) (h0 : 0 ≤ p) (h : p + n ≤ f0.length) : ((f0.drop p.toNat).take n).length = n := by rw [List.length_take, List.length_drop]; omega
theorem rd_next_any (g : Nat) (f0 : List Int) (p e : Int) (n : Nat) (w0 w : World) (hle : p + n ≤ f0.length) (hI : qAm w0 w g f0 p e) :
  Calls Tryz.prog 122 #[.pointer (some ⟨g, 0, none⟩), .int .i64 n] w fun e' w' => ∃ A c v, e' = .returned (.slice A n c) ∧ n ≤ c ∧ Kd.C (Kd.int .u8) w' A n ((f0.drop p.toNat).take n) ∧ qAm w0 w' g f0 (p + n) e ∧ w' = w.setCell ⟨g, 0, none⟩ v := by
 rcases Nat.eq_zero_or_pos n with rfl | hn
 ·refine (rd_next_zero g f0 p e w0 w hI).mono ?_
  rintro e' w' ⟨A, c, v, he, hi, hw⟩
  exact ⟨A, c, v, he, Nat.zero_le _, by rw [List.take_zero]; exact ⟨rfl, by decide, fun h => absurd h (Nat.lt_irrefl _)⟩, by simpa using hi, hw⟩
 ·exact qCD g f0 p e n w0 w hn hle hI
theorem clone_n (A : Option Addr) (n c : Nat) (l : List Int) (w : World) (hl : l.length = n) (hC : Kd.C (Kd.int .u8) w A n l) (hc : n ≤ c) (hn : n ≤ 4294967296) :
  Calls Tryz.prog 116 #[.slice A n c] w fun e w' => ∃ A' c', e = .returned (.slice A' n c') ∧ Kd.R (Kd.int .u8) 5 w' w.heap.size (fun _ => True) (.slice A' n c') l ∧ Below w.heap.size w w' := by
 subst hl
 refine (qBv.calls A c l l w hC hc (by unfold qBv.f; rw [if_pos hn])).mono ?_
 rintro e w' ⟨v, rfl, hR, hb⟩
 obtain ⟨A', c', rfl⟩ := Kd.R_slice hR
 exact ⟨A', c', rfl, hR, hb⟩
theorem qBW {W W1 : World} {g b : Nat} {v : Value} (hk : qAh W W1 g none) (hc : W.cell? ⟨b, 0, none⟩ = some v) (hb : b ≠ g) : W1.cell? ⟨b, 0, none⟩ = some v := by
 have hl := World.block_lt_of_cell? W _ hc
 have := hk.2 b hl hb (by simp)
 unfold World.cell? at hc ⊢
 simpa [this] using hc
theorem raw_fn_ok (b1 b2 g n : Nat) (f0 : List Int) (p e most : Int) (w0 w : World) (hq : w.cell? ⟨b1, 0, none⟩ = some (.pointer (some ⟨g, 0, none⟩))) (hq2 : w.cell? ⟨b2, 0, none⟩ = some (.int .i64 most)) (hn1 : b1 ≠ g) (hn2 : b2 ≠ g)
  (hlt : p + 4 ≤ f0.length) (hv : num4 f0 p ≤ 2147483647) (hm : num4 f0 p ≤ mx most 0) (hn : num4 f0 p = n) (hle : p + 4 + n ≤ f0.length) (hI : qAm w0 w g f0 p e) (hB : Below w0.heap.size w0 w) :
  Calls Tryz.prog 144 #[.pointer (some ⟨b1, 0, none⟩), .pointer (some ⟨b2, 0, none⟩)] w fun e' w' => ∃ A c, e' = .returned (.slice A n c) ∧ Kd.R (Kd.int .u8) 5 w' w.heap.size (fun _ => True) (.slice A n c) ((f0.drop (p + 4).toNat).take n) ∧ qAm w0 w' g f0 (p + 4 + n) e ∧ Below w0.heap.size w0 w' ∧ qAh w w' g none := by
 have h0 := hI.2.1
 have HL := am (drop_take_len f0 (p + 4) n (by omega) hle)
 have HF : qAa (∀ W, qAh w W g none → qAm w0 W g f0 p e → Below w0.heap.size w0 W → Calls Tryz.prog 145 #[.pointer (some ⟨g, 0, none⟩), .int .i64 most] W fun e' w' => e' = .returned (.int .i64 (n : Int)) ∧ qAm w0 w' g f0 (p + 4) e ∧ Below w0.heap.size w0 w' ∧ qAh W w' g none) := ⟨fun W _ h1 h2 => hn ▸ qF0 g f0 p e most w0 W hlt hv hm h1 h2⟩
 have HLE := am hle
 have HI := am hI
 have HB := am hB
 have hnm : n ≤ 2147483647 := by omega
 clear hI hB hlt hv hm hn hle h0
 go_enter Tryz.func144, Tryz.ntmps144
 go_wp2_with fail
 go_region_held3 (fun W => W.cell? ⟨b1, 0, none⟩ = some (.pointer (some ⟨g, 0, none⟩)) ∧ W.cell? ⟨b2, 0, none⟩ = some (.int .i64 most))
  (first | go_keep | exact ⟨qBW HK1.out hq hn1, qBW HK1.out hq2 hn2⟩ | exact ⟨qBW HK2.out hq hn1, qBW HK2.out hq2 hn2⟩ | exact ⟨qBW HK3.out hq hn1, qBW HK3.out hq2 hn2⟩)
  (first | (go_at_call 145; refine (HF.out _ (qD7 (qAh.refl _ _ _)) HI.out.drew (qAM HB.out)).mono ?_; rintro e' w1 ⟨rfl, hi, hb, hk⟩; have HI1 := am hi; have HB1 := am hb; have HK1 := am (qAh.trans (qD7 (qAh.refl w g none)) hk (.inl rfl)); clear hi hb hk) | (go_at_call 122; refine (rd_next_any g f0 (p + 4) e n w0 _ HLE.out HI1.out).mono ?_; rintro e' w2 ⟨A, c, v, rfl, hc, hC, hi, hw⟩; have HI2 := am hi; have HB2 := am (hw ▸ qA1 (g := g) (j := 0) (v := v) HB1.out HI1.out.ge); have HK2 := am (HK1.out.trans (hw ▸ qAh.set_ (qAh.refl w1 g none) 0 v) (.inl rfl)); have HC2 := am hC; have HCC := am hc; clear hi hw hC hc) | (go_at_call 116; refine (clone_n A n c _ _ HL.out HC2.out HCC.out (by omega)).mono ?_; rintro e' w3 ⟨A3, c3, rfl, hR, hb⟩; have HR3 := am hR; have HBW3 := am hb; have HK3 := am (qAh.trans HK2.out (qAh.of_below hb g none) (.inl rfl)); clear hR hb))
 go_wp2
 go_ret
 exact ⟨A3, c3, rfl, Kd.R_lower HR3.out HK2.out.1, HI2.out.below HBW3.out, qAw HB2.out HB2.out.size HBW3.out, HK3.out⟩
theorem raw_fn_short (b1 b2 g n : Nat) (f0 : List Int) (p e most : Int) (w0 w : World) (hq : w.cell? ⟨b1, 0, none⟩ = some (.pointer (some ⟨g, 0, none⟩))) (hq2 : w.cell? ⟨b2, 0, none⟩ = some (.int .i64 most)) (hn1 : b1 ≠ g) (_hn2 : b2 ≠ g)
  (hlt : p + 4 ≤ f0.length) (hv : num4 f0 p ≤ 2147483647) (hm : num4 f0 p ≤ mx most 0) (hn : num4 f0 p = n) (hle : f0.length < p + 4 + n) (hI : qAm w0 w g f0 p e) (hB : Below w0.heap.size w0 w) :
  Calls Tryz.prog 144 #[.pointer (some ⟨b1, 0, none⟩), .pointer (some ⟨b2, 0, none⟩)] w fun e' w' => e' = .panicked [{ v := .iface 214 (.int .i64 40), recovered := false }] ∧ qAm w0 w' g f0 (p + 4) e ∧ Below w0.heap.size w0 w' ∧ qAh w w' g none := by
 have HF : qAa (∀ W, qAh w W g none → qAm w0 W g f0 p e → Below w0.heap.size w0 W → Calls Tryz.prog 145 #[.pointer (some ⟨g, 0, none⟩), .int .i64 most] W fun e' w' => e' = .returned (.int .i64 (n : Int)) ∧ qAm w0 w' g f0 (p + 4) e ∧ Below w0.heap.size w0 w' ∧ qAh W w' g none) := ⟨fun W _ h1 h2 => hn ▸ qF0 g f0 p e most w0 W hlt hv hm h1 h2⟩
 have HLE := am hle
 have HI := am hI
 have HB := am hB
 clear hI hB hlt hv hm hn hle
 go_enter Tryz.func144, Tryz.ntmps144
 go_wp2_with fail
 go_region_dies
 all_goals (go_at_call 145; refine (HF.out _ (qD7 (qAh.refl _ _ _)) HI.out.drew (qAM HB.out)).mono ?_; rintro e' w1 ⟨rfl, hi, hb, hk⟩; have HI1 := am hi; have HB1 := am hb; have hk' := qAh.trans (qD7 (qAh.refl w g none)) hk (.inl rfl); have HK1 := am hk'; have q1 := qBW hk' hq hn1; clear hi hb hk hk')
 all_goals (rename_i hK; refine hK _ _ ?_; clear hK hq hq2)
 all_goals first | (change wpAny _ _ _ _ 3 (mK 7 15) _ _; refine wpAny_ready (rs := [4]) (by kernel_rfl) (by simp) ?_; refine AllReady.cons rfl (fun K2 hK2 => ?_) AllReady.nil; go_simp; refine (qCy g f0 (p + 4) e n w0 _ HLE.out HI1.out).mono ?_; rintro e' w2 ⟨rfl, rfl⟩; exact ⟨rfl, rfl, HI1.out, HB1.out, HK1.out⟩) | (change wpAny _ _ _ _ 4 (mK 7 14) _ _; refine wpAny_ready (rs := [0]) (by kernel_rfl) (by simp) ?_; refine AllReady.cons rfl (fun K3 hK3 => ?_) AllReady.nil; go_simp; refine hK3 _ _ ?_; clear hK3 K3; change wpAny _ _ _ _ 3 (mK 7 15) _ _; refine wpAny_ready (rs := [4]) (by kernel_rfl) (by simp) ?_; refine AllReady.cons rfl (fun K2 hK2 => ?_) AllReady.nil; go_simp; refine (qCy g f0 (p + 4) e n w0 _ HLE.out HI1.out).mono ?_; rintro e' w2 ⟨rfl, rfl⟩; exact ⟨rfl, rfl, HI1.out, HB1.out, HK1.out⟩)
theorem qEC (b1 b2 g : Nat) (f0 : List Int) (p p' e most : Int) (c : List PanicEntry) (w0 w : World) (hq : w.cell? ⟨b1, 0, none⟩ = some (.pointer (some ⟨g, 0, none⟩))) (hq2 : w.cell? ⟨b2, 0, none⟩ = some (.int .i64 most))
  (hI : qAm w0 w g f0 p e) (hB : Below w0.heap.size w0 w)
  (hf : ∀ W, qAm w0 W g f0 p e → Below w0.heap.size w0 W → Calls Tryz.prog 145 #[.pointer (some ⟨g, 0, none⟩), .int .i64 most] W fun e' w' => e' = .panicked c ∧ qAm w0 w' g f0 p' e ∧ Below w0.heap.size w0 w' ∧ qAh W w' g none) :
  Calls Tryz.prog 144 #[.pointer (some ⟨b1, 0, none⟩), .pointer (some ⟨b2, 0, none⟩)] w fun e' w' => e' = .panicked c ∧ qAm w0 w' g f0 p' e ∧ Below w0.heap.size w0 w' ∧ qAh w w' g none := by
 have HF := am hf
 have HI := am hI
 have HB := am hB
 clear hI hB hf
 go_enter Tryz.func144, Tryz.ntmps144
 go_wp2_with fail
 go_region_dies
 all_goals (go_at_call 145; refine (HF.out _ HI.out.drew (qAM HB.out)).mono ?_; rintro e' w1 ⟨rfl, hi, hb, hk⟩; exact ⟨rfl, rfl, hi, hb, qAh.trans (qD7 (qAh.refl w g none)) hk (.inl rfl)⟩)
theorem qEP (p q : Addr) (w : World) :
  CallsD Tryz.prog 168 #[.pointer (some p), .pointer (some q)] .returning w fun e u' w' => e = .returned (.tuple #[]) ∧ u' = .returning ∧ w' = w := by
 refine callsD_of_wpS Tryz.func168 rfl fun c₀ cs hu => ?_
 apply wpS_seq
 apply wpS_region
 simp [wpOpsS, go_sem, recoverD, hu, Tryz.ntmps168, Exit.thenS]
 refine wpS_of_wp (qCT fun Q' hQ => ?_)
 have HQ := am hQ
 clear hQ
 rw [show ((#[Value.pointer (some p), Value.pointer (some q)] : Array Value) ++ (Array.replicate 15 undef).setIfInBounds 4 Value.nilIface) = #[.pointer (some p), .pointer (some q), undef, undef, undef, undef, .nilIface, undef, undef, undef, undef, undef, undef, undef, undef, undef, undef] from rfl]
 go_wp2
 refine HQ.out _ _ _ ?_
 cases c₀
 simp_all [bodyPostS, results, Tryz.results168]
theorem qEa (bv g bq : Nat) (x : Value) (k : Int) (v : Value) (older : List PanicEntry) (w : World) (hp : w.cell? ⟨bv, 0, none⟩ = some x) (hz : w.frozen? ⟨bv, 0, none⟩ = false) (hq : w.cell? ⟨bq, 0, none⟩ = some (.pointer (some ⟨g, 0, none⟩))) (hg : w.heap[g]? = some (.cells #[v, .int .i64 0] 182 (0, 0))) (hpg : bv ≠ g) (hpq : bv ≠ bq) :
  CallsD Tryz.prog 168 #[.pointer (some ⟨bv, 0, none⟩), .pointer (some ⟨bq, 0, none⟩)] (.panicking ({ v := .iface 214 (.int .i64 k), recovered := false } :: older)) w fun e u' w' =>
   e = .returned (.tuple #[]) ∧ u' = .panicking ({ v := .iface 214 (.int .i64 k), recovered := true } :: older) ∧ w' = (w.setCell ⟨bv, 0, none⟩ (.slice none 0 0)).setCell ⟨g, 1, none⟩ (.int .i64 k) := by
 have hta : ∀ (v : Value) (W : World), (Instr.typeAssert (.iface 214 v) 20 214 true).run Tryz.prog W = .ok (.tuple #[v, .bool true]) W := fun v W => by rfl
 have c1 : (w.setCell ⟨bv, 0, none⟩ (.slice none 0 0)).cell? ⟨g, 1, none⟩ = some (.int .i64 0) := (World.cell?_setCell_other _ _ _ _ (by intro e; injection e with e; exact hpg e)).trans ((qAn hg 1).trans rfl)
 have f1 : (w.setCell ⟨bv, 0, none⟩ (.slice none 0 0)).frozen? ⟨g, 1, none⟩ = false := (World.frozen?_setCell _ _ _ _).trans (qAx hg 1)
 have q1 : (w.setCell ⟨bv, 0, none⟩ (.slice none 0 0)).cell? ⟨bq, 0, none⟩ = some (.pointer (some ⟨g, 0, none⟩)) := (World.cell?_setCell_other _ _ _ _ (by intro e; injection e with e; exact hpq e)).trans hq
 refine callsD_of_wpS Tryz.func168 rfl fun c₀ cs hu => ?_
 apply wpS_seq
 apply wpS_region
 simp [wpOpsS, go_sem, recoverD, hu, Tryz.ntmps168, Exit.thenS]
 refine wpS_of_wp (qCT fun Q' hQ => ?_)
 have HQ := am hQ
 clear hQ
 rw [show ((#[Value.pointer (some ⟨bv, 0, none⟩), Value.pointer (some ⟨bq, 0, none⟩)] : Array Value) ++ (Array.replicate 15 undef).setIfInBounds 4 (Value.iface 214 (.int .i64 k))) = #[.pointer (some ⟨bv, 0, none⟩), .pointer (some ⟨bq, 0, none⟩), undef, undef, undef, undef, .iface 214 (.int .i64 k), undef, undef, undef, undef, undef, undef, undef, undef, undef, undef] from rfl]
 go_wp2
 refine HQ.out _ _ _ ?_
 cases c₀
 simp_all [bodyPostS, results, Tryz.results168]
theorem qDU (F : Value) (g : Nat) (f0 : List Int) (p e : Int) (w0 w : World) (he : e ≠ 0) (hI : qAm w0 w g f0 p e) (hB : Below w0.heap.size w0 w) :
  Calls Tryz.prog 143 #[.pointer (some ⟨g, 0, none⟩), F] w fun e' w' => e' = .returned (.slice none 0 0) ∧ qAm w0 w' g f0 p e ∧ Below w0.heap.size w0 w' ∧ qAh w w' g none := by
 have HI := am hI
 have HB := am hB
 have hgl := hI.lt
 obtain ⟨_, h1, h2, h3, v, hb, hr⟩ := hI
 have c1 : w.cell? ⟨g, 1, none⟩ = some (.int .i64 e) := (qAn hb 1).trans rfl
 have hb0 : (e != 0) = true := bne_iff_ne.mpr he
 clear hb hr hB h1 h2 h3 he
 go_enter_defers Tryz.func143, Tryz.ntmps143
 go_wp2
 exact ⟨.slice none 0 0, by simp [results, Tryz.results143, go_sem], rfl, (HI.out.alloc _).alloc _, qA3 (qA3 HB.out _) _, qBE (qBE (qAh.refl _ _ _) _) _⟩
theorem guarded_raw_ok (b1 b2 g : Nat) (f0 : List Int) (p p' : Int) (n : Nat) (bs : List Int) (w0 w : World) (hI : qAm w0 w g f0 p 0) (hB : Below w0.heap.size w0 w)
  (hfn : ∀ W, Below w.heap.size w W → qAm w0 W g f0 p 0 → Below w0.heap.size w0 W → Calls Tryz.prog 144 #[.pointer (some ⟨b1, 0, none⟩), .pointer (some ⟨b2, 0, none⟩)] W fun e w' => ∃ A c, e = .returned (.slice A n c) ∧ Kd.R (Kd.int .u8) 5 w' W.heap.size (fun _ => True) (.slice A n c) bs ∧ qAm w0 w' g f0 p' 0 ∧ Below w0.heap.size w0 w' ∧ qAh W w' g none) :
  Calls Tryz.prog 143 #[.pointer (some ⟨g, 0, none⟩), .func (.func 144) #[] #[.pointer (some ⟨b1, 0, none⟩), .pointer (some ⟨b2, 0, none⟩)]] w fun e w' => ∃ A c, e = .returned (.slice A n c) ∧ Kd.R (Kd.int .u8) 5 w' w.heap.size (fun _ => True) (.slice A n c) bs ∧ qAm w0 w' g f0 p' 0 ∧ Below w0.heap.size w0 w' ∧ qAh w w' g none := by
 have HI := am hI
 have HB := am hB
 have HFN := am hfn
 have hgl := hI.lt
 obtain ⟨_, h1, h2, h3, v, hb, hr⟩ := hI
 have c1 : w.cell? ⟨g, 1, none⟩ = some (.int .i64 0) := (qAn hb 1).trans rfl
 clear hb hr hB h1 h2 h3 hfn
 go_enter_defers Tryz.func143, Tryz.ntmps143
 have HB3 := am (((Below.refl w.heap.size w).alloc (Nat.le_refl _) (.cells #[.pointer (some ⟨g, 0, none⟩)] 124)).alloc (by simp) (.cells #[.slice none 0 0] 38))
 have H3 : qAa (((w.alloc (.cells #[.pointer (some ⟨g, 0, none⟩)] 124)).alloc (.cells #[.slice none 0 0] 38)).heap[w.heap.size + 1]? = some (.cells #[.slice none 0 0] 38 (0, 0))) := ⟨by simpa using heap_alloc_new (w.alloc (.cells #[.pointer (some ⟨g, 0, none⟩)] 124)) (.cells #[.slice none 0 0] 38)⟩
 go_wp2_with (go_at_call 144; refine (HFN.out _ HB3.out ((HI.out.alloc _).alloc _) (qA3 (qA3 HB.out _) _)).mono ?_; rintro e w4 ⟨A, c, rfl, hR, hi, hbw, hk⟩; have hv4 : w4.heap[w.heap.size + 1]? = some (.cells #[.slice none 0 0] 38 (0, 0)) := (hk.2 _ (qBd H3.out) (by omega) (by simp)).trans H3.out; have v4 : w4.cell? ⟨w.heap.size + 1, 0, none⟩ = some (.slice none 0 0) := (qAn hv4 0).trans rfl; have z4 := qAx hv4 0; have HI4 := am (hi.behind (p := ⟨w.heap.size + 1, 0, none⟩) (by show g < w.heap.size + 1; omega) (.slice A n c)); have HK4 := am (qC0 (j := 0) HB3.out hk (Nat.le_succ _) (.slice A n c)); have HV4 := am hv4; have HB4 := am (qA1 (g := w.heap.size + 1) (j := 0) (v := .slice A n c) hbw (Nat.le_trans HB.out.size (Nat.le_succ _))); have HR4 := am (Kd.R_set (Kd.R_lower hR HB3.out.size) hv4 (by decide) 0 (.slice A n c)); clear hi hk hv4 hbw hR)
 refine leaves_cons (f := 168) (args := #[.pointer (some ⟨w.heap.size + 1, 0, none⟩), .pointer (some ⟨w.heap.size, 0, none⟩)]) (by simp) (by simp [go_sem]) ?_
 refine (qEP _ _ _).mono ?_
 rintro e u' w'' ⟨rfl, rfl, rfl⟩
 have hvc : (w4.setCell ⟨w.heap.size + 1, 0, none⟩ (.slice A n c)).heap[w.heap.size + 1]? = some (.cells #[.slice A n c] 38 (0, 0)) := by simpa using qCm HV4.out 0 (.slice A n c)
 have hres := (qAn hvc 0).trans rfl
 exact ⟨.slice A n c, by simp [results, Tryz.results143, go_sem, hres], A, c, rfl, HR4.out, HI4.out, HB4.out, HK4.out⟩
theorem qCn (b1 b2 g : Nat) (f0 : List Int) (p p' : Int) (k : Int) (w0 w : World) (hI : qAm w0 w g f0 p 0) (hB : Below w0.heap.size w0 w)
  (hfn : ∀ W, Below w.heap.size w W → qAm w0 W g f0 p 0 → Below w0.heap.size w0 W → Calls Tryz.prog 144 #[.pointer (some ⟨b1, 0, none⟩), .pointer (some ⟨b2, 0, none⟩)] W fun e w' => e = .panicked [{ v := .iface 214 (.int .i64 k), recovered := false }] ∧ qAm w0 w' g f0 p' 0 ∧ Below w0.heap.size w0 w' ∧ qAh W w' g none) :
  Calls Tryz.prog 143 #[.pointer (some ⟨g, 0, none⟩), .func (.func 144) #[] #[.pointer (some ⟨b1, 0, none⟩), .pointer (some ⟨b2, 0, none⟩)]] w fun e w' => e = .returned (.slice none 0 0) ∧ qAm w0 w' g f0 p' k ∧ Below w0.heap.size w0 w' ∧ qAh w w' g none := by
 have HI := am hI
 have HB := am hB
 have HFN := am hfn
 have hgl := hI.lt
 obtain ⟨_, h1, h2, h3, v, hb, hr⟩ := hI
 have c1 : w.cell? ⟨g, 1, none⟩ = some (.int .i64 0) := (qAn hb 1).trans rfl
 clear hb hr hB h1 h2 h3 hfn
 go_enter_defers Tryz.func143, Tryz.ntmps143
 have HB3 := am (((Below.refl w.heap.size w).alloc (Nat.le_refl _) (.cells #[.pointer (some ⟨g, 0, none⟩)] 124)).alloc (by simp) (.cells #[.slice none 0 0] 38))
 have H2 : qAa (((w.alloc (.cells #[.pointer (some ⟨g, 0, none⟩)] 124)).alloc (.cells #[.slice none 0 0] 38)).heap[w.heap.size]? = some (.cells #[.pointer (some ⟨g, 0, none⟩)] 124 (0, 0))) := ⟨qAW (heap_alloc_new w _) _⟩
 have H3 : qAa (((w.alloc (.cells #[.pointer (some ⟨g, 0, none⟩)] 124)).alloc (.cells #[.slice none 0 0] 38)).heap[w.heap.size + 1]? = some (.cells #[.slice none 0 0] 38 (0, 0))) := ⟨by simpa using heap_alloc_new (w.alloc (.cells #[.pointer (some ⟨g, 0, none⟩)] 124)) (.cells #[.slice none 0 0] 38)⟩
 go_wp2_with (go_at_call 144; refine (HFN.out _ HB3.out ((HI.out.alloc _).alloc _) (qA3 (qA3 HB.out _) _)).mono ?_; rintro e w4 ⟨rfl, hi, hbw, hk⟩)
 refine leaves_cons (f := 168) (args := #[.pointer (some ⟨w.heap.size + 1, 0, none⟩), .pointer (some ⟨w.heap.size, 0, none⟩)]) (by simp) (by simp [go_sem]) ?_
 have hv4 : w4.heap[w.heap.size + 1]? = some (.cells #[.slice none 0 0] 38 (0, 0)) := (hk.2 _ (qBd H3.out) (by omega) (by simp)).trans H3.out
 have hq4 : w4.heap[w.heap.size]? = some (.cells #[.pointer (some ⟨g, 0, none⟩)] 124 (0, 0)) := (hk.2 _ (qBd H2.out) (by omega) (by simp)).trans H2.out
 obtain ⟨_, _, _, _, v4, hg4, _⟩ := id hi
 refine (qEa (w.heap.size + 1) g w.heap.size (.slice none 0 0) k v4 [] _ ((qAn hv4 0).trans rfl) (qAx hv4 0) ((qAn hq4 0).trans rfl) hg4 (by omega) (by omega)).mono ?_
 rintro e u' w'' ⟨rfl, rfl, rfl⟩
 have HI5 := am ((hi.behind (p := ⟨w.heap.size + 1, 0, none⟩) (by show g < w.heap.size + 1; omega) (.slice none 0 0)).set_e k)
 have HB5 := am (qA1 (g := g) (j := 1) (v := .int .i64 k) (qA1 (g := w.heap.size + 1) (j := 0) (v := .slice none 0 0) hbw (Nat.le_trans HB.out.size (Nat.le_succ _))) HI.out.ge)
 have HK5 := am (qAh.set_ (qC0 (j := 0) HB3.out hk (Nat.le_succ _) (.slice none 0 0)) 1 (.int .i64 k))
 have hvc := qA2 (g := w.heap.size + 1) (p := ⟨g, 1, none⟩) (qCm hv4 0 (.slice none 0 0)) (by show w.heap.size + 1 ≠ g; omega) (.int .i64 k)
 have hres := (qAn hvc 0).trans rfl
 clear hvc
 exact ⟨.slice none 0 0, by simp [results, Tryz.results143, go_sem, hres], rfl, HI5.out, HB5.out, HK5.out⟩
def qAF.f (s0_0 : List Int) (s0_1 : Int) (s0_2 : Int) (a1 : Int) : Option (List Int × Int × Int) :=
 some (if s0_2 ≠ 0 then ([], s0_1, s0_2) else if s0_1 + 4 ≤ s0_0.length then (if num4 s0_0 s0_1 ≤ 2147483647 then (if num4 s0_0 s0_1 ≤ mx a1 0 then (if s0_1 + 4 + num4 s0_0 s0_1 ≤ s0_0.length then ((s0_0.drop (s0_1 + 4).toNat).take (num4 s0_0 s0_1).toNat, s0_1 + 4 + num4 s0_0 s0_1, 0) else ([], s0_1 + 4, 40)) else ([], s0_1 + 4, 3)) else ([], s0_1 + 4, 42)) else ([], s0_1, 40))
theorem qAF.calls (g : Nat) (s0_0 : List Int) (s0_1 : Int) (s0_2 : Int) (a1 : Int) (r1 : List Int) (r2 : Int) (r3 : Int) (w0 w : World) (hI : qAm w0 w g s0_0 s0_1 s0_2) (hB : Below w0.heap.size w0 w) (h : qAF.f s0_0 s0_1 s0_2 a1 = some (r1, r2, r3)) :
  Calls Tryz.prog 89 #[.pointer (some ⟨g, 0, none⟩), .int .i64 a1] w fun e w' => ∃ v0_ : Value, e = .returned (v0_) ∧ Kd.R (Kd.int .u8) 5 w' w.heap.size (fun _ => True) v0_ r1 ∧ qAm w0 w' g s0_0 r2 r3 ∧ Below w0.heap.size w0 w' ∧ qAh w w' g none := by
 have h0 : 0 ≤ s0_1 := hI.2.1
 have hgl := hI.lt
 have HI := am ((hI.alloc (.cells #[.pointer (some ⟨g, 0, none⟩)] 124)).alloc (.cells #[.int .i64 a1] 3))
 have HB := am (qA3 (qA3 hB (.cells #[.pointer (some ⟨g, 0, none⟩)] 124)) (.cells #[.int .i64 a1] 3))
 have HK := am (qBE (qBE (qAh.refl w g none) (.cells #[.pointer (some ⟨g, 0, none⟩)] 124)) (.cells #[.int .i64 a1] 3))
 obtain ⟨W1, hW1⟩ : ∃ W1, W1 = (w.alloc (.cells #[.pointer (some ⟨g, 0, none⟩)] 124)).alloc (.cells #[.int .i64 a1] 3) := ⟨_, rfl⟩
 have hq : W1.cell? ⟨w.heap.size, 0, none⟩ = some (.pointer (some ⟨g, 0, none⟩)) := by rw [hW1]; exact (qAn (qAW (heap_alloc_new w _) _) 0).trans rfl
 have hq2 : W1.cell? ⟨w.heap.size + 1, 0, none⟩ = some (.int .i64 a1) := by rw [hW1]; exact (qAn (by simpa using heap_alloc_new (w.alloc (.cells #[.pointer (some ⟨g, 0, none⟩)] 124)) (.cells #[.int .i64 a1] 3)) 0).trans rfl
 rw [← hW1] at HI HB HK
 have HQ : qAa (∀ W, Below W1.heap.size W1 W → W.cell? ⟨w.heap.size, 0, none⟩ = some (.pointer (some ⟨g, 0, none⟩))) := ⟨fun W hW => (hW.cell (World.block_lt_of_cell? W1 _ hq)).trans hq⟩
 have HQ2 : qAa (∀ W, Below W1.heap.size W1 W → W.cell? ⟨w.heap.size + 1, 0, none⟩ = some (.int .i64 a1)) := ⟨fun W hW => (hW.cell (World.block_lt_of_cell? W1 _ hq2)).trans hq2⟩
 have HW1 := am hW1
 have hs1 : w.heap.size ≤ W1.heap.size := HK.out.1
 clear hq hq2 hW1
 unfold qAF.f at h
 injection h with h
 have HF : qAa (Calls Tryz.prog 143 #[.pointer (some ⟨g, 0, none⟩), .func (.func 144) #[] #[.pointer (some ⟨w.heap.size, 0, none⟩), .pointer (some ⟨w.heap.size + 1, 0, none⟩)]] W1 fun e w' => ∃ v0_ : Value, e = .returned (v0_) ∧ Kd.R (Kd.int .u8) 5 w' w.heap.size (fun _ => True) v0_ r1 ∧ qAm w0 w' g s0_0 r2 r3 ∧ Below w0.heap.size w0 w' ∧ qAh w w' g none) := by
  have lift : ∀ {e : Ending} {w' : World} {q : Int}, (e = .returned (.slice none 0 0) ∧ qAm w0 w' g s0_0 r2 q ∧ Below w0.heap.size w0 w' ∧ qAh W1 w' g none) → r1 = [] → r3 = q → ∃ v0_ : Value, e = .returned (v0_) ∧ Kd.R (Kd.int .u8) 5 w' w.heap.size (fun _ => True) v0_ r1 ∧ qAm w0 w' g s0_0 r2 r3 ∧ Below w0.heap.size w0 w' ∧ qAh w w' g none := by
   rintro e w' q ⟨h1, h2, h3, h4⟩ rfl rfl
   exact ⟨_, h1, Kd.R_nil _ _ _ _ _, h2, h3, HK.out.trans h4 (.inl rfl)⟩
  by_cases he : s0_2 ≠ 0
  ·rw [if_pos he] at h
   simp only [Prod.mk.injEq] at h
   obtain ⟨rfl, rfl, rfl⟩ := h
   exact ⟨(qDU _ g s0_0 _ _ w0 _ he HI.out HB.out).mono fun e' w' h => lift h rfl rfl⟩
  rw [if_neg he] at h
  simp only [Decidable.not_not] at he
  subst he
  by_cases hlt : s0_1 + 4 ≤ s0_0.length
  rotate_left
  ·rw [if_neg hlt] at h
   simp only [Prod.mk.injEq] at h
   obtain ⟨rfl, rfl, rfl⟩ := h
   exact ⟨(qCn w.heap.size (w.heap.size + 1) g s0_0 _ _ _ w0 _ HI.out HB.out (fun W h1 h2 h3 => qEC _ _ g s0_0 _ _ _ a1 _ w0 W (HQ.out W h1) (HQ2.out W h1) h2 h3 (fun W' k1 k2 => qEJ g a1 _ _ W' (qF1 g s0_0 _ _ w0 W' (by omega) k1 k2)))).mono fun e' w' h => lift h rfl rfl⟩
  rw [if_pos hlt] at h
  by_cases hv : num4 s0_0 s0_1 ≤ 2147483647
  rotate_left
  ·rw [if_neg hv] at h
   simp only [Prod.mk.injEq] at h
   obtain ⟨rfl, rfl, rfl⟩ := h
   exact ⟨(qCn w.heap.size (w.heap.size + 1) g s0_0 _ _ _ w0 _ HI.out HB.out (fun W h1 h2 h3 => qEC _ _ g s0_0 _ _ _ a1 _ w0 W (HQ.out W h1) (HQ2.out W h1) h2 h3 (fun W' k1 k2 => qEJ g a1 _ _ W' (rd_int_big g s0_0 _ _ w0 W' hlt (by omega) k1 k2)))).mono fun e' w' h => lift h rfl rfl⟩
  rw [if_pos hv] at h
  by_cases hm : num4 s0_0 s0_1 ≤ mx a1 0
  rotate_left
  ·rw [if_neg hm] at h
   simp only [Prod.mk.injEq] at h
   obtain ⟨rfl, rfl, rfl⟩ := h
   exact ⟨(qCn w.heap.size (w.heap.size + 1) g s0_0 _ _ _ w0 _ HI.out HB.out (fun W h1 h2 h3 => qEC _ _ g s0_0 _ _ _ a1 _ w0 W (HQ.out W h1) (HQ2.out W h1) h2 h3 (fun W' k1 k2 => rd_count_big g s0_0 _ _ a1 w0 W' hlt hv (by omega) k1 k2))).mono fun e' w' h => lift h rfl rfl⟩
  rw [if_pos hm] at h
  have hx0 : 0 ≤ num4 s0_0 s0_1 := qDW _
  by_cases hle : s0_1 + 4 + num4 s0_0 s0_1 ≤ s0_0.length
  rotate_left
  ·rw [if_neg hle] at h
   simp only [Prod.mk.injEq] at h
   obtain ⟨rfl, rfl, rfl⟩ := h
   exact ⟨(qCn w.heap.size (w.heap.size + 1) g s0_0 _ _ _ w0 _ HI.out HB.out (fun W h1 h2 h3 => raw_fn_short _ _ g (num4 s0_0 s0_1).toNat s0_0 _ _ a1 w0 W (HQ.out W h1) (HQ2.out W h1) (by omega) (by omega) hlt hv hm (by omega) (by omega) h2 h3)).mono fun e' w' h => lift h rfl rfl⟩
  rw [if_pos hle] at h
  simp only [Prod.mk.injEq] at h
  obtain ⟨rfl, rfl, rfl⟩ := h
  have hn : num4 s0_0 s0_1 = ((num4 s0_0 s0_1).toNat : Int) := by omega
  refine ⟨(guarded_raw_ok w.heap.size (w.heap.size + 1) g s0_0 _ (s0_1 + 4 + num4 s0_0 s0_1) (num4 s0_0 s0_1).toNat ((s0_0.drop (s0_1 + 4).toNat).take (num4 s0_0 s0_1).toNat) w0 _ HI.out HB.out (fun W h1 h2 h3 => ?_)).mono fun e' w' ⟨A, c, h1, h2, h3, h4, h5⟩ => ⟨_, h1, Kd.R_lower h2 hs1, h3, h4, HK.out.trans h5 (.inl rfl)⟩⟩
  refine (raw_fn_ok w.heap.size (w.heap.size + 1) g (num4 s0_0 s0_1).toNat s0_0 _ _ a1 w0 W (HQ.out W h1) (HQ2.out W h1) (by omega) (by omega) hlt hv hm hn (by omega) h2 h3).mono ?_
  rintro e w' ⟨A, c, k1, k2, k3, k4⟩
  exact ⟨A, c, k1, k2, by rwa [← hn] at k3, k4⟩
 rw [HW1.out] at HF
 clear h hI hB h0 HQ HQ2 HI HB HK hs1 HW1
 go_enter Tryz.func89, Tryz.ntmps89
 go_wp2_with (go_at_call 143; refine HF.out.mono ?_; rintro e w' ⟨v0, rfl, hR, hi, hb, hk⟩; have HR2 := am hR; have HI2 := am hi; have HB2 := am hb; have HK2 := am hk; clear hR hi hb hk)
 go_ret
 exact ⟨v0, rfl, HR2.out, HI2.out, HB2.out, HK2.out⟩
end Q
end
section
namespace Q
open Go.RowKit PA PC PB
attribute [local go_sem] qAX min2_int qBi min_two max_three min_three max_four min_four
def qAC.f (s0_0 : List Int) (s0_1 : Int) (s0_2 : Int) (a1 : Int) : Option (ByteArray × Int × Int) := (qAF.f s0_0 s0_1 s0_2 a1).bind fun aA => (some (strOfNums aA.1, aA.2.1, aA.2.2))
theorem qAC.calls (g : Nat) (s0_0 : List Int) (s0_1 : Int) (s0_2 : Int) (a1 : Int) (r1 : ByteArray) (r2 : Int) (r3 : Int) (w0 w : World) (hI : qAm w0 w g s0_0 s0_1 s0_2) (hB : Below w0.heap.size w0 w) (h : qAC.f s0_0 s0_1 s0_2 a1 = some (r1, r2, r3)) :
  Calls Tryz.prog 58 #[.pointer (some ⟨g, 0, none⟩), .int .i64 a1] w fun e w' => e = .returned (.string r1) ∧ qAm w0 w' g s0_0 r2 r3 ∧ Below w0.heap.size w0 w' ∧ qAh w w' g none := by
 have aF := am hI
 have HK := am (qAh.refl w g none)
 clear hI
 have HB := am hB
 clear hB
 have H : ((qAF.f s0_0 s0_1 s0_2 a1).bind fun aA => (some (strOfNums aA.1, aA.2.1, aA.2.2))) = some (r1, r2, r3) := h
 clear h
 replace H := bm H
 obtain ⟨⟨aC, aD, aE⟩, aG, H⟩ := H
 replace H : (some (strOfNums aC, aD, aE)) = some (r1, r2, r3) := H
 have A3 := am aG
 clear aG
 simp only [Option.some.injEq, Prod.mk.injEq] at H
 obtain ⟨rfl, rfl, rfl⟩ := H
 go_enter Tryz.func58, Tryz.ntmps58
 go_wp2_with ((with_reducible refine qAi (f := 89) rfl ?_); refine gL 7 Tryz.func89 #[.pointer (some ⟨g, 0, none⟩), .int .i64 a1] ?_; (with_reducible refine (qAF.calls g s0_0 s0_1 s0_2 a1 aC aD aE w0 _ ?side1 ?side2 A3.o).mono ?_); (case side1 => exact aF.o); (case side2 => exact HB.o); rintro e w4 ⟨aI, rfl, aH, hi, hb, hk⟩; refine ⟨_, rfl, ?_⟩; have n_ := a2 (Kd.R_lower aH (qBB (w := w) (g := g) (row := none) HK.o)) (a2 (qAh.trans HK.o hk (.inl rfl)) (a2 (hb) (am (hi)))); clear HK HB aF; obtain ⟨aB, HK, HB, aF⟩ := n_; have hcv5 := qEB (P := Tryz.prog) Tryz.underlying38 Tryz.underlying5 Tryz.underlying9 (Kd.own_of_R aB.o))
 go_ret
 exact ⟨by rfl, by exact aF.o, by exact HB.o, by exact HK.o⟩
end Q
end
section
namespace Q
open Go.RowKit PA PC PB
theorem step_append_zero {P : Program} {w : World} {ops : Array Oper} {o : Oper} {a : Act} {K : Act → World → Prop} {Q : Exit → Act → World → Prop} {E : Prop} (hgd : o.guard = none) (s x : Operand) (t : TypeId)
  (ho : o.op = .call { callee := .builtin .append, args := #[s, x], argTypes := #[t, t] })
  (base : Nat) (e : TypeId) (i : TypeInfo) (size : Nat) (ht : P.underlying t = some (.slice e)) (hi : P.info? e = some i)
  (v : Value) (n : Nat) (xs : List Value) (hs : a.eval s = v) (hown : w.ownsRow base e size v n xs) (A : Option Addr) (c : Nat) (hx : a.eval x = .slice A 0 c)
  (h : K (a.put o.dst v) w) :
  if Region.wanted o (yielded ops a.tmps) = true then Oper.wp P o a w K Q else E := by
 have hw : Region.wanted o (yielded ops a.tmps) = true := by simp [Region.wanted, hgd]
 rw [if_pos hw]
 have hrun := Base.run_append_zero (P := P) (w := w) base t o.type e i size ht hi v n xs hown A c
 unfold Oper.wp
 simp [execOp, ho, resolve, invoke, builtin, hs, hx, hrun, Result.andThen]
 exact h
end Q
end
section
namespace Q
open Go.RowKit PA PC PB
attribute [local go_sem] qAX min2_int qBi min_two max_three min_three max_four min_four
end Q
end
section
namespace Q
open Go.RowKit PA PC PB
open DecLaw
theorem qDS {l : List Int} (h : qBJ l) (n : Nat) : qBJ (l.take n) := fun x hx => h x (List.mem_of_mem_take hx)
theorem qCe {l : List Int} (h : qBJ l) (n : Nat) : qBJ (l.drop n) := fun x hx => h x (List.mem_of_mem_drop hx)
theorem qFB : ∀ (l : List Int), qBJ l → ∀ v : Int, 0 ≤ v → 0 ≤ l.foldl (fun v x => v * 256 + x) v ∧ l.foldl (fun v x => v * 256 + x) v < (v + 1) * 256 ^ l.length := by
 intro l
 induction l with
 | nil => intro _ v hv; simp; omega
 | cons x l ih =>
  intro h v hv
  have hx := h x List.mem_cons_self
  obtain ⟨h1, h2⟩ := ih (fun y hy => h y (List.mem_cons_of_mem _ hy)) (v * 256 + x) (by omega)
  refine ⟨h1, Int.lt_of_lt_of_le h2 ?_⟩
  rw [List.length_cons, Int.pow_succ]
  have : (v * 256 + x + 1) * 256 ^ l.length ≤ ((v + 1) * 256) * 256 ^ l.length := Int.mul_le_mul_of_nonneg_right (by omega) (Int.le_of_lt (Int.pow_pos (by decide)))
  have e : (v + 1) * (256 ^ l.length * 256) = ((v + 1) * 256) * 256 ^ l.length := by rw [Int.mul_assoc, Int.mul_comm (256 ^ l.length) 256]
  rw [e]; exact this
theorem qEE (l : List Int) (h : qBJ l) : 0 ≤ valB l ∧ valB l < 256 ^ l.length := by
 have := qFB l h 0 (Int.le_refl 0)
 unfold valB
 simpa using this
theorem numStep_eq (v x : Int) (hv : 0 ≤ v) (hv2 : v < 72057594037927936) (hx : 0 ≤ x) (hx2 : x < 256) : qD8 v x = v * 256 + x := by
 unfold qD8
 rw [Dec.wrap_256, show IntKind.u64.wrap x = x from by simp [IntKind.wrap, IntKind.bits, IntKind.signed]; omega, Dec.or_low v x hv (by omega) hx hx2]
 omega
theorem numF_fold (l : List Int) (h : qBJ l) : ∀ (v : Int), 0 ≤ v → (v + 1) * 256 ^ l.length ≤ 18446744073709551616 → l.foldl qD8 v = l.foldl (fun v x => v * 256 + x) v := by
 induction l with
 | nil => intro v _ _; rfl
 | cons x l ih =>
  intro v hv hb
  have hx := h x List.mem_cons_self
  have hp : (1 : Int) ≤ 256 ^ l.length := by have := @Int.pow_pos 256 l.length (by decide); omega
  rw [List.length_cons, Int.pow_succ] at hb
  have hv2 : v < 72057594037927936 := by
   have h1 : (v + 1) * (1 * 256) ≤ (v + 1) * (256 ^ l.length * 256) := Int.mul_le_mul_of_nonneg_left (Int.mul_le_mul_of_nonneg_right hp (by decide)) (by omega)
   omega
  simp only [List.foldl_cons]
  rw [numStep_eq v x hv hv2 hx.1 hx.2]
  refine ih (fun y hy => h y (List.mem_cons_of_mem _ hy)) _ (by omega) ?_
  have h1 : (v * 256 + x + 1) * 256 ^ l.length ≤ ((v + 1) * 256) * 256 ^ l.length := Int.mul_le_mul_of_nonneg_right (by omega) (by omega)
  have e : (v + 1) * (256 ^ l.length * 256) = ((v + 1) * 256) * 256 ^ l.length := by rw [Int.mul_assoc, Int.mul_comm (256 ^ l.length) 256]
  omega
theorem qFw (l : List Int) (h : qBJ l) (h8 : l.length ≤ 8) : numF l = valB l := by
 unfold numF valB
 refine numF_fold l h 0 (Int.le_refl 0) ?_
 have : ∀ n : Nat, n < 9 → (256 : Int) ^ n ≤ 18446744073709551616 := by decide
 have := this l.length (by omega)
 omega
abbrev Ps (α : Type) := List Int → Option (α × List Int)
def byteP : Ps Int := fun r => match r with | [] => none | x :: r => some (x, r)
def numP (m : Nat) : Ps Int := fun r => if m ≤ r.length then some (valB (r.take m), r.drop m) else none
def intP : Ps Int := fun r => if 4 ≤ r.length then (if valB (r.take 4) ≤ 2147483647 then some (valB (r.take 4), r.drop 4) else none) else none
def rawP (most : Int) : Ps (List Int) := fun r => (intP r).bind fun a => if a.1 ≤ most ∧ a.1 ≤ a.2.length then some (a.2.take a.1.toNat, a.2.drop a.1.toNat) else none
def textP (most : Int) : Ps ByteArray := fun r => (rawP most r).map fun a => (strOfNums a.1, a.2)
def Rd {α : Type} (f0 : List Int) (g : Nat → Option (α × Int × Int)) (s : Option (α × List Int)) : Prop :=
 ∃ v p e, Ev g (v, p, e) ∧ match s with
  | some (x, r) => v = x ∧ e = 0 ∧ 0 ≤ p ∧ p ≤ f0.length ∧ r = f0.drop p.toNat
  | none => e ≠ 0
def Pl (f0 : List Int) (p : Int) : Prop := 0 ≤ p ∧ p ≤ f0.length
theorem Rd.ok {α : Type} {f0 : List Int} {g : Nat → Option (α × Int × Int)} {x : α} {p : Int} (h : Ev g (x, p, 0)) (hp : Pl f0 p) : Rd f0 g (some (x, f0.drop p.toNat)) := ⟨x, p, 0, h, rfl, rfl, hp.1, hp.2, rfl⟩
theorem Rd.no {α : Type} {f0 : List Int} {g : Nat → Option (α × Int × Int)} {x : α} {p e : Int} (h : Ev g (x, p, e)) (he : e ≠ 0) : Rd f0 g none := ⟨x, p, e, h, he⟩
theorem Rd.bind {α β : Type} {f0 : List Int} {g : Nat → Option (α × Int × Int)} {s : Option (α × List Int)} {h : Nat → α × Int × Int → Option (β × Int × Int)} {t : α × List Int → Option (β × List Int)} (hg : Rd f0 g s)
  (good : ∀ x p, Pl f0 p → s = some (x, f0.drop p.toNat) → Rd f0 (fun k => h k (x, p, 0)) (t (x, f0.drop p.toNat))) (bad : ∀ x p e, e ≠ 0 → Rd f0 (fun k => h k (x, p, e)) none) : Rd f0 (fun k => (g k).bind (h k)) (s.bind t) := by
 obtain ⟨v, p, e, hv, hs⟩ := hg
 cases s with
 | none =>
  obtain ⟨v2, p2, e2, h2, hs2⟩ := bad v p e hs
  exact ⟨v2, p2, e2, Ev.bind hv h2, hs2⟩
 | some a =>
  obtain ⟨x, r⟩ := a
  obtain ⟨rfl, rfl, h0, h1, rfl⟩ := hs
  obtain ⟨v2, p2, e2, h2, hs2⟩ := good v p ⟨h0, h1⟩ rfl
  exact ⟨v2, p2, e2, Ev.bind hv h2, hs2⟩
theorem Rd.congr {α : Type} {f0 : List Int} {g h : Nat → Option (α × Int × Int)} {s t : Option (α × List Int)} (hg : Rd f0 g s) (e : ∀ k, h k = g k) (es : t = s) : Rd f0 h t := by
 subst es
 obtain ⟨v, p, e', hv, hs⟩ := hg
 exact ⟨v, p, e', Ev.congr e hv, hs⟩
theorem qFl (f0 : List Int) (p : Int) (hp : Pl f0 p) : (f0.drop p.toNat).length = f0.length - p.toNat := List.length_drop
theorem qDc (f0 : List Int) (p : Int) (n : Nat) (hp : Pl f0 p) : (f0.drop p.toNat).drop n = f0.drop (p + n).toNat := by
 rw [List.drop_drop]; congr 1; have := hp.1; omega
theorem qD4 (f0 : List Int) (hb : qBJ f0) (p : Int) (hp : Pl f0 p) : Rd f0 (fun _ => qAr.f f0 p 0) (byteP (f0.drop p.toNat)) := by
 obtain ⟨h0, h1⟩ := hp
 by_cases hlt : p < f0.length
 rotate_left
 ·rw [List.drop_eq_nil_of_le (by omega)]
  refine Rd.no (x := 0) (p := p) (e := 40) (Ev.congr (f := fun _ => some (0, p, 40)) (fun k => ?_) (Ev.now _)) (by decide)
  simp [qAr.f, hlt]
 have hc : f0.drop p.toNat = f0.getD p.toNat 0 :: f0.drop (p + 1).toNat := by
  rw [show (p + 1).toNat = p.toNat + 1 from by omega, List.drop_eq_getElem_cons (by omega), List.getD_eq_getElem?_getD, List.getElem?_eq_getElem (by omega)]; rfl
 rw [hc]
 refine Rd.ok (f0 := f0) (p := p + 1) ?_ ⟨by omega, by omega⟩
 refine Ev.congr (f := fun _ => some (f0.getD p.toNat 0, p + 1, 0)) (fun k => ?_) (Ev.now _)
 simp [qAr.f, hlt]
theorem short_good (f0 : List Int) (hb : qBJ f0) (p : Int) (hp : Pl f0 p) : Rd f0 (fun _ => qBe.f f0 p 0) (numP 2 (f0.drop p.toNat)) := by
 have hd := qFl f0 p hp
 unfold numP
 by_cases h : 2 ≤ (f0.drop p.toNat).length
 rotate_left
 ·rw [if_neg h]
  have hp2 : ¬ p + 2 ≤ f0.length := by have := hp.1; omega
  exact Rd.no (x := 0) (p := p) (e := 40) (Ev.congr (f := fun _ => some (0, p, 40)) (fun k => by simp [qBe.f, hp2]) (Ev.now _)) (by decide)
 rw [if_pos h, qDc f0 p 2 hp]
 have hp2 : p + 2 ≤ f0.length := by have := hp.1; omega
 have hv := qEE _ (qDS (qCe hb p.toNat) 2)
 have h2 : ((f0.drop p.toNat).take 2).length = 2 := by rw [List.length_take]; omega
 rw [h2] at hv
 have hn : wrap64 (numF ((f0.drop p.toNat).take 2)) = valB ((f0.drop p.toNat).take 2) := by
  rw [qFw _ (qDS (qCe hb p.toNat) 2) (by omega)]
  unfold wrap64; omega
 exact Rd.ok (Ev.congr (f := fun _ => some (valB ((f0.drop p.toNat).take 2), p + (2 : Nat), 0)) (fun k => by simp [qBe.f, hp2, hn]) (Ev.now _)) ⟨by have := hp.1; omega, hp2⟩
theorem long_good (f0 : List Int) (hb : qBJ f0) (p : Int) (hp : Pl f0 p) : Rd f0 (fun _ => qBn.f f0 p 0) (numP 8 (f0.drop p.toNat)) := by
 have hd := qFl f0 p hp
 unfold numP
 by_cases h : 8 ≤ (f0.drop p.toNat).length
 rotate_left
 ·rw [if_neg h]
  have hp2 : ¬ p + 8 ≤ f0.length := by have := hp.1; omega
  exact Rd.no (x := 0) (p := p) (e := 40) (Ev.congr (f := fun _ => some (0, p, 40)) (fun k => by simp [qBn.f, hp2]) (Ev.now _)) (by decide)
 rw [if_pos h, qDc f0 p 8 hp]
 have hp2 : p + 8 ≤ f0.length := by have := hp.1; omega
 have h2 : ((f0.drop p.toNat).take 8).length = 8 := by rw [List.length_take]; omega
 have hn : numF ((f0.drop p.toNat).take 8) = valB ((f0.drop p.toNat).take 8) := qFw _ (qDS (qCe hb p.toNat) 8) (by omega)
 exact Rd.ok (Ev.congr (f := fun _ => some (valB ((f0.drop p.toNat).take 8), p + (8 : Nat), 0)) (fun k => by simp [qBn.f, hp2, hn]) (Ev.now _)) ⟨by have := hp.1; omega, hp2⟩
theorem num4_eq (f0 : List Int) (hb : qBJ f0) (p : Int) (hp : Pl f0 p) (h : 4 ≤ (f0.drop p.toNat).length) : num4 f0 p = valB ((f0.drop p.toNat).take 4) := by
 unfold num4
 exact qFw _ (qDS (qCe hb p.toNat) 4) (by rw [List.length_take]; omega)
theorem int_good (f0 : List Int) (hb : qBJ f0) (p : Int) (hp : Pl f0 p) : Rd f0 (fun _ => qBa.f f0 p 0) (intP (f0.drop p.toNat)) := by
 have hd := qFl f0 p hp
 unfold intP
 by_cases h : 4 ≤ (f0.drop p.toNat).length
 rotate_left
 ·rw [if_neg h]
  have hp2 : ¬ p + 4 ≤ f0.length := by have := hp.1; omega
  exact Rd.no (x := 0) (p := p) (e := 40) (Ev.congr (f := fun _ => some (0, p, 40)) (fun k => by simp [qBa.f, hp2]) (Ev.now _)) (by decide)
 rw [if_pos h, qDc f0 p 4 hp]
 have hp2 : p + 4 ≤ f0.length := by have := hp.1; omega
 have hn := num4_eq f0 hb p hp h
 by_cases hv : valB ((f0.drop p.toNat).take 4) ≤ 2147483647
 rotate_left
 ·rw [if_neg hv]
  exact Rd.no (x := 0) (p := p + 4) (e := 42) (Ev.congr (f := fun _ => some (0, p + 4, 42)) (fun k => by simp [qBa.f, hp2, hn, hv]) (Ev.now _)) (by decide)
 rw [if_pos hv]
 exact Rd.ok (Ev.congr (f := fun _ => some (valB ((f0.drop p.toNat).take 4), p + (4 : Nat), 0)) (fun k => by simp [qBa.f, hp2, hn, hv]) (Ev.now _)) ⟨by have := hp.1; omega, hp2⟩
theorem raw_good (f0 : List Int) (hb : qBJ f0) (most : Int) (hm : 0 ≤ most) (p : Int) (hp : Pl f0 p) : Rd f0 (fun _ => qAF.f f0 p 0 most) (rawP most (f0.drop p.toNat)) := by
 have hd := qFl f0 p hp
 have hmx : mx most 0 = most := by unfold mx; omega
 unfold rawP intP
 by_cases h : 4 ≤ (f0.drop p.toNat).length
 rotate_left
 ·rw [if_neg h]
  have hp2 : ¬ p + 4 ≤ f0.length := by have := hp.1; omega
  refine Rd.no (x := []) (p := p) (e := 40) (Ev.congr (f := fun _ => some ([], p, 40)) (fun k => ?_) (Ev.now _)) (by decide)
  unfold qAF.f
  rw [if_neg (by simp), if_neg hp2]
 rw [if_pos h, qDc f0 p 4 hp]
 have hp2 : p + 4 ≤ f0.length := by have := hp.1; omega
 have hp4 : Pl f0 (p + (4 : Nat)) := ⟨by have := hp.1; omega, hp2⟩
 have hn := num4_eq f0 hb p hp h
 have hd4 := qFl f0 _ hp4
 have hv0 := (qEE _ (qDS (qCe hb p.toNat) 4)).1
 generalize valB ((f0.drop p.toNat).take 4) = n at *
 by_cases hv : n ≤ 2147483647
 rotate_left
 ·rw [if_neg hv]
  refine Rd.no (x := []) (p := p + 4) (e := 42) (Ev.congr (f := fun _ => some ([], p + 4, 42)) (fun k => ?_) (Ev.now _)) (by decide)
  unfold qAF.f
  rw [hn, hmx, if_neg (by simp), if_pos hp2, if_neg hv]
 rw [if_pos hv]
 simp only [Option.bind_some]
 by_cases hq : n ≤ most ∧ n ≤ (f0.drop (p + (4 : Nat)).toNat).length
 ·rw [if_pos hq]
  have hq2 : p + 4 + n ≤ f0.length := by have := hp.1; omega
  have hdd := qDc f0 (p + (4 : Nat)) n.toNat hp4
  rw [hdd]
  refine Rd.ok (p := p + (4 : Nat) + (n.toNat : Nat)) (Ev.congr (f := fun _ => some ((f0.drop (p + (4 : Nat)).toNat).take n.toNat, p + (4 : Nat) + (n.toNat : Nat), 0)) (fun k => ?_) (Ev.now _)) ⟨by have := hp.1; omega, by omega⟩
  unfold qAF.f
  rw [hn, hmx, if_neg (by simp), if_pos hp2, if_pos hv, if_pos hq.1, if_pos hq2]
  rw [show ((n.toNat : Nat) : Int) = n from by omega]; rfl
 rw [if_neg hq]
 by_cases hq1 : n ≤ most
 rotate_left
 ·refine Rd.no (x := []) (p := p + 4) (e := 3) (Ev.congr (f := fun _ => some ([], p + 4, 3)) (fun k => ?_) (Ev.now _)) (by decide)
  unfold qAF.f
  rw [hn, hmx, if_neg (by simp), if_pos hp2, if_pos hv, if_neg hq1]
 have hq2 : ¬ p + 4 + n ≤ f0.length := fun hh => hq ⟨hq1, by have := hp.1; omega⟩
 refine Rd.no (x := []) (p := p + 4) (e := 40) (Ev.congr (f := fun _ => some ([], p + 4, 40)) (fun k => ?_) (Ev.now _)) (by decide)
 unfold qAF.f
 rw [hn, hmx, if_neg (by simp), if_pos hp2, if_pos hv, if_pos hq1, if_neg hq2]
theorem qDG (f0 : List Int) (hb : qBJ f0) (most : Int) (hm : 0 ≤ most) (p : Int) (hp : Pl f0 p) : Rd f0 (fun _ => qAC.f f0 p 0 most) (textP most (f0.drop p.toNat)) := by
 have h := raw_good f0 hb most hm p hp
 refine Rd.congr (g := fun k => (qAF.f f0 p 0 most).bind fun b => some (strOfNums b.1, b.2.1, b.2.2)) (s := (rawP most (f0.drop p.toNat)).bind fun a => some (strOfNums a.1, a.2)) ?_ (fun k => rfl) (by unfold textP; cases rawP most (f0.drop p.toNat) <;> rfl)
 exact Rd.bind h (fun x p hp _ => Rd.ok (Ev.now _) hp) (fun x p e he => Rd.no (Ev.now _) he)
end Q
end
section
namespace Q
open Go.RowKit PA PC PB
attribute [local go_sem] qAX min2_int qBi min_two max_three min_three max_four min_four
def qA6.l0 : Nat → List Int → List Int → Int → Option (Bool)
 | 0, _, _, _ => none
 | k + 1, x0, x1, x5 => if x5 < (x0.length : Int) then (if 0 ≤ x5 then (if x5 < (x1.length : Int) then (if (rd x0 x5) = (rd x1 x5) then (qA6.l0 k x0 x1 (wrap64 (x5 + 1))) else (some false)) else (none)) else (none)) else (some true)
def qA6.f (k : Nat) (l0 : List Int) (l1 : List Int) : Option (Bool) := if (l0.length : Int) = (l1.length : Int) then (qA6.l0 k l0 l1 0) else (some false)
theorem qA6.calls (k : Nat) (A0 : Option Addr) (c0 : Nat) (l0 : List Int) (A1 : Option Addr) (c1 : Nat) (l1 : List Int) (r : Bool) (w : World) (hr0 : Kd.C (Kd.int .i64) w A0 l0.length l0) (hc0 : l0.length ≤ c0) (hr1 : Kd.C (Kd.int .i64) w A1 l1.length l1) (hc1 : l1.length ≤ c1) (h : qA6.f k l0 l1 = some r) :
  Calls Tryz.prog 23 #[.slice A0 l0.length c0, .slice A1 l1.length c1] w fun e w' => e = .returned (.bool r) ∧ qAS w w' := by
 have aR := am hr0
 clear hr0 hc0
 have aS := am hr1
 clear hr1 hc1
 have H : (if (l0.length : Int) = (l1.length : Int) then (qA6.l0 k l0 l1 0) else (some false)) = some r := h
 clear h
 by_cases c3 : (l0.length : Int) = (l1.length : Int)
 ·rw [if_pos c3] at H
  have aM : ((l0.length : Int) == (l1.length : Int)) = true := beq_iff_eq.mpr c3
  have aL : ((l0.length : Int) != (l1.length : Int)) = false := bn c3
  have aN : (l0.length == l1.length) = true := by (simp at c3 ⊢; omega)
  clear c3
  have H' := am H
  clear H
  go_enter Tryz.func23, Tryz.ntmps23
  go_wp2
  repeat (go_quiet (fail))
  go_loopg [5] k (fun kq v5 w' => ∃ (aA : Int), v5 = .int .i64 aA ∧ qAa (qA6.l0 kq l0 l1 aA = some r) ∧ qAa (kq ≤ k) ∧ qAS w w')
  case atStart => exact ⟨(0), (by rfl), H', ⟨Nat.le_refl _⟩, by exact qAS.refl _⟩
  case round =>
   clear H'
   obtain ⟨aA, rfl, HA, aQ, ⟨m1, rfl⟩⟩ := hrel
   cases gk with
   | zero => exact absurd HA.o (by simp [qA6.l0])
   | succ k1 =>
    have H := HA.o
    clear HA
    simp only [qA6.l0] at H
    by_cases c4 : aA < (l0.length : Int)
    rotate_left
    ·rw [if_neg c4] at H
     replace c4 := d0 c4
     obtain rfl := Option.some.inj H
     go_wp2
     repeat (go_quiet (fail))
     go_ret
     exact ⟨by rfl, by repeat (first | exact qAS.refl _ | apply qAS.step)⟩
    rw [if_pos c4] at H
    replace c4 := d1 c4
    obtain ⟨c5, H⟩ := gd H
    replace c5 := d1 c5
    obtain ⟨c6, H⟩ := gd H
    replace c6 := d1 c6
    by_cases c7 : (rd l0 aA) = (rd l1 aA)
    rotate_left
    ·rw [if_neg c7] at H
     have aP : ((rd l0 aA) != (rd l1 aA)) = true := bne_iff_ne.mpr c7
     obtain rfl := Option.some.inj H
     have aB : 0 ≤ aA := od (by assumption)
     have aC : aA < (l0.length : Int) := od (by assumption)
     obtain ⟨aJ, aG, aE⟩ := Kd.at_int aR.o aA aB aC
     cases aG
     replace aB := eq_true aB
     replace aC := eq_true aC
     have aI : 0 ≤ aA := od (by assumption)
     have aD : aA < (l1.length : Int) := od (by assumption)
     obtain ⟨aK, aH, aF⟩ := Kd.at_int aS.o aA aI aD
     cases aH
     replace aD := eq_true aD
     go_wp2
     repeat (go_quiet (fail); try go_wp2)
     go_ret
     exact ⟨by rfl, by repeat (first | exact qAS.refl _ | apply qAS.step)⟩
    rw [if_pos c7] at H
    have aP : ((rd l0 aA) != (rd l1 aA)) = false := bn c7
    clear c7
    have H' := am H
    clear H
    have aB : 0 ≤ aA := od (by assumption)
    have aC : aA < (l0.length : Int) := od (by assumption)
    obtain ⟨aJ, aG, aE⟩ := Kd.at_int aR.o aA aB aC
    cases aG
    replace aB := eq_true aB
    replace aC := eq_true aC
    have aI : 0 ≤ aA := od (by assumption)
    have aD : aA < (l1.length : Int) := od (by assumption)
    obtain ⟨aK, aH, aF⟩ := Kd.at_int aS.o aA aI aD
    cases aH
    replace aD := eq_true aD
    go_wp2
    repeat (go_quiet (fail); try go_wp2)
    go_roundg k1
    case measure => have := aQ.o; omega
    case rel => exact ⟨(wrap64 (aA + 1)), (by rfl), H', ⟨by have := aQ.o; omega⟩, by repeat (first | exact qAS.refl _ | apply qAS.step)⟩
 ·rw [if_neg c3] at H
  have aL : ((l0.length : Int) != (l1.length : Int)) = true := bne_iff_ne.mpr c3
  obtain rfl := Option.some.inj H
  go_enter Tryz.func23, Tryz.ntmps23
  go_wp2
  repeat (go_quiet (fail))
  go_ret
  exact ⟨by rfl, by exact qAS.refl _⟩
theorem eqA83 (d : Nat) (w : World) (x0 y0 : Int) (x1 y1 : Int) :
  (Op.equalIn (d + 2) 83 (.agg #[.int .i64 x0, .int .u64 x1]) (.agg #[.int .i64 y0, .int .u64 y1])).run Tryz.prog w = .ok (x0 == y0 && (x1 == y1)) w := by
 refine eqA_of Tryz.underlying83 (by kernel_rfl) ?_
 refine eqf_cons (by rfl) (by go_simp; rfl) (by go_simp; rfl) (by go_simp) ?_
 exact eqf_last (by rfl) (by go_simp; rfl) (by go_simp; rfl) (by go_simp)
attribute [local go_sem high] eqA83
mutual
def qAo.j0 : Nat → Bool → List Int → Int → List Int → List (S144) → List Int → Int → List Int → List (S172) → Option (Bool)
 | 0, _, _, _, _, _, _, _, _, _ => none
 | k + 1, cg, aV, aW, aX, aL, aY, aZ, a8, aM => if cg = true then (some false) else (qAo.l0 k 0 aV aW aX aL aY aZ a8 aM)
def qAo.l0 : Nat → Int → List Int → Int → List Int → List (S144) → List Int → Int → List Int → List (S172) → Option (Bool)
 | 0, _, _, _, _, _, _, _, _, _ => none
 | k + 1, x5, aV, aW, aX, aL, aY, aZ, a8, aM => if x5 < (aL.length : Int) then (if 0 ≤ x5 then (if x5 < (aM.length : Int) then (if ((qAL aL x5).f0) = ((qAv aM x5).f0) then (if ((qAL aL x5).f1) = ((qAv aM x5).f1) then (if (!(((qAL aL x5).f2.f0) == ((qAv aM x5).f2.f0)) || (!(((qAL aL x5).f2.f1) == ((qAv aM x5).f2.f1)))) = true then (some false) else (qAo.l0 k (wrap64 (x5 + 1)) aV aW aX aL aY aZ a8 aM)) else (some false)) else (some false)) else (none)) else (none)) else (some true)
end
def qAo.f (k : Nat) (l0_0 : List Int) (a0_1 : Int) (l0_2 : List Int) (l0_3 : List (S144)) (l1_0 : List Int) (a1_1 : Int) (l1_2 : List Int) (l1_3 : List (S172)) : Option (Bool) := if a0_1 = a1_1 then ((qA6.f k l0_0 l1_0).bind fun ao => (if ao = true then ((qA6.f k l0_2 l1_2).bind fun aU => (if aU = true then (qAo.j0 k ((l0_3.length : Int) != (l1_3.length : Int)) l0_0 a0_1 l0_2 l0_3 l1_0 a1_1 l1_2 l1_3) else (qAo.j0 k true l0_0 a0_1 l0_2 l0_3 l1_0 a1_1 l1_2 l1_3))) else (qAo.j0 k true l0_0 a0_1 l0_2 l0_3 l1_0 a1_1 l1_2 l1_3))) else (qAo.j0 k true l0_0 a0_1 l0_2 l0_3 l1_0 a1_1 l1_2 l1_3)
theorem qAo.calls (k : Nat) (ap : Option Addr) (bD : Nat) (l0_0 : List Int) (a0_1 : Int) (aq : Option Addr) (bE : Nat) (l0_2 : List Int) (ar : Option Addr) (bF : Nat) (l0_3 : List (S144)) (au : Option Addr) (bG : Nat) (l1_0 : List Int) (a1_1 : Int) (av : Option Addr) (bH : Nat) (l1_2 : List Int) (aw : Option Addr) (bI : Nat) (l1_3 : List (S172)) (r : Bool) (w : World) (hr0_0 : Kd.C (Kd.int .i64) w ap l0_0.length l0_0) (hc0_0 : l0_0.length ≤ bD) (hr0_2 : Kd.C (Kd.int .i64) w aq l0_2.length l0_2) (hc0_2 : l0_2.length ≤ bE) (hr0_3 : Kd.C k144 w ar l0_3.length l0_3) (hc0_3 : l0_3.length ≤ bF) (hr1_0 : Kd.C (Kd.int .i64) w au l1_0.length l1_0) (hc1_0 : l1_0.length ≤ bG) (hr1_2 : Kd.C (Kd.int .i64) w av l1_2.length l1_2) (hc1_2 : l1_2.length ≤ bH) (hr1_3 : Kd.C k172 w aw l1_3.length l1_3) (hc1_3 : l1_3.length ≤ bI) (h : qAo.f k l0_0 a0_1 l0_2 l0_3 l1_0 a1_1 l1_2 l1_3 = some r) :
  Calls Tryz.prog 54 #[.agg #[.slice ap l0_0.length bD, .int .i64 a0_1, .slice aq l0_2.length bE, .slice ar l0_3.length bF], .agg #[.slice au l1_0.length bG, .int .i64 a1_1, .slice av l1_2.length bH, .slice aw l1_3.length bI]] w fun e w' => e = .returned (.bool r) ∧ Below w.heap.size w w' := by
 have az := am hr0_0
 have ax := am hc0_0
 clear hr0_0 hc0_0
 have bZ := am hr0_2
 have bX := am hc0_2
 clear hr0_2 hc0_2
 have aQ := am hr0_3
 clear hr0_3 hc0_3
 have bA := am hr1_0
 have ay := am hc1_0
 clear hr1_0 hc1_0
 have b0 := am hr1_2
 have bY := am hc1_2
 clear hr1_2 hc1_2
 have aR := am hr1_3
 clear hr1_3 hc1_3
 have HB := am (Below.refl w.heap.size w)
 have H : (if a0_1 = a1_1 then ((qA6.f k l0_0 l1_0).bind fun ao => (if ao = true then ((qA6.f k l0_2 l1_2).bind fun aU => (if aU = true then (qAo.j0 k ((l0_3.length : Int) != (l1_3.length : Int)) l0_0 a0_1 l0_2 l0_3 l1_0 a1_1 l1_2 l1_3) else (qAo.j0 k true l0_0 a0_1 l0_2 l0_3 l1_0 a1_1 l1_2 l1_3))) else (qAo.j0 k true l0_0 a0_1 l0_2 l0_3 l1_0 a1_1 l1_2 l1_3))) else (qAo.j0 k true l0_0 a0_1 l0_2 l0_3 l1_0 a1_1 l1_2 l1_3)) = some r := h
 clear h
 have cV := am H
 clear H
 go_enter Tryz.func54, Tryz.ntmps54
 go_upto_region 1 with (first | ((with_reducible refine qAK (N := 2) rfl ?_); (try (refine qBO (by rfl) ?_; dsimp only)); refine bx 2 #[.slice ap l0_0.length bD, .int .i64 a0_1, .slice aq l0_2.length bE, .slice ar l0_3.length bF] 90 ?_; intro b1 hg w4 hbox hb; have n_ := a2 (qAe HB.o hb) (am (hbox)); clear HB; obtain ⟨HB, aF⟩ := n_; clear hb hbox hg) | ((with_reducible refine qAK (N := 3) rfl ?_); (try (refine qBO (by rfl) ?_; dsimp only)); refine bx 3 #[.slice au l1_0.length bG, .int .i64 a1_1, .slice av l1_2.length bH, .slice aw l1_3.length bI] 98 ?_; intro b2 hg w5 hbox hb; have n_ := a2 (qAk aF.o hb) (a2 (qAe HB.o hb) (am (hbox))); clear aF HB; obtain ⟨aF, HB, aG⟩ := n_; clear hb hbox hg))
 repeat (go_quiet (fail); go_upto_region 1 with (fail))
 (skip)
 go_cut [39] (fun cf wc => ∃ (kq : Nat) (an : Bool), cf = .bool an ∧ qAa (qAo.j0 kq an l0_0 a0_1 l0_2 l0_3 l1_0 a1_1 l1_2 l1_3 = some r) ∧ qAa (kq ≤ k) ∧ qAa (wc.heap[b1]? = some (.cells #[(.slice ap l0_0.length bD), .int .i64 a0_1, (.slice aq l0_2.length bE), (.slice ar l0_3.length bF)] 90 (0, 0))) ∧ qAa (wc.heap[b2]? = some (.cells #[(.slice au l1_0.length bG), .int .i64 a1_1, (.slice av l1_2.length bH), (.slice aw l1_3.length bI)] 98 (0, 0))) ∧ qAa (Below w.heap.size w wc))
 case first =>
  have H := cV.o
  clear cV
  by_cases c6 : a0_1 = a1_1
  rotate_left
  ·rw [if_neg c6] at H
   have cW : (a0_1 != a1_1) = true := bne_iff_ne.mpr c6
   (skip)
   have H' := am H
   clear H
   obtain ⟨-, cK⟩ := c2_ w5 aF.o
   obtain ⟨-, cL⟩ := c2_ w5 aG.o
   go_wp2
   repeat (go_quiet (fail))
   go_meet
   case rel => exact ⟨_, (true), (by rfl), H', ⟨by omega⟩, ⟨by exact aF.o⟩, ⟨by exact aG.o⟩, ⟨by exact HB.o⟩⟩
  rw [if_pos c6] at H
  have cW : (a0_1 != a1_1) = false := bn c6
  clear c6
  (skip)
  replace H := bm H
  obtain ⟨ao, cY, H⟩ := H
  replace H : (if ao = true then ((qA6.f k l0_2 l1_2).bind fun aU => (if aU = true then (qAo.j0 k ((l0_3.length : Int) != (l1_3.length : Int)) l0_0 a0_1 l0_2 l0_3 l1_0 a1_1 l1_2 l1_3) else (qAo.j0 k true l0_0 a0_1 l0_2 l0_3 l1_0 a1_1 l1_2 l1_3))) else (qAo.j0 k true l0_0 a0_1 l0_2 l0_3 l1_0 a1_1 l1_2 l1_3)) = some r := H
  have A7 := am cY
  clear cY
  by_cases c8 : ao = true
  rotate_left
  ·replace c8 := Bool.eq_false_iff.mpr c8
   subst c8
   replace H : (qAo.j0 k true l0_0 a0_1 l0_2 l0_3 l1_0 a1_1 l1_2 l1_3) = some r := by rw [if_neg (show ¬ (false = true) by decide)] at H; exact H
   have H' := am H
   clear H
   obtain ⟨cG, cH⟩ := c2_ w5 aF.o
   obtain ⟨cI, cJ⟩ := c2_ w5 aG.o
   go_wp2_with (go_at_call 23; (with_reducible refine (qA6.calls k _ _ l0_0 _ _ l1_0 false _ ?side1 ?side2 ?side3 ?side4 A7.o).mono ?_); (case side1 => exact (Kd.C_below az.o HB.o)); (case side2 => exact ax.o); (case side3 => exact (Kd.C_below bA.o HB.o)); (case side4 => exact ay.o); rintro e w' ⟨rfl, ⟨nd, rfl⟩⟩; (skip))
   repeat (go_quiet (fail))
   go_meet
   case rel => exact ⟨_, (true), (by rfl), H', ⟨by omega⟩, ⟨by (with_reducible repeat (refine qBr ?_ _)); exact aF.o⟩, ⟨by (with_reducible repeat (refine qBr ?_ _)); exact aG.o⟩, ⟨by repeat (with_reducible first | exact HB.o | apply qAl)⟩⟩
  subst c8
  replace H : ((qA6.f k l0_2 l1_2).bind fun aU => (if aU = true then (qAo.j0 k ((l0_3.length : Int) != (l1_3.length : Int)) l0_0 a0_1 l0_2 l0_3 l1_0 a1_1 l1_2 l1_3) else (qAo.j0 k true l0_0 a0_1 l0_2 l0_3 l1_0 a1_1 l1_2 l1_3))) = some r := by rw [if_pos rfl] at H; exact H
  replace H := bm H
  obtain ⟨aU, cZ, H⟩ := H
  replace H : (if aU = true then (qAo.j0 k ((l0_3.length : Int) != (l1_3.length : Int)) l0_0 a0_1 l0_2 l0_3 l1_0 a1_1 l1_2 l1_3) else (qAo.j0 k true l0_0 a0_1 l0_2 l0_3 l1_0 a1_1 l1_2 l1_3)) = some r := H
  have A9 := am cZ
  clear cZ
  by_cases c10 : aU = true
  ·subst c10
   replace H : (qAo.j0 k ((l0_3.length : Int) != (l1_3.length : Int)) l0_0 a0_1 l0_2 l0_3 l1_0 a1_1 l1_2 l1_3) = some r := by rw [if_pos rfl] at H; exact H
   have H' := am H
   clear H
   obtain ⟨bo, bp, bq, br⟩ := c4_ w5 aF.o
   obtain ⟨bs, bu, bw, bz⟩ := c4_ w5 aG.o
   go_wp2_with (first | (go_at_call 23; (with_reducible refine (qA6.calls k _ _ l0_0 _ _ l1_0 true _ ?side1 ?side2 ?side3 ?side4 A7.o).mono ?_); (case side1 => exact (Kd.C_below az.o HB.o)); (case side2 => exact ax.o); (case side3 => exact (Kd.C_below bA.o HB.o)); (case side4 => exact ay.o); rintro e w' ⟨rfl, ⟨nd, rfl⟩⟩; (skip)) | (go_at_call 23; (with_reducible refine (qA6.calls k _ _ l0_2 _ _ l1_2 true _ ?side1 ?side2 ?side3 ?side4 A9.o).mono ?_); (case side1 => repeat (exact (Kd.C_below bZ.o (by repeat (with_reducible first | exact HB.o | apply qAl))))); (case side2 => exact bX.o); (case side3 => repeat (exact (Kd.C_below b0.o (by repeat (with_reducible first | exact HB.o | apply qAl))))); (case side4 => exact bY.o); rintro e w' ⟨rfl, ⟨nd, rfl⟩⟩; (skip)))
   repeat (go_quiet (fail))
   go_meet
   case rel => exact ⟨_, ((l0_3.length : Int) != (l1_3.length : Int)), (by rfl), H', ⟨by omega⟩, ⟨by (with_reducible repeat (refine qBr ?_ _)); exact aF.o⟩, ⟨by (with_reducible repeat (refine qBr ?_ _)); exact aG.o⟩, ⟨by repeat (with_reducible first | exact HB.o | apply qAl)⟩⟩
  replace c10 := Bool.eq_false_iff.mpr c10
  subst c10
  replace H : (qAo.j0 k true l0_0 a0_1 l0_2 l0_3 l1_0 a1_1 l1_2 l1_3) = some r := by rw [if_neg (show ¬ (false = true) by decide)] at H; exact H
  have H' := am H
  clear H
  obtain ⟨cA, cB, cC⟩ := c3_ w5 aF.o
  obtain ⟨cD, cE, cF⟩ := c3_ w5 aG.o
  go_wp2_with (first | (go_at_call 23; (with_reducible refine (qA6.calls k _ _ l0_0 _ _ l1_0 true _ ?side1 ?side2 ?side3 ?side4 A7.o).mono ?_); (case side1 => exact (Kd.C_below az.o HB.o)); (case side2 => exact ax.o); (case side3 => exact (Kd.C_below bA.o HB.o)); (case side4 => exact ay.o); rintro e w' ⟨rfl, ⟨nd, rfl⟩⟩; (skip)) | (go_at_call 23; (with_reducible refine (qA6.calls k _ _ l0_2 _ _ l1_2 false _ ?side1 ?side2 ?side3 ?side4 A9.o).mono ?_); (case side1 => repeat (exact (Kd.C_below bZ.o (by repeat (with_reducible first | exact HB.o | apply qAl))))); (case side2 => exact bX.o); (case side3 => repeat (exact (Kd.C_below b0.o (by repeat (with_reducible first | exact HB.o | apply qAl))))); (case side4 => exact bY.o); rintro e w' ⟨rfl, ⟨nd, rfl⟩⟩; (skip)))
  repeat (go_quiet (fail))
  go_meet
  case rel => exact ⟨_, (true), (by rfl), H', ⟨by omega⟩, ⟨by (with_reducible repeat (refine qBr ?_ _)); exact aF.o⟩, ⟨by (with_reducible repeat (refine qBr ?_ _)); exact aG.o⟩, ⟨by repeat (with_reducible first | exact HB.o | apply qAl)⟩⟩
 case rest =>
  clear cV
  obtain ⟨kq, an, rfl, HA, c0, aF, aG, HB⟩ := hcut
  cases kq with
  | zero => exact absurd HA.o (by simp [qAo.j0])
  | succ cX =>
   have H := HA.o
   clear HA
   simp only [qAo.j0] at H
   by_cases bj : an = true
   ·subst bj
    replace H : (some false) = some r := by rw [if_pos rfl] at H; exact H
    obtain rfl := Option.some.inj H
    go_wp2
    repeat (go_quiet (fail))
    go_ret
    exact ⟨by rfl, by exact HB.o⟩
   replace bj := Bool.eq_false_iff.mpr bj
   subst bj
   replace H : (qAo.l0 cX 0 l0_0 a0_1 l0_2 l0_3 l1_0 a1_1 l1_2 l1_3) = some r := by rw [if_neg (show ¬ (false = true) by decide)] at H; exact H
   have H' := am H
   clear H
   go_wp2
   repeat (go_quiet (fail))
   go_loopg [5] cX (fun kq v5 w' => ∃ (aA : Int), v5 = .int .i64 aA ∧ qAa (qAo.l0 kq aA l0_0 a0_1 l0_2 l0_3 l1_0 a1_1 l1_2 l1_3 = some r) ∧ qAa (kq ≤ cX) ∧ qAa (w'.heap[b1]? = some (.cells #[(.slice ap l0_0.length bD), .int .i64 a0_1, (.slice aq l0_2.length bE), (.slice ar l0_3.length bF)] 90 (0, 0))) ∧ qAa (w'.heap[b2]? = some (.cells #[(.slice au l1_0.length bG), .int .i64 a1_1, (.slice av l1_2.length bH), (.slice aw l1_3.length bI)] 98 (0, 0))) ∧ qAa (Below w.heap.size w w'))
   case atStart => exact ⟨(0), (by rfl), H', ⟨Nat.le_refl _⟩, ⟨by exact aF.o⟩, ⟨by exact aG.o⟩, ⟨by exact HB.o⟩⟩
   case round =>
    clear H'
    obtain ⟨aA, rfl, HA, c1, aF, aG, HB⟩ := hrel
    cases gk with
    | zero => exact absurd HA.o (by simp [qAo.l0])
    | succ k2 =>
     have H := HA.o
     clear HA
     simp only [qAo.l0] at H
     by_cases b9 : aA < (l0_3.length : Int)
     rotate_left
     ·rw [if_neg b9] at H
      replace b9 := d0 b9
      obtain rfl := Option.some.inj H
      obtain ⟨-, -, -, cU⟩ := c4_ wr aF.o
      go_wp2
      repeat (go_quiet (fail))
      go_ret
      exact ⟨by rfl, by exact HB.o⟩
     rw [if_pos b9] at H
     replace b9 := d1 b9
     obtain ⟨bk, H⟩ := gd H
     replace bk := d1 bk
     obtain ⟨bl, H⟩ := gd H
     replace bl := d1 bl
     by_cases ba : ((qAL l0_3 aA).f0) = ((qAv l1_3 aA).f0)
     rotate_left
     ·rw [if_neg ba] at H
      have bg : (((qAL l0_3 aA).f0) != ((qAv l1_3 aA).f0)) = true := bne_iff_ne.mpr ba
      obtain rfl := Option.some.inj H
      obtain ⟨-, -, -, cS⟩ := c4_ wr aF.o
      have aN : 0 ≤ aA := od (by assumption)
      have aO : aA < (l0_3.length : Int) := od (by assumption)
      obtain ⟨aS, ab, aB, aD, aH, aI⟩ := qC7 aQ.o aA aN aO
      cases ab
      replace aB := (HB.o.cell (World.block_lt_of_cell? w _ aB)).trans aB
      replace aN := eq_true aN
      replace aO := eq_true aO
      obtain ⟨-, -, -, cT⟩ := c4_ wr aG.o
      have ad : 0 ≤ aA := od (by assumption)
      have aP : aA < (l1_3.length : Int) := od (by assumption)
      obtain ⟨aT, ac, aC, aE, aJ, aK⟩ := qBK aR.o aA ad aP
      cases ac
      replace aC := (HB.o.cell (World.block_lt_of_cell? w _ aC)).trans aC
      replace aP := eq_true aP
      go_wp2
      repeat (go_quiet (fail); try go_wp2)
      go_ret
      exact ⟨by rfl, by repeat (with_reducible first | exact HB.o | apply qAl)⟩
     rw [if_pos ba] at H
     have cd : (((qAL l0_3 aA).f0) == ((qAv l1_3 aA).f0)) = true := beq_iff_eq.mpr ba
     have bg : (((qAL l0_3 aA).f0) != ((qAv l1_3 aA).f0)) = false := bn ba
     clear ba
     by_cases bb : ((qAL l0_3 aA).f1) = ((qAv l1_3 aA).f1)
     rotate_left
     ·rw [if_neg bb] at H
      have bh : (((qAL l0_3 aA).f1) != ((qAv l1_3 aA).f1)) = true := bne_iff_ne.mpr bb
      obtain rfl := Option.some.inj H
      obtain ⟨-, -, -, cQ⟩ := c4_ wr aF.o
      have aN : 0 ≤ aA := od (by assumption)
      have aO : aA < (l0_3.length : Int) := od (by assumption)
      obtain ⟨aS, ab, aB, aD, aH, aI⟩ := qC7 aQ.o aA aN aO
      cases ab
      replace aB := (HB.o.cell (World.block_lt_of_cell? w _ aB)).trans aB
      replace aD := (HB.o.cell (World.block_lt_of_cell? w _ aD)).trans aD
      replace aN := eq_true aN
      replace aO := eq_true aO
      obtain ⟨-, -, -, cR⟩ := c4_ wr aG.o
      have ad : 0 ≤ aA := od (by assumption)
      have aP : aA < (l1_3.length : Int) := od (by assumption)
      obtain ⟨aT, ac, aC, aE, aJ, aK⟩ := qBK aR.o aA ad aP
      cases ac
      replace aC := (HB.o.cell (World.block_lt_of_cell? w _ aC)).trans aC
      replace aE := (HB.o.cell (World.block_lt_of_cell? w _ aE)).trans aE
      replace aP := eq_true aP
      have bL : 0 ≤ aA := od (by assumption)
      have bN : aA < (l0_3.length : Int) := od (by assumption)
      obtain ⟨a9, bJ, ae, af, ag, ah⟩ := qC7 aQ.o aA bL bN
      obtain rfl : aS = a9 := (by injection bJ)
      have bM : 0 ≤ aA := od (by assumption)
      have bO : aA < (l1_3.length : Int) := od (by assumption)
      obtain ⟨aa, bK, ai, aj, ak, al⟩ := qBK aR.o aA bM bO
      obtain rfl : aT = aa := (by injection bK)
      go_wp2
      repeat (go_quiet (fail); try go_wp2)
      go_ret
      exact ⟨by rfl, by repeat (with_reducible first | exact HB.o | apply qAl)⟩
     rw [if_pos bb] at H
     have ce : (((qAL l0_3 aA).f1) == ((qAv l1_3 aA).f1)) = true := beq_iff_eq.mpr bb
     have bh : (((qAL l0_3 aA).f1) != ((qAv l1_3 aA).f1)) = false := bn bb
     clear bb
     by_cases bc : (!(((qAL l0_3 aA).f2.f0) == ((qAv l1_3 aA).f2.f0)) || (!(((qAL l0_3 aA).f2.f1) == ((qAv l1_3 aA).f2.f1)))) = true
     ·rw [if_pos bc] at H
      have bi : (!(((qAL l0_3 aA).f2.f0) == ((qAv l1_3 aA).f2.f0)) || (!(((qAL l0_3 aA).f2.f1) == ((qAv l1_3 aA).f2.f1)))) = true := bc
      clear bc
      obtain rfl := Option.some.inj H
      obtain ⟨-, -, -, cM⟩ := c4_ wr aF.o
      have aN : 0 ≤ aA := od (by assumption)
      have aO : aA < (l0_3.length : Int) := od (by assumption)
      obtain ⟨aS, ab, aB, aD, aH, aI⟩ := qC7 aQ.o aA aN aO
      cases ab
      replace aB := (HB.o.cell (World.block_lt_of_cell? w _ aB)).trans aB
      replace aD := (HB.o.cell (World.block_lt_of_cell? w _ aD)).trans aD
      replace aH := (HB.o.cell (World.block_lt_of_cell? w _ aH)).trans aH
      replace aI := (HB.o.cell (World.block_lt_of_cell? w _ aI)).trans aI
      replace aN := eq_true aN
      replace aO := eq_true aO
      obtain ⟨-, -, -, cN⟩ := c4_ wr aG.o
      have ad : 0 ≤ aA := od (by assumption)
      have aP : aA < (l1_3.length : Int) := od (by assumption)
      obtain ⟨aT, ac, aC, aE, aJ, aK⟩ := qBK aR.o aA ad aP
      cases ac
      replace aC := (HB.o.cell (World.block_lt_of_cell? w _ aC)).trans aC
      replace aE := (HB.o.cell (World.block_lt_of_cell? w _ aE)).trans aE
      replace aJ := (HB.o.cell (World.block_lt_of_cell? w _ aJ)).trans aJ
      replace aK := (HB.o.cell (World.block_lt_of_cell? w _ aK)).trans aK
      replace aP := eq_true aP
      have bL : 0 ≤ aA := od (by assumption)
      have bN : aA < (l0_3.length : Int) := od (by assumption)
      obtain ⟨a9, bJ, ae, af, ag, ah⟩ := qC7 aQ.o aA bL bN
      obtain rfl : aS = a9 := (by injection bJ)
      have bM : 0 ≤ aA := od (by assumption)
      have bO : aA < (l1_3.length : Int) := od (by assumption)
      obtain ⟨aa, bK, ai, aj, ak, al⟩ := qBK aR.o aA bM bO
      obtain rfl : aT = aa := (by injection bK)
      have b5 : 0 ≤ aA := od (by assumption)
      have b7 : aA < (l0_3.length : Int) := od (by assumption)
      obtain ⟨bB, b3, bP, bQ, bR, bS⟩ := qC7 aQ.o aA b5 b7
      obtain rfl : aS = bB := (by injection b3)
      have b6 : 0 ≤ aA := od (by assumption)
      have b8 : aA < (l1_3.length : Int) := od (by assumption)
      obtain ⟨bC, b4, bT, bU, bV, bW⟩ := qBK aR.o aA b6 b8
      obtain rfl : aT = bC := (by injection b4)
      go_wp2
      repeat (go_quiet (fail); try go_wp2)
      go_ret
      exact ⟨by rfl, by repeat (with_reducible first | exact HB.o | apply qAl)⟩
     rw [if_neg bc] at H
     have bi : (!(((qAL l0_3 aA).f2.f0) == ((qAv l1_3 aA).f2.f0)) || (!(((qAL l0_3 aA).f2.f1) == ((qAv l1_3 aA).f2.f1)))) = false := by simpa using bc
     clear bc
     have H' := am H
     clear H
     obtain ⟨-, -, -, cO⟩ := c4_ wr aF.o
     have aN : 0 ≤ aA := od (by assumption)
     have aO : aA < (l0_3.length : Int) := od (by assumption)
     obtain ⟨aS, ab, aB, aD, aH, aI⟩ := qC7 aQ.o aA aN aO
     cases ab
     replace aB := (HB.o.cell (World.block_lt_of_cell? w _ aB)).trans aB
     replace aD := (HB.o.cell (World.block_lt_of_cell? w _ aD)).trans aD
     replace aH := (HB.o.cell (World.block_lt_of_cell? w _ aH)).trans aH
     replace aI := (HB.o.cell (World.block_lt_of_cell? w _ aI)).trans aI
     replace aN := eq_true aN
     replace aO := eq_true aO
     obtain ⟨-, -, -, cP⟩ := c4_ wr aG.o
     have ad : 0 ≤ aA := od (by assumption)
     have aP : aA < (l1_3.length : Int) := od (by assumption)
     obtain ⟨aT, ac, aC, aE, aJ, aK⟩ := qBK aR.o aA ad aP
     cases ac
     replace aC := (HB.o.cell (World.block_lt_of_cell? w _ aC)).trans aC
     replace aE := (HB.o.cell (World.block_lt_of_cell? w _ aE)).trans aE
     replace aJ := (HB.o.cell (World.block_lt_of_cell? w _ aJ)).trans aJ
     replace aK := (HB.o.cell (World.block_lt_of_cell? w _ aK)).trans aK
     replace aP := eq_true aP
     have bL : 0 ≤ aA := od (by assumption)
     have bN : aA < (l0_3.length : Int) := od (by assumption)
     obtain ⟨a9, bJ, ae, af, ag, ah⟩ := qC7 aQ.o aA bL bN
     obtain rfl : aS = a9 := (by injection bJ)
     have bM : 0 ≤ aA := od (by assumption)
     have bO : aA < (l1_3.length : Int) := od (by assumption)
     obtain ⟨aa, bK, ai, aj, ak, al⟩ := qBK aR.o aA bM bO
     obtain rfl : aT = aa := (by injection bK)
     have b5 : 0 ≤ aA := od (by assumption)
     have b7 : aA < (l0_3.length : Int) := od (by assumption)
     obtain ⟨bB, b3, bP, bQ, bR, bS⟩ := qC7 aQ.o aA b5 b7
     obtain rfl : aS = bB := (by injection b3)
     have b6 : 0 ≤ aA := od (by assumption)
     have b8 : aA < (l1_3.length : Int) := od (by assumption)
     obtain ⟨bC, b4, bT, bU, bV, bW⟩ := qBK aR.o aA b6 b8
     obtain rfl : aT = bC := (by injection b4)
     go_wp2
     repeat (go_quiet (fail); try go_wp2)
     go_roundg k2
     case measure => have := c0.o; have := c1.o; omega
     case rel => exact ⟨(wrap64 (aA + 1)), (by rfl), H', ⟨by have := c0.o; have := c1.o; omega⟩, ⟨by (with_reducible repeat (refine qBr ?_ _)); exact aF.o⟩, ⟨by (with_reducible repeat (refine qBr ?_ _)); exact aG.o⟩, ⟨by repeat (with_reducible first | exact HB.o | apply qAl)⟩⟩
end Q
end
section
namespace Q
open Go.RowKit PA PC PB
def all2 {α β : Type} (p : α → β → Bool) : List α → List β → Bool
 | [], [] => true
 | x :: xs, y :: ys => p x y && all2 p xs ys
 | _, _ => false
theorem all2_len {α β : Type} (p : α → β → Bool) : ∀ (a : List α) (b : List β), all2 p a b = true → a.length = b.length
 | [], [], _ => rfl
 | [], _ :: _, h => by cases h
 | _ :: _, [], h => by cases h
 | x :: xs, y :: ys, h => by simp only [all2, Bool.and_eq_true] at h; simp [all2_len p xs ys h.2]
theorem qDY {α β : Type} (p : α → β → Bool) : ∀ (a : List α) (b : List β), a.length = b.length → (∀ (j : Nat) x y, a[j]? = some x → b[j]? = some y → p x y = true) → all2 p a b = true
 | [], [], _, _ => rfl
 | [], _ :: _, h, _ => by simp at h
 | _ :: _, [], h, _ => by simp at h
 | x :: xs, y :: ys, hl, h => by
  simp only [all2, Bool.and_eq_true]
  exact ⟨h 0 x y rfl rfl, qDY p xs ys (by simpa using hl) fun j u v hu hv => h (j + 1) u v (by simpa using hu) (by simpa using hv)⟩
theorem qB9 {α β : Type} (p : α → β → Bool) : ∀ (a : List α) (b : List β) (j : Nat) x y, a[j]? = some x → b[j]? = some y → p x y = false → all2 p a b = false
 | [], _, j, x, y, h, _, _ => by simp at h
 | _ :: _, [], j, x, y, _, h, _ => by simp at h
 | x :: xs, y :: ys, 0, u, v, hu, hv, h => by
  simp only [List.getElem?_cons_zero, Option.some.injEq] at hu hv
  subst hu; subst hv
  simp [all2, h]
 | x :: xs, y :: ys, j + 1, u, v, hu, hv, h => by
  simp only [List.getElem?_cons_succ] at hu hv
  simp [all2, qB9 p xs ys j u v hu hv h]
theorem qFf {α β : Type} (p : α → β → Bool) (a : List α) (b : List β) (h : a.length ≠ b.length) : all2 p a b = false := by
 cases hh : all2 p a b with
 | false => rfl
 | true => exact absurd (all2_len p a b hh) h
theorem wrapAdd1 {i : Int} {n : Nat} (h0 : 0 ≤ i) (h : i < n) (hn : n ≤ 4611686018427387904) : wrap64 (i + 1) = i + 1 := by unfold wrap64; omega
theorem qCB {α : Type} (l : List α) (d : α) (i : Int) (h0 : 0 ≤ i) (h : i < l.length) : l.drop i.toNat = l.getD i.toNat d :: l.drop (i + 1).toNat := by
 rw [show (i + 1).toNat = i.toNat + 1 from by omega, List.drop_eq_getElem_cons (by omega), List.getD_eq_getElem?_getD, List.getElem?_eq_getElem (by omega)]; rfl
def eqI (x y : Int) : Bool := x == y
theorem ints_ev (a b : List Int) (hl : a.length ≤ 4611686018427387904) : Ev (fun k => qA6.f k a b) (all2 eqI a b) := by
 by_cases hn : a.length = b.length
 rotate_left
 ·rw [qFf _ _ _ hn]
  exact Ev.congr (f := fun _ => some false) (fun k => by unfold qA6.f; rw [if_neg (by omega)]) (Ev.now _)
 have loop : ∀ (d : Nat) (i : Int), 0 ≤ i → (a.length : Int) - i = d → Ev (fun k => qA6.l0 k a b i) (all2 eqI (a.drop i.toNat) (b.drop i.toNat)) := by
  intro d
  induction d with
  | zero =>
   intro i h0 hd
   rw [List.drop_eq_nil_of_le (by omega), List.drop_eq_nil_of_le (by omega)]
   refine Ev.step (f := fun _ => some true) (fun k => ?_) (Ev.now _)
   simp only [qA6.l0]; rw [if_neg (by omega)]
  | succ d ih =>
   intro i h0 hd
   rw [qCB a 0 i h0 (by omega), qCB b 0 i h0 (by omega)]
   simp only [all2]
   have e1 : a.getD i.toNat 0 = rd a i := rfl
   have e2 : b.getD i.toNat 0 = rd b i := rfl
   rw [e1, e2]
   by_cases he : rd a i = rd b i
   rotate_left
   ·have hq : eqI (rd a i) (rd b i) = false := beq_eq_false_iff_ne.mpr he
    rw [hq, Bool.false_and]
    refine Ev.step (f := fun _ => some false) (fun k => ?_) (Ev.now _)
    simp only [qA6.l0]; rw [if_pos (by omega), if_pos h0, if_pos (by omega), if_neg he]
   have hq : eqI (rd a i) (rd b i) = true := beq_iff_eq.mpr he
   rw [hq, Bool.true_and]
   refine Ev.step (f := fun k => qA6.l0 k a b (i + 1)) (fun k => ?_) (ih (i + 1) (by omega) (by omega))
   simp only [qA6.l0]; rw [if_pos (by omega), if_pos h0, if_pos (by omega), if_pos he, wrapAdd1 (n := a.length) h0 (by omega) hl]
 refine Ev.congr (f := fun k => qA6.l0 k a b 0) (fun k => by unfold qA6.f; rw [if_pos (by omega)]) ?_
 exact loop a.length 0 (by omega) (by omega)
def qE7 (x : S144) (y : S172) : Bool := x.f0 == y.f0 && (x.f1 == y.f1 && (x.f2.f0 == y.f2.f0 && x.f2.f1 == y.f2.f1))
def likeF (x : S90) (y : S98) : Bool := x.f0.f1 == y.f0.f1 && (all2 eqI x.f0.f0 y.f0.f0 && (all2 eqI x.f1 y.f1 && all2 qE7 x.f2 y.f2))
theorem likeFn_ev (a0 : List Int) (a1 : Int) (a2 : List Int) (a3 : List S144) (b0 : List Int) (b1 : Int) (b2 : List Int) (b3 : List S172) (h0 : a0.length ≤ 4611686018427387904) (h2 : a2.length ≤ 4611686018427387904) (h3 : a3.length ≤ 4611686018427387904) :
  Ev (fun k => qAo.f k a0 a1 a2 a3 b0 b1 b2 b3) (a1 == b1 && (all2 eqI a0 b0 && (all2 eqI a2 b2 && all2 qE7 a3 b3))) := by
 have no : Ev (fun k => qAo.j0 k true a0 a1 a2 a3 b0 b1 b2 b3) false := Ev.step (f := fun _ => some false) (fun k => by simp only [qAo.j0]; rfl) (Ev.now _)
 have loop : a3.length = b3.length → ∀ (d : Nat) (i : Int), 0 ≤ i → (a3.length : Int) - i = d → Ev (fun k => qAo.l0 k i a0 a1 a2 a3 b0 b1 b2 b3) (all2 qE7 (a3.drop i.toNat) (b3.drop i.toNat)) := by
  intro hn d
  induction d with
  | zero =>
   intro i g0 hd
   rw [List.drop_eq_nil_of_le (by omega), List.drop_eq_nil_of_le (by omega)]
   refine Ev.step (f := fun _ => some true) (fun k => ?_) (Ev.now _)
   simp only [qAo.l0]; rw [if_neg (by omega)]
  | succ d ih =>
   intro i g0 hd
   rw [qCB a3 z144 i g0 (by omega), qCB b3 z172 i g0 (by omega)]
   simp only [all2]
   have e1 : a3.getD i.toNat z144 = qAL a3 i := rfl
   have e2 : b3.getD i.toNat z172 = qAv b3 i := rfl
   rw [e1, e2]
   generalize hx : qAL a3 i = x
   generalize hy : qAv b3 i = y
   by_cases c0 : x.f0 = y.f0
   rotate_left
   ·have hq : qE7 x y = false := by unfold qE7; rw [beq_eq_false_iff_ne.mpr c0]; simp
    rw [hq, Bool.false_and]
    refine Ev.step (f := fun _ => some false) (fun k => ?_) (Ev.now _)
    simp only [qAo.l0, hx, hy]; rw [if_pos (by omega), if_pos g0, if_pos (by omega), if_neg c0]
   by_cases c1 : x.f1 = y.f1
   rotate_left
   ·have hq : qE7 x y = false := by unfold qE7; rw [beq_eq_false_iff_ne.mpr c1]; simp
    rw [hq, Bool.false_and]
    refine Ev.step (f := fun _ => some false) (fun k => ?_) (Ev.now _)
    simp only [qAo.l0, hx, hy]; rw [if_pos (by omega), if_pos g0, if_pos (by omega), if_pos c0, if_neg c1]
   by_cases c2 : (!(x.f2.f0 == y.f2.f0) || (!(x.f2.f1 == y.f2.f1))) = true
   ·have hq : qE7 x y = false := by
     unfold qE7
     rw [beq_iff_eq.mpr c0, beq_iff_eq.mpr c1]
     revert c2
     cases (x.f2.f0 == y.f2.f0) <;> cases (x.f2.f1 == y.f2.f1) <;> simp
    rw [hq, Bool.false_and]
    refine Ev.step (f := fun _ => some false) (fun k => ?_) (Ev.now _)
    simp only [qAo.l0, hx, hy]; rw [if_pos (by omega), if_pos g0, if_pos (by omega), if_pos c0, if_pos c1, if_pos c2]
   have hq : qE7 x y = true := by
    unfold qE7
    rw [beq_iff_eq.mpr c0, beq_iff_eq.mpr c1]
    revert c2
    cases (x.f2.f0 == y.f2.f0) <;> cases (x.f2.f1 == y.f2.f1) <;> simp
   rw [hq, Bool.true_and]
   refine Ev.step (f := fun k => qAo.l0 k (i + 1) a0 a1 a2 a3 b0 b1 b2 b3) (fun k => ?_) (ih (i + 1) (by omega) (by omega))
   simp only [qAo.l0, hx, hy]; rw [if_pos (by omega), if_pos g0, if_pos (by omega), if_pos c0, if_pos c1, if_neg c2, wrapAdd1 (n := a3.length) g0 (by omega) h3]
 by_cases c1 : a1 = b1
 ·rw [beq_iff_eq.mpr c1, Bool.true_and]
  have e1 := ints_ev a0 b0 h0
  have e2 := ints_ev a2 b2 h2
  refine Ev.congr (f := fun k => (qA6.f k a0 b0).bind fun t => (if t = true then ((qA6.f k a2 b2).bind fun t2 => (if t2 = true then (qAo.j0 k ((a3.length : Int) != (b3.length : Int)) a0 a1 a2 a3 b0 b1 b2 b3) else (qAo.j0 k true a0 a1 a2 a3 b0 b1 b2 b3))) else (qAo.j0 k true a0 a1 a2 a3 b0 b1 b2 b3))) (fun k => by unfold qAo.f; rw [if_pos c1]) (Ev.bind e1 ?_)
  cases q1 : all2 eqI a0 b0 with
  | false => simpa using no
  | true =>
   simp only [if_true, Bool.true_and]
   refine Ev.bind e2 ?_
   cases q2 : all2 eqI a2 b2 with
   | false => simpa using no
   | true =>
    simp only [if_true, Bool.true_and]
    by_cases hn : a3.length = b3.length
    rotate_left
    ·rw [qFf _ _ _ hn]
     refine Ev.step (f := fun _ => some false) (fun k => ?_) (Ev.now _)
     simp only [qAo.j0]
     rw [if_pos (bne_iff_ne.mpr (by omega))]
    refine Ev.step (f := fun k => qAo.l0 k 0 a0 a1 a2 a3 b0 b1 b2 b3) (fun k => ?_) (loop hn a3.length 0 (by omega) (by omega))
    simp only [qAo.j0]
    rw [if_neg (by simp; omega)]
 ·rw [beq_eq_false_iff_ne.mpr c1, Bool.false_and]
  exact Ev.congr (f := fun k => qAo.j0 k true a0 a1 a2 a3 b0 b1 b2 b3) (fun k => by unfold qAo.f; rw [if_neg c1]) no
end Q
end
section
namespace Q
open Go.RowKit PA PC PB
open DecLaw
theorem qE6 (r : List Int) (hb : qBJ r) (a : Int × List Int) (h : intP r = some a) : 0 ≤ a.1 ∧ a.1 ≤ 2147483647 := by
 unfold intP at h
 split at h
 ·split at h
  ·rename_i h2
   obtain rfl := Option.some.inj h
   exact ⟨(qEE _ (qDS hb 4)).1, h2⟩
  cases h
 cases h
end Q
end
section
namespace Q
open Go.RowKit PA PC PB
open Val Ins
def okT (t : Int) : Bool := decide (1 ≤ t ∧ t ≤ 3)
theorem okT_true {t : Int} (h1 : 1 ≤ t) (h2 : t ≤ 3) : okT t = true := by unfold okT; simp [h1, h2]
theorem qD9 {t : Int} (h : t < 1 ∨ 3 < t) : okT t = false := by unfold okT; simp; omega
theorem qF9 (t : Int) (w : World) : Calls Tryz.prog 169 #[.int .i64 t] w fun e w' => e = .returned (.bool (okT t)) ∧ w' = w := by
 by_cases h1 : 1 ≤ t
 rotate_left
 ·rw [qD9 (by omega)]
  go_enter Tryz.func169, Tryz.ntmps169
  go_wp2
  go_ret
  exact ⟨rfl, rfl⟩
 by_cases h2 : t ≤ 3
 ·rw [okT_true h1 h2]
  go_enter Tryz.func169, Tryz.ntmps169
  go_wp2
  go_ret
  exact ⟨rfl, rfl⟩
 rw [qD9 (by omega)]
 go_enter Tryz.func169, Tryz.ntmps169
 go_wp2
 go_ret
 exact ⟨rfl, rfl⟩
def nmT (t : Int) : ByteArray := if t = 1 then ⟨#[105, 110, 116]⟩ else if t = 2 then ⟨#[102, 108, 111, 97, 116]⟩ else if t = 3 then ⟨#[98, 111, 111, 108]⟩ else ⟨#[]⟩
theorem name_no (t : Int) (h : okT t = false) (w : World) : Calls Tryz.prog 148 #[.int .i64 t] w fun e w' => e = .returned (.string ⟨#[]⟩) ∧ w' = w := by
 have H := Base.hid h
 clear h
 go_enter Tryz.func148, Tryz.ntmps148
 go_wp2_with (go_at_call 169; refine (qF9 t _).mono ?_; rintro e w1 ⟨rfl, rfl⟩; have H1 := H.out; rw [H1])
 go_ret
 exact ⟨rfl, rfl⟩
theorem name_yes (t : Int) (s : ByteArray) (h : okT t = true) (hi : ∀ w, (Instr.index 235 (.agg #[.string ⟨#[]⟩, .string ⟨#[105, 110, 116]⟩, .string ⟨#[102, 108, 111, 97, 116]⟩, .string ⟨#[98, 111, 111, 108]⟩]) (.int .i64 t)).run Tryz.prog w = .ok (.string s) w) (w : World) : Calls Tryz.prog 148 #[.int .i64 t] w fun e w' => e = .returned (.string s) ∧ w' = w := by
 have H := Base.hid h
 clear h
 go_enter Tryz.func148, Tryz.ntmps148
 go_wp2_with (go_at_call 169; refine (qF9 t _).mono ?_; rintro e w1 ⟨rfl, rfl⟩; have H1 := H.out; rw [H1])
 go_ret
 exact ⟨rfl, rfl⟩
theorem name_any (t : Int) (w : World) : Calls Tryz.prog 148 #[.int .i64 t] w fun e w' => e = .returned (.string (nmT t)) ∧ w' = w := by
 by_cases h1 : t = 1
 ·subst h1; exact name_yes 1 _ rfl (fun w => by kernel_rfl) w
 by_cases h2 : t = 2
 ·subst h2; exact name_yes 2 _ rfl (fun w => by kernel_rfl) w
 by_cases h3 : t = 3
 ·subst h3; exact name_yes 3 _ rfl (fun w => by kernel_rfl) w
 rw [show nmT t = ⟨#[]⟩ from by unfold nmT; rw [if_neg h1, if_neg h2, if_neg h3]]
 exact name_no t (qD9 (by omega)) w
theorem qFx (t : Int) (w : World) : Calls Tryz.prog 97 #[.int .i64 t] w fun e w' => e = .returned (.bool (okT t)) ∧ w' = w := by
 have hn := name_any t
 have hq : (!(nmT t).toList.isEmpty) = okT t := by
  rw [Lib.toList_data]
  by_cases h1 : t = 1
  ·subst h1; rfl
  by_cases h2 : t = 2
  ·subst h2; rfl
  by_cases h3 : t = 3
  ·subst h3; rfl
  rw [qD9 (by omega), show nmT t = ⟨#[]⟩ from by unfold nmT; rw [if_neg h1, if_neg h2, if_neg h3]]; rfl
 obtain ⟨s, hs⟩ : ∃ s, s = nmT t := ⟨_, rfl⟩
 rw [← hs] at hq hn
 have HN := Base.hid hn
 have HQ := Base.hid hq
 clear hn hq hs
 go_enter Tryz.func97, Tryz.ntmps97
 go_wp2_with (go_at_call 148; refine (HN.out _).mono ?_; rintro e w1 ⟨rfl, rfl⟩)
 go_ret
 exact ⟨by rw [← HQ.out]; rfl, rfl⟩
theorem unvalued_any (t : Int) (w : World) : Calls Tryz.prog 96 #[.int .i64 t] w fun e w' => e = .returned (.bool (!okT t)) ∧ w' = w := by
 go_enter Tryz.func96, Tryz.ntmps96
 go_wp2_with (go_at_call 97; refine (qFx t _).mono ?_; rintro e w1 ⟨rfl, rfl⟩)
 go_ret
 exact ⟨rfl, rfl⟩
theorem qEx {α : Type} (p : α → Bool) (l : List α) (k : Nat) (x : α) (hx : l[k]? = some x) (h : p x = true) : l.any p = true :=
 List.any_eq_true.2 ⟨x, List.mem_of_getElem? hx, h⟩
theorem qEW {α : Type} (p : α → Bool) (l : List α) (h : ∀ (j : Nat) (x : α), l[j]? = some x → p x = false) : l.any p = false := by
 rw [List.any_eq_false]
 intro x hx
 obtain ⟨j, hj⟩ := List.getElem?_of_mem hx
 rw [h j x hj]; decide
def IdxPost (b : Bool) (W0 : World) (e : Ending) (w' : World) : Prop := ∃ i : Int, e = .returned (.int .i64 i) ∧ (0 ≤ i ↔ b = true) ∧ Below W0.heap.size W0 w'
theorem qCv {α : Type} (l : List α) (d : α) (k : Nat) (h : k < l.length) : l[k]? = some (l.getD k d) := by rw [List.getD_eq_getElem?_getD, List.getElem?_eq_getElem h]; rfl
theorem idx_ints (A : Option Addr) (c : Nat) (l : List Int) (w : World) (hr : Kd.C (Kd.int .i64) w A l.length l) (hl : l.length ≤ 4611686018427387904) :
  Calls Tryz.prog 147 #[.slice A l.length c, .func (.func 96) #[] #[]] w (IdxPost (l.any fun t => !okT t) w) := by
 obtain ⟨n, hn⟩ : ∃ n, n = l.length := ⟨_, rfl⟩
 rw [← hn]
 have HR := am hr
 have HN := am hn
 rw [← hn] at hl
 clear hr hn
 go_enter Tryz.func147, Tryz.ntmps147
 go_wp2
 go_loopg [5, 8] n (fun gg _ s8 wr => ∃ kk : Nat, kk ≤ n ∧ n - kk ≤ gg ∧ s8 = .int .i64 kk ∧ qAa (∀ j x, j < kk → l[j]? = some x → (!okT x) = false) ∧ wr = w)
 case atStart => exact ⟨0, Nat.zero_le _, by omega, rfl, ⟨fun j x hj => absurd hj (Nat.not_lt_zero _)⟩, rfl⟩
 case round =>
  obtain ⟨kk, hkk, hg, rfl, HA, rfl⟩ := hrel
  by_cases hlt : kk < n
  rotate_left
  ·have hltz : ¬ (kk : Int) < (n : Int) := by omega
   have : kk = n := by omega
   subst this
   go_wp2
   go_ret
   refine ⟨-1, rfl, ?_, Below.refl _ _⟩
   rw [qEW _ l fun j x hj => HA.out j x (by rw [HN.out]; exact (List.getElem?_eq_some_iff.1 hj).1) hj]
   simp
  have hltz : (kk : Int) < (n : Int) := by omega
  have h0 : (0 : Int) ≤ (kk : Int) := by omega
  obtain ⟨ad, ea, hx⟩ := Kd.at_int HR.out (kk : Int) h0 (by have := HN.out; omega)
  subst ea
  rw [Int.toNat_natCast] at hx
  have hc := unvalued_any (rd l (kk : Int))
  obtain ⟨x, hx0⟩ : ∃ x, x = rd l (kk : Int) := ⟨_, rfl⟩
  rw [← hx0] at hx hc
  have HX : qAa (l[kk]? = some x) := ⟨by rw [hx0]; exact qCv l 0 kk (by have := HN.out; omega)⟩
  have HC := am hc
  clear hx0 hc
  cases hq : okT x with
  | false =>
   have HQ := am hq
   clear hq
   go_wp2_with (go_at_call 96; refine (HC.out _).mono ?_; rintro e w1 ⟨rfl, rfl⟩; rw [HQ.out])
   go_ret
   exact ⟨kk, rfl, ⟨fun _ => qEx _ l kk x HX.out (by rw [HQ.out]; rfl), fun _ => h0⟩, Below.refl _ _⟩
  | true =>
   have HQ := am hq
   clear hq
   go_wp2_with (go_at_call 96; refine (HC.out _).mono ?_; rintro e w1 ⟨rfl, rfl⟩; rw [HQ.out])
   go_roundg (n - (kk + 1))
   case measure => omega
   case rel =>
    refine ⟨kk + 1, by omega, by omega, by go_num, ⟨fun j y hj hy => ?_⟩, rfl⟩
    by_cases e : j = kk
    rotate_left
    ·exact HA.out j y (by omega) hy
    subst e
    rw [HX.out] at hy; injection hy with hy; subst hy; rw [HQ.out]; rfl
theorem has_ints (A : Option Addr) (c : Nat) (l : List Int) (w : World) (hr : Kd.C (Kd.int .i64) w A l.length l) (hl : l.length ≤ 4611686018427387904) :
  Calls Tryz.prog 95 #[.slice A l.length c, .func (.func 96) #[] #[]] w fun e w' => e = .returned (.bool (l.any fun t => !okT t)) ∧ Below w.heap.size w w' := by
 have HI := am (idx_ints A c l w hr hl)
 obtain ⟨b, hb⟩ : ∃ b, b = l.any fun t => !okT t := ⟨_, rfl⟩
 rw [← hb] at HI ⊢
 clear hb hr hl
 go_enter Tryz.func95, Tryz.ntmps95
 go_wp2_with (go_at_call 147; refine (HI.out).mono ?_; rintro e w1 ⟨i, rfl, hi, hw⟩; have HB := am hw; have HQ := am hi; clear hi hw)
 go_ret
 refine ⟨?_, HB.out⟩
 have := HQ.out
 congr 2
 cases b <;> simp_all
theorem all_ints (A : Option Addr) (c : Nat) (l : List Int) (w : World) (hr : Kd.C (Kd.int .i64) w A l.length l) (hl : l.length ≤ 4611686018427387904) :
  Calls Tryz.prog 94 #[.slice A l.length c] w fun e w' => e = .returned (.bool (l.all okT)) ∧ Below w.heap.size w w' := by
 have HI := am (has_ints A c l w hr hl)
 have hq : (!l.any fun t => !okT t) = l.all okT := by rw [List.not_any_eq_all_not]; simp
 obtain ⟨b, hb⟩ : ∃ b, b = l.any fun t => !okT t := ⟨_, rfl⟩
 rw [← hb] at HI hq
 rw [← hq]
 clear hb hr hl hq
 go_enter Tryz.func94, Tryz.ntmps94
 go_wp2_with (go_at_call 95; refine (HI.out).mono ?_; rintro e w1 ⟨rfl, hw⟩; have HB := am hw; clear hw)
 go_ret
 exact ⟨rfl, HB.out⟩
theorem unright_any (op n ty b : Int) (hb : U64 b) (w : World) : Calls Tryz.prog 99 #[.agg #[.int .i64 op, .int .i64 n, .int .i64 ty, .int .u64 b]] w fun e w' => e = .returned (.bool (!okI op n ty b)) ∧ Below w.heap.size w w' := by
 have HR := am (fun W => qDF op n ty b hb W)
 unfold insV at HR
 clear hb
 go_enter Tryz.func99, Tryz.ntmps99
 go_wp2_with (go_at_call 100; refine (HR.out _).mono ?_; rintro e w1 ⟨rfl, hw⟩; have HB := am hw; clear hw)
 go_ret
 exact ⟨rfl, ((Below.refl _ _).alloc (Nat.le_refl _) _).trans (HB.out.mono (by simp))⟩
def okS (x : S144) : Bool := okI x.f0 x.f1 x.f2.f0 x.f2.f1
def u64S (x : S144) : Bool := decide (0 ≤ x.f2.f1 ∧ x.f2.f1 < 18446744073709551616)
theorem u64S_U {x : S144} (h : u64S x = true) : U64 x.f2.f1 := by
 have h := of_decide_eq_true (p := 0 ≤ x.f2.f1 ∧ x.f2.f1 < 18446744073709551616) h
 exact ⟨h.1, by omega⟩
theorem idx_ins (A : Option Addr) (c : Nat) (l : List S144) (w : World) (hr : Kd.C k144 w A l.length l) (hl : l.length ≤ 4611686018427387904) (hu : ∀ x ∈ l, u64S x = true) :
  Calls Tryz.prog 149 #[.slice A l.length c, .func (.func 99) #[] #[]] w (IdxPost (l.any fun x => !okS x) w) := by
 obtain ⟨n, hn⟩ : ∃ n, n = l.length := ⟨_, rfl⟩
 rw [← hn]
 have HR := am hr
 have HN := am hn
 have HU := am hu
 rw [← hn] at hl
 clear hr hn hu
 go_enter Tryz.func149, Tryz.ntmps149
 go_wp2
 go_loopg [5, 8] n (fun gg _ s8 wr => ∃ kk : Nat, kk ≤ n ∧ n - kk ≤ gg ∧ s8 = .int .i64 kk ∧ qAa (∀ (j : Nat) x, j < kk → l[j]? = some x → (!okS x) = false) ∧ qAa (Below w.heap.size w wr))
 case atStart => exact ⟨0, Nat.zero_le _, by omega, rfl, ⟨fun j x hj => absurd hj (Nat.not_lt_zero _)⟩, ⟨Below.refl _ _⟩⟩
 case round =>
  obtain ⟨kk, hkk, hg, rfl, HA, HB⟩ := hrel
  by_cases hlt : kk < n
  rotate_left
  ·have hltz : ¬ (kk : Int) < (n : Int) := by omega
   have : kk = n := by omega
   subst this
   go_wp2
   go_ret
   refine ⟨-1, rfl, ?_, HB.out⟩
   rw [qEW _ l fun j x hj => HA.out j x (by rw [HN.out]; exact (List.getElem?_eq_some_iff.1 hj).1) hj]
   simp
  have hltz : (kk : Int) < (n : Int) := by omega
  have h0 : (0 : Int) ≤ (kk : Int) := by omega
  obtain ⟨ad, ea, hx0, hx1, hx2, hx3⟩ := qC7 HR.out (kk : Int) h0 (by have := HN.out; omega)
  subst ea
  rw [Int.toNat_natCast] at hx0 hx1 hx2 hx3
  replace hx0 := cb HB hx0
  replace hx1 := cb HB hx1
  replace hx2 := cb HB hx2
  replace hx3 := cb HB hx3
  obtain ⟨x, hx⟩ : ∃ x, x = qAL l (kk : Int) := ⟨_, rfl⟩
  rw [← hx] at hx0 hx1 hx2 hx3
  have HX : qAa (l[kk]? = some x) := ⟨by rw [hx]; exact qCv l z144 kk (by have := HN.out; omega)⟩
  clear hx
  obtain ⟨op, nn, ⟨ty, bb⟩⟩ := x
  dsimp only at hx0 hx1 hx2 hx3
  have HC := am (fun W => unright_any op nn ty bb (u64S_U (HU.out _ (List.mem_of_getElem? HX.out))) W)
  cases hq : okI op nn ty bb with
  | false =>
   have HQ := am hq
   clear hq
   go_wp2_with (go_at_call 99; refine (HC.out _).mono ?_; rintro e w1 ⟨rfl, hw⟩; rw [HQ.out]; have HB1 := am (qAw HB.out HB.out.size hw); clear hw)
   go_ret
   exact ⟨kk, rfl, ⟨fun _ => qEx _ l kk _ HX.out (by unfold okS; dsimp only; rw [HQ.out]; rfl), fun _ => h0⟩, HB1.out⟩
  | true =>
   have HQ := am hq
   clear hq
   go_wp2_with (go_at_call 99; refine (HC.out _).mono ?_; rintro e w1 ⟨rfl, hw⟩; rw [HQ.out]; have HB1 := am (qAw HB.out HB.out.size hw); clear hw)
   go_roundg (n - (kk + 1))
   case measure => omega
   case rel =>
    refine ⟨kk + 1, by omega, by omega, by go_num, ⟨fun j y hj hy => ?_⟩, HB1⟩
    by_cases e : j = kk
    rotate_left
    ·exact HA.out j y (by omega) hy
    subst e
    rw [HX.out] at hy; injection hy with hy; subst hy; unfold okS; dsimp only; rw [HQ.out]; rfl
theorem has_ins (A : Option Addr) (c : Nat) (l : List S144) (w : World) (hr : Kd.C k144 w A l.length l) (hl : l.length ≤ 4611686018427387904) (hu : ∀ x ∈ l, u64S x = true) :
  Calls Tryz.prog 98 #[.slice A l.length c, .func (.func 99) #[] #[]] w fun e w' => e = .returned (.bool (l.any fun x => !okS x)) ∧ Below w.heap.size w w' := by
 have HI := am (idx_ins A c l w hr hl hu)
 obtain ⟨b, hb⟩ : ∃ b, b = l.any fun x => !okS x := ⟨_, rfl⟩
 rw [← hb] at HI ⊢
 clear hb hr hl hu
 go_enter Tryz.func98, Tryz.ntmps98
 go_wp2_with (go_at_call 149; refine (HI.out).mono ?_; rintro e w1 ⟨i, rfl, hi, hw⟩; have HB := am hw; have HQ := am hi; clear hi hw)
 go_ret
 refine ⟨?_, HB.out⟩
 have := HQ.out
 congr 2
 cases b <;> simp_all
def okFn (l0 : List Int) (a1 : Int) (l2 : List Int) (l3 : List S144) : Bool :=
 decide (l0.length ≤ 8) && l0.all okT && (a1 == 0 || okT a1) && decide (l2.length ≤ 64) && l2.all okT && decide (l3.length ≤ 4096) && l3.all okS
def qBG.f (l0_0 : List Int) (a0_1 : Int) (l0_2 : List Int) (l0_3 : List (S144)) : Option (Bool) :=
 if l0_0.length ≤ 4611686018427387904 ∧ l0_2.length ≤ 4611686018427387904 ∧ l0_3.length ≤ 4611686018427387904 ∧ l0_3.all u64S = true then some (okFn l0_0 a0_1 l0_2 l0_3) else none
theorem qBG.calls (A0_0 : Option Addr) (c0_0 : Nat) (l0_0 : List Int) (a0_1 : Int) (A0_2 : Option Addr) (c0_2 : Nat) (l0_2 : List Int) (A0_3 : Option Addr) (c0_3 : Nat) (l0_3 : List (S144)) (r : Bool) (w : World) (hr0_0 : Kd.C (Kd.int .i64) w A0_0 l0_0.length l0_0) (hc0_0 : l0_0.length ≤ c0_0) (hr0_2 : Kd.C (Kd.int .i64) w A0_2 l0_2.length l0_2) (hc0_2 : l0_2.length ≤ c0_2) (hr0_3 : Kd.C k144 w A0_3 l0_3.length l0_3) (hc0_3 : l0_3.length ≤ c0_3) (h : qBG.f l0_0 a0_1 l0_2 l0_3 = some r) :
  Calls Tryz.prog 33 #[.agg #[.slice A0_0 l0_0.length c0_0, .int .i64 a0_1, .slice A0_2 l0_2.length c0_2, .slice A0_3 l0_3.length c0_3]] w fun e w' => e = .returned (.bool r) ∧ Below w.heap.size w w' := by
 unfold qBG.f at h
 split at h
 case isFalse => cases h
 rename_i hs
 obtain ⟨hl0, hl2, hl3, hu⟩ := hs
 injection h with h
 have hu' : ∀ x ∈ l0_3, u64S x = true := fun x hx => List.all_eq_true.1 hu x hx
 have H0 : qAa (∀ W, Below w.heap.size w W → Calls Tryz.prog 94 #[.slice A0_0 l0_0.length c0_0] W fun e w' => e = .returned (.bool (l0_0.all okT)) ∧ Below W.heap.size W w') := ⟨fun W hW => all_ints A0_0 c0_0 l0_0 W (Kd.C_below hr0_0 hW) hl0⟩
 have H2 : qAa (∀ W, Below w.heap.size w W → Calls Tryz.prog 94 #[.slice A0_2 l0_2.length c0_2] W fun e w' => e = .returned (.bool (l0_2.all okT)) ∧ Below W.heap.size W w') := ⟨fun W hW => all_ints A0_2 c0_2 l0_2 W (Kd.C_below hr0_2 hW) hl2⟩
 have H3 : qAa (∀ W, Below w.heap.size w W → Calls Tryz.prog 98 #[.slice A0_3 l0_3.length c0_3, .func (.func 99) #[] #[]] W fun e w' => e = .returned (.bool (l0_3.any fun x => !okS x)) ∧ Below W.heap.size W w') := ⟨fun W hW => has_ins A0_3 c0_3 l0_3 W (Kd.C_below hr0_3 hW) hl3 hu'⟩
 have hq3 : (!l0_3.any fun x => !okS x) = l0_3.all okS := by rw [List.not_any_eq_all_not]; simp
 unfold okFn at h
 obtain ⟨n0, hn0⟩ : ∃ n, n = l0_0.length := ⟨_, rfl⟩
 obtain ⟨n2, hn2⟩ : ∃ n, n = l0_2.length := ⟨_, rfl⟩
 obtain ⟨n3, hn3⟩ : ∃ n, n = l0_3.length := ⟨_, rfl⟩
 obtain ⟨b0, hb0⟩ : ∃ b, b = l0_0.all okT := ⟨_, rfl⟩
 obtain ⟨b2, hb2⟩ : ∃ b, b = l0_2.all okT := ⟨_, rfl⟩
 obtain ⟨b3, hb3⟩ : ∃ b, b = l0_3.any fun x => !okS x := ⟨_, rfl⟩
 rw [← hn0, ← hn2, ← hn3]
 rw [← hn0, ← hb0] at H0
 rw [← hn2, ← hb2] at H2
 rw [← hn3, ← hb3] at H3
 rw [← hb3] at hq3
 rw [← hn0, ← hn2, ← hn3, ← hb0, ← hb2, ← hq3] at h
 have hv0 : 0 ≤ n0 := Nat.zero_le _
 clear hn0 hn2 hn3 hb0 hb2 hb3 hr0_0 hr0_2 hr0_3 hc0_0 hc0_2 hc0_3 hl0 hl2 hl3 hu hu' hq3 hv0
 have HB0 := am ((Below.refl w.heap.size w).alloc (Nat.le_refl _) (.cells #[.slice A0_0 n0 c0_0, .int .i64 a0_1, .slice A0_2 n2 c0_2, .slice A0_3 n3 c0_3] 90))
 have HV := am (fun W => qFx a0_1 W)
 by_cases c1 : n0 ≤ 8
 case neg =>
  obtain rfl : r = false := by rw [← h]; simp [c1]
  clear h H0 H2 H3 HV HB0
  go_enter Tryz.func33, Tryz.ntmps33
  go_wp2
  go_ret
  exact ⟨rfl, (Below.refl _ _).alloc (Nat.le_refl _) _⟩
 obtain ⟨WA, hWA⟩ : ∃ WA, WA = w.alloc (.cells #[.slice A0_0 n0 c0_0, .int .i64 a0_1, .slice A0_2 n2 c0_2, .slice A0_3 n3 c0_3] 90) := ⟨_, rfl⟩
 have hBA : Below w.heap.size w WA := hWA ▸ HB0.out
 have k0 : WA.cell? ⟨w.heap.size, 0, none⟩ = some (.slice A0_0 n0 c0_0) := by rw [hWA, World.cell?_alloc_at _ _ _ _ rfl]; rfl
 have k1 : WA.cell? ⟨w.heap.size, 1, none⟩ = some (.int .i64 a0_1) := by rw [hWA, World.cell?_alloc_at _ _ _ _ rfl]; rfl
 have k2 : WA.cell? ⟨w.heap.size, 2, none⟩ = some (.slice A0_2 n2 c0_2) := by rw [hWA, World.cell?_alloc_at _ _ _ _ rfl]; rfl
 have k3 : WA.cell? ⟨w.heap.size, 3, none⟩ = some (.slice A0_3 n3 c0_3) := by rw [hWA, World.cell?_alloc_at _ _ _ _ rfl]; rfl
 have hsA : w.heap.size < WA.heap.size := by rw [hWA]; simp
 have HWA := am hWA
 clear hWA HB0
 go_enter Tryz.func33, Tryz.ntmps33
 go_wp2_with fail
 rw [← HWA.out]
 go_wp2_with fail
 refine (H0.out _ hBA).mono ?_
 rintro e w1 ⟨rfl, hb⟩
 have m0 : w1.cell? ⟨w.heap.size, 0, none⟩ = some (.slice A0_0 n0 c0_0) := (hb.cell (p := ⟨w.heap.size, 0, none⟩) hsA).trans k0
 have m1 : w1.cell? ⟨w.heap.size, 1, none⟩ = some (.int .i64 a0_1) := (hb.cell (p := ⟨w.heap.size, 1, none⟩) hsA).trans k1
 have m2 : w1.cell? ⟨w.heap.size, 2, none⟩ = some (.slice A0_2 n2 c0_2) := (hb.cell (p := ⟨w.heap.size, 2, none⟩) hsA).trans k2
 have m3 : w1.cell? ⟨w.heap.size, 3, none⟩ = some (.slice A0_3 n3 c0_3) := (hb.cell (p := ⟨w.heap.size, 3, none⟩) hsA).trans k3
 have hs1 : w.heap.size < w1.heap.size := Nat.lt_of_lt_of_le hsA hb.size
 have HB1 := am (qAw hBA hBA.size hb)
 clear hb k0 k1 k2 k3
 cases b0 with
 | false =>
  obtain rfl : r = false := by rw [← h]; simp
  clear h
  go_wp2
  go_ret
  exact ⟨rfl, HB1.out⟩
 | true =>
  by_cases c3 : a0_1 = 0
  ·have c3' : (a0_1 == 0) = true := beq_iff_eq.mpr c3
   simp only [c3', Bool.true_or, Bool.and_true] at h
   clear c3
   by_cases c5 : n2 ≤ 64
   case neg =>
    obtain rfl : r = false := by rw [← h]; simp [c5]
    clear h
    go_wp2
    go_ret
    exact ⟨rfl, HB1.out⟩
   go_wp2_with fail
   refine (H2.out _ HB1.out).mono ?_
   rintro e w2 ⟨rfl, hb⟩
   have p3 : w2.cell? ⟨w.heap.size, 3, none⟩ = some (.slice A0_3 n3 c0_3) := (hb.cell (p := ⟨w.heap.size, 3, none⟩) hs1).trans m3
   have HB2 := am (qAw HB1.out HB1.out.size hb)
   clear hb m0 m1 m2 m3
   cases b2 with
   | false =>
    obtain rfl : r = false := by rw [← h]; simp
    clear h
    go_wp2
    go_ret
    exact ⟨rfl, HB2.out⟩
   | true =>
    by_cases c6 : n3 ≤ 4096
    case neg =>
     obtain rfl : r = false := by rw [← h]; simp [c6]
     clear h
     go_wp2
     go_ret
     exact ⟨rfl, HB2.out⟩
    obtain rfl : r = !b3 := by rw [← h]; simp [c1, c5, c6]
    clear h
    go_wp2_with fail
    refine (H3.out _ HB2.out).mono ?_
    rintro e w3 ⟨rfl, hb⟩
    have HB3 := am (qAw HB2.out HB2.out.size hb)
    clear hb
    go_wp2
    go_ret
    exact ⟨rfl, HB3.out⟩
  have c3' : (a0_1 == 0) = false := beq_eq_false_iff_ne.mpr c3
  obtain ⟨b1, hb1⟩ : ∃ b, b = okT a0_1 := ⟨_, rfl⟩
  rw [← hb1] at HV h
  clear hb1
  go_wp2_with fail
  refine (HV.out _).mono ?_
  rintro e w1x ⟨rfl, rfl⟩
  cases b1 with
  | false =>
   obtain rfl : r = false := by rw [← h]; simp [c3']
   clear h
   go_wp2
   go_ret
   exact ⟨rfl, HB1.out⟩
  | true =>
   simp only [c3', Bool.false_or, Bool.and_true] at h
   by_cases c5 : n2 ≤ 64
   case neg =>
    obtain rfl : r = false := by rw [← h]; simp [c5]
    clear h
    go_wp2
    go_ret
    exact ⟨rfl, HB1.out⟩
   go_wp2_with fail
   refine (H2.out _ HB1.out).mono ?_
   rintro e w2 ⟨rfl, hb⟩
   have p3 : w2.cell? ⟨w.heap.size, 3, none⟩ = some (.slice A0_3 n3 c0_3) := (hb.cell (p := ⟨w.heap.size, 3, none⟩) hs1).trans m3
   have HB2 := am (qAw HB1.out HB1.out.size hb)
   clear hb m0 m1 m2 m3
   cases b2 with
   | false =>
    obtain rfl : r = false := by rw [← h]; simp
    clear h
    go_wp2
    go_ret
    exact ⟨rfl, HB2.out⟩
   | true =>
    by_cases c6 : n3 ≤ 4096
    case neg =>
     obtain rfl : r = false := by rw [← h]; simp [c6]
     clear h
     go_wp2
     go_ret
     exact ⟨rfl, HB2.out⟩
    obtain rfl : r = !b3 := by rw [← h]; simp [c1, c5, c6]
    clear h
    go_wp2_with fail
    refine (H3.out _ HB2.out).mono ?_
    rintro e w3 ⟨rfl, hb⟩
    have HB3 := am (qAw HB2.out HB2.out.size hb)
    clear hb
    go_wp2
    go_ret
    exact ⟨rfl, HB3.out⟩
def qFh (r p : S104) : Bool := r.f0 == p.f0 && (r.f1 == p.f1 && r.f2 == p.f2)
theorem bare_any (a0 a1 a2 b0 b1 b2 : Int) (a3 a4 b3 b4 : ByteArray) (w : World) : Calls Tryz.prog 102 #[.agg #[.int .i64 a0, .int .i64 a1, .int .i64 a2, .string a3, .string a4], .agg #[.int .i64 b0, .int .i64 b1, .int .i64 b2, .string b3, .string b4]] w fun e w' => e = .returned (.bool (a0 == b0 && (a1 == b1 && a2 == b2))) ∧ Below w.heap.size w w' := by
 cases h0 : a0 == b0 with
 | false =>
  go_enter Tryz.func102, Tryz.ntmps102
  go_wp2
  go_ret
  exact ⟨rfl, ((Below.refl _ _).alloc (Nat.le_refl _) _).alloc (by simp) _⟩
 | true =>
  cases h1 : a1 == b1 with
  | false =>
   go_enter Tryz.func102, Tryz.ntmps102
   go_wp2
   go_ret
   exact ⟨rfl, ((Below.refl _ _).alloc (Nat.le_refl _) _).alloc (by simp) _⟩
  | true =>
   obtain ⟨b, hb⟩ : ∃ b, b = (a2 == b2) := ⟨_, rfl⟩
   rw [← hb]
   have hb' := hb.symm
   clear hb
   go_enter Tryz.func102, Tryz.ntmps102
   go_wp2
   go_ret
   exact ⟨rfl, ((Below.refl _ _).alloc (Nat.le_refl _) _).alloc (by simp) _⟩
def qBP : List S104 → List S104 → Bool
 | [], [] => true
 | x :: xs, y :: ys => qFh x y && qBP xs ys
 | _, _ => false
theorem qE1 : ∀ (a b : List S104), qBP a b = true → a.length = b.length
 | [], [], _ => rfl
 | [], _ :: _, h => by cases h
 | _ :: _, [], h => by cases h
 | x :: xs, y :: ys, h => by simp only [qBP, Bool.and_eq_true] at h; simp [qE1 xs ys h.2]
theorem qFm : ∀ (a b : List S104), a.length = b.length → (∀ (j : Nat) x y, a[j]? = some x → b[j]? = some y → qFh x y = true) → qBP a b = true
 | [], [], _, _ => rfl
 | [], _ :: _, h, _ => by simp at h
 | _ :: _, [], h, _ => by simp at h
 | x :: xs, y :: ys, hl, h => by
  simp only [qBP, Bool.and_eq_true]
  exact ⟨h 0 x y rfl rfl, qFm xs ys (by simpa using hl) fun j u v hu hv => h (j + 1) u v (by simpa using hu) (by simpa using hv)⟩
theorem qEG : ∀ (a b : List S104) (j : Nat) x y, a[j]? = some x → b[j]? = some y → qFh x y = false → qBP a b = false
 | [], _, j, x, y, h, _, _ => by simp at h
 | _ :: _, [], j, x, y, _, h, _ => by simp at h
 | x :: xs, y :: ys, 0, u, v, hu, hv, h => by
  simp only [List.getElem?_cons_zero, Option.some.injEq] at hu hv
  subst hu; subst hv
  simp [qBP, h]
 | x :: xs, y :: ys, j + 1, u, v, hu, hv, h => by
  simp only [List.getElem?_cons_succ] at hu hv
  simp [qBP, qEG xs ys j u v hu hv h]
theorem eqf_any (A1 A2 : Option Addr) (c1 c2 : Nat) (l1 l2 : List S104) (w : World) (hr1 : Kd.C k104 w A1 l1.length l1) (hr2 : Kd.C k104 w A2 l2.length l2) (hl : l1.length ≤ 4611686018427387904) :
  Calls Tryz.prog 103 #[.slice A1 l1.length c1, .slice A2 l2.length c2, .func (.func 102) #[] #[]] w fun e w' => e = .returned (.bool (qBP l1 l2)) ∧ Below w.heap.size w w' := by
 obtain ⟨n1, hn1⟩ : ∃ n, n = l1.length := ⟨_, rfl⟩
 obtain ⟨n2, hn2⟩ : ∃ n, n = l2.length := ⟨_, rfl⟩
 rw [← hn1] at hr1 hl ⊢
 rw [← hn2] at hr2 ⊢
 have HR1 := am hr1
 have HR2 := am hr2
 have HN1 := am hn1
 have HN2 := am hn2
 clear hr1 hr2 hn1 hn2
 by_cases hne : n1 = n2
 case neg =>
  have hq : ((n1 : Int) != (n2 : Int)) = true := bne_iff_ne.mpr (by omega)
  have HF : qAa (qBP l1 l2 = false) := ⟨by
    cases h : qBP l1 l2 with
    | false => rfl
    | true => exact absurd (by rw [HN1.out, HN2.out]; exact qE1 _ _ h) hne⟩
  go_enter Tryz.func103, Tryz.ntmps103
  go_wp2
  go_ret
  exact ⟨by rw [HF.out]; rfl, Below.refl _ _⟩
 subst hne
 have hq : ((n1 : Int) != (n1 : Int)) = false := bne_eq_false_iff_eq.mpr rfl
 go_enter Tryz.func103, Tryz.ntmps103
 go_wp2
 go_loopg [7, 8, 9, 17] n1 (fun gg _ _ _ s17 wr => ∃ kk : Nat, kk ≤ n1 ∧ n1 - kk ≤ gg ∧ s17 = .int .i64 kk ∧ qAa (∀ (j : Nat) x y, j < kk → l1[j]? = some x → l2[j]? = some y → qFh x y = true) ∧ qAa (Below w.heap.size w wr))
 case atStart => exact ⟨0, Nat.zero_le _, by omega, rfl, ⟨fun j x y hj => absurd hj (Nat.not_lt_zero _)⟩, ⟨Below.refl _ _⟩⟩
 case round =>
  obtain ⟨kk, hkk, hg, rfl, HA, HB⟩ := hrel
  by_cases hlt : kk < n1
  rotate_left
  ·have hltz : ¬ (kk : Int) < (n1 : Int) := by omega
   have : kk = n1 := by omega
   subst this
   go_wp2
   go_ret
   refine ⟨?_, HB.out⟩
   rw [qFm l1 l2 (by rw [← HN1.out, ← HN2.out]) fun j x y hx hy => HA.out j x y (by rw [HN1.out]; exact (List.getElem?_eq_some_iff.1 hx).1) hx hy]
   rfl
  have hltz : (kk : Int) < (n1 : Int) := by omega
  have h0 : (0 : Int) ≤ (kk : Int) := by omega
  obtain ⟨ad, ea, hx0, hx1, hx2, hx3, hx4⟩ := qDQ HR1.out (kk : Int) h0 hltz
  subst ea
  obtain ⟨bd, eb, hy0, hy1, hy2, hy3, hy4⟩ := qDQ HR2.out (kk : Int) h0 hltz
  subst eb
  rw [Int.toNat_natCast] at hx0 hx1 hx2 hx3 hx4 hy0 hy1 hy2 hy3 hy4
  replace hx0 := cb HB hx0
  replace hx1 := cb HB hx1
  replace hx2 := cb HB hx2
  replace hx3 := cb HB hx3
  replace hx4 := cb HB hx4
  replace hy0 := cb HB hy0
  replace hy1 := cb HB hy1
  replace hy2 := cb HB hy2
  replace hy3 := cb HB hy3
  replace hy4 := cb HB hy4
  obtain ⟨x, hx⟩ : ∃ x, x = qC9 l1 (kk : Int) := ⟨_, rfl⟩
  obtain ⟨y, hy⟩ : ∃ x, x = qC9 l2 (kk : Int) := ⟨_, rfl⟩
  rw [← hx] at hx0 hx1 hx2 hx3 hx4
  rw [← hy] at hy0 hy1 hy2 hy3 hy4
  have HX : qAa (l1[kk]? = some x) := ⟨by rw [hx]; exact qCv l1 z104 kk (by have := HN1.out; omega)⟩
  have HY : qAa (l2[kk]? = some y) := ⟨by rw [hy]; exact qCv l2 z104 kk (by have := HN2.out; omega)⟩
  clear hx hy
  obtain ⟨x0, x1, x2, x3, x4⟩ := x
  obtain ⟨y0, y1, y2, y3, y4⟩ := y
  dsimp only at hx0 hx1 hx2 hx3 hx4 hy0 hy1 hy2 hy3 hy4
  have HC := am (fun W => bare_any x0 x1 x2 y0 y1 y2 x3 x4 y3 y4 W)
  have hbl : (bd.add (kk * 5)).block < wr.heap.size := World.block_lt_of_cell? wr _ hy0
  obtain ⟨b, hb⟩ : ∃ b, b = (x0 == y0 && (x1 == y1 && x2 == y2)) := ⟨_, rfl⟩
  rw [← hb] at HC
  have HQ := am hb
  clear hb
  cases b with
  | false =>
   go_wp2_with (go_at_call 102; refine (HC.out _).mono ?_; rintro e w1 ⟨rfl, hw⟩; have HB2 := am (qAw HB.out HB.out.size ((((Below.refl wr.heap.size wr).alloc (Nat.le_refl _) _).alloc (by simp) _).trans (hw.mono (by simp; omega)))); clear hw)
   go_ret
   refine ⟨?_, HB2.out⟩
   rw [qEG l1 l2 kk _ _ HX.out HY.out HQ.out.symm]; rfl
  | true =>
   go_wp2_with (go_at_call 102; refine (HC.out _).mono ?_; rintro e w1 ⟨rfl, hw⟩; have HB2 := am (qAw HB.out HB.out.size ((((Below.refl wr.heap.size wr).alloc (Nat.le_refl _) _).alloc (by simp) _).trans (hw.mono (by simp; omega)))); clear hw)
   go_roundg (n1 - (kk + 1))
   case measure => omega
   case rel =>
    refine ⟨kk + 1, by omega, by omega, by go_num, ⟨fun j u v hj hu hv => ?_⟩, HB2⟩
    by_cases e : j = kk
    rotate_left
    ·exact HA.out j u v (by omega) hu hv
    subst e
    rw [HX.out] at hu; rw [HY.out] at hv
    injection hu with hu; injection hv with hv; subst hu; subst hv
    exact HQ.out.symm
theorem qCP {B : Nat} {a w : World} (h : Below B a w) (q : Nat) : Below B a (w.drewN q) := ⟨h.os, h.tape, h.output, h.size, h.block⟩
def qC4 (fns : List S92) (p : S104) : Int := (qAL (qAt fns p.f0).f1.f2 p.f1).f1
def placeIn (fns : List S92) (p : S104) : Prop := 0 ≤ p.f0 ∧ p.f0 < fns.length ∧ 0 ≤ p.f1 ∧ p.f1 < (qAt fns p.f0).f1.f2.length
theorem placeN_any (g : Nat) (a0 a1 a2 : Int) (a3 a4 : ByteArray) (fns : List S92) (AF : Option Addr) (cF : Nat) (w : World) (hg : w.cell? ⟨g, 2, none⟩ = some (.slice AF fns.length cF)) (hr : Kd.C k92 w AF fns.length fns)
  (hin : placeIn fns ⟨a0, a1, a2, a3, a4⟩) :
  Calls Tryz.prog 105 #[.agg #[.int .i64 a0, .int .i64 a1, .int .i64 a2, .string a3, .string a4], .pointer (some ⟨g, 0, none⟩)] w fun e w' => e = .returned (.bool (qC4 fns ⟨a0, a1, a2, a3, a4⟩ != 0)) ∧ Below w.heap.size w w' := by
 obtain ⟨h0, h0', h1, h1'⟩ := hin
 dsimp only at h0 h0' h1 h1'
 obtain ⟨ad, A1, c1, A3, c3, A4, c4, ea, hx0, hx1, hx2, hx3, hx4, hl1, hC1, hl3, hC3, hl4, hC4⟩ := qFg hr a0 h0 h0'
 subst ea
 obtain ⟨bd, eb, hy0, hy1, hy2, hy3⟩ := qC7 hC4 a1 h1 h1'
 subst eb
 have hbA : (ad.add (a0.toNat * 5)).block < w.heap.size := World.block_lt_of_cell? w _ hx0
 have hbB : (bd.add (a1.toNat * 4)).block < w.heap.size := World.block_lt_of_cell? w _ hy0
 have hbg : g < w.heap.size := World.block_lt_of_cell? w _ hg
 show Calls _ _ _ _ fun e w' => e = .returned (.bool ((qAL (qAt fns a0).f1.f2 a1).f1 != 0)) ∧ Below w.heap.size w w'
 obtain ⟨q, hq⟩ : ∃ q, q = (qAL (qAt fns a0).f1.f2 a1).f1 := ⟨_, rfl⟩
 rw [← hq] at hy1 ⊢
 obtain ⟨nf, hnf⟩ : ∃ q, q = fns.length := ⟨_, rfl⟩
 rw [← hnf] at h0' hg
 obtain ⟨nc, hnc⟩ : ∃ q, q = (qAt fns a0).f1.f2.length := ⟨_, rfl⟩
 rw [← hnc] at h1' hx4
 clear hq hnf hnc hC1 hC3 hC4 hl1 hl3 hl4 hr hx0 hx1 hx2 hx3 hy0 hy2 hy3
 go_enter Tryz.func105, Tryz.ntmps105
 go_wp2
 go_quiet (fail)
 go_wp2
 go_ret
 exact ⟨rfl, qCP ((Below.refl _ _).alloc (Nat.le_refl _) _) _⟩
theorem idx_places (g : Nat) (fns : List S92) (AF : Option Addr) (cF : Nat) (A : Option Addr) (c : Nat) (l : List S104) (w : World) (hg : w.cell? ⟨g, 2, none⟩ = some (.slice AF fns.length cF)) (hrF : Kd.C k92 w AF fns.length fns) (hr : Kd.C k104 w A l.length l) (hl : l.length ≤ 4611686018427387904) (hu : ∀ x ∈ l, placeIn fns x) :
  Calls Tryz.prog 150 #[.slice A l.length c, .func (.func 105) #[] #[.pointer (some ⟨g, 0, none⟩)]] w (IdxPost (l.any fun x => qC4 fns x != 0) w) := by
 obtain ⟨n, hn⟩ : ∃ n, n = l.length := ⟨_, rfl⟩
 rw [← hn]
 have HR := am hr
 have HN := am hn
 have HU := am hu
 have hgl : g < w.heap.size := World.block_lt_of_cell? w _ hg
 have HF : qAa (∀ W x, Below w.heap.size w W → x ∈ l → Calls Tryz.prog 105 #[.agg #[.int .i64 x.f0, .int .i64 x.f1, .int .i64 x.f2, .string x.f3, .string x.f4], .pointer (some ⟨g, 0, none⟩)] W fun e w' => e = .returned (.bool (qC4 fns x != 0)) ∧ Below W.heap.size W w') := ⟨fun W x hW hx => placeN_any g x.f0 x.f1 x.f2 x.f3 x.f4 fns AF cF W ((hW.cell (p := ⟨g, 2, none⟩) hgl).trans hg) (Kd.C_below hrF hW) (hu x hx)⟩
 rw [← hn] at hl
 clear hr hn hu hg hrF
 go_enter Tryz.func150, Tryz.ntmps150
 go_wp2
 go_loopg [5, 8] n (fun gg _ s8 wr => ∃ kk : Nat, kk ≤ n ∧ n - kk ≤ gg ∧ s8 = .int .i64 kk ∧ qAa (∀ (j : Nat) x, j < kk → l[j]? = some x → (qC4 fns x != 0) = false) ∧ qAa (Below w.heap.size w wr))
 case atStart => exact ⟨0, Nat.zero_le _, by omega, rfl, ⟨fun j x hj => absurd hj (Nat.not_lt_zero _)⟩, ⟨Below.refl _ _⟩⟩
 case round =>
  obtain ⟨kk, hkk, hg, rfl, HA, HB⟩ := hrel
  by_cases hlt : kk < n
  rotate_left
  ·have hltz : ¬ (kk : Int) < (n : Int) := by omega
   have : kk = n := by omega
   subst this
   go_wp2
   go_ret
   refine ⟨-1, rfl, ?_, HB.out⟩
   rw [qEW _ l fun j x hj => HA.out j x (by rw [HN.out]; exact (List.getElem?_eq_some_iff.1 hj).1) hj]
   simp
  have hltz : (kk : Int) < (n : Int) := by omega
  have h0 : (0 : Int) ≤ (kk : Int) := by omega
  obtain ⟨ad, ea, hx0, hx1, hx2, hx3, hx4⟩ := qDQ HR.out (kk : Int) h0 (by have := HN.out; omega)
  subst ea
  rw [Int.toNat_natCast] at hx0 hx1 hx2 hx3 hx4
  replace hx0 := cb HB hx0
  replace hx1 := cb HB hx1
  replace hx2 := cb HB hx2
  replace hx3 := cb HB hx3
  replace hx4 := cb HB hx4
  obtain ⟨x, hx⟩ : ∃ x, x = qC9 l (kk : Int) := ⟨_, rfl⟩
  rw [← hx] at hx0 hx1 hx2 hx3 hx4
  have HX : qAa (l[kk]? = some x) := ⟨by rw [hx]; exact qCv l z104 kk (by have := HN.out; omega)⟩
  clear hx
  have HC := am (HF.out wr x HB.out (List.mem_of_getElem? HX.out))
  obtain ⟨b, hb⟩ : ∃ b, b = (qC4 fns x != 0) := ⟨_, rfl⟩
  rw [← hb] at HC
  have HQ := am hb
  clear hb
  cases b with
  | true =>
   go_wp2_with (go_at_call 105; refine (HC.out).mono ?_; rintro e w1 ⟨rfl, hw⟩; have HB1 := am (qAw HB.out HB.out.size hw); clear hw)
   go_ret
   exact ⟨kk, rfl, ⟨fun _ => qEx _ l kk _ HX.out HQ.out.symm, fun _ => h0⟩, HB1.out⟩
  | false =>
   go_wp2_with (go_at_call 105; refine (HC.out).mono ?_; rintro e w1 ⟨rfl, hw⟩; have HB1 := am (qAw HB.out HB.out.size hw); clear hw)
   go_roundg (n - (kk + 1))
   case measure => omega
   case rel =>
    refine ⟨kk + 1, by omega, by omega, by go_num, ⟨fun j y hj hy => ?_⟩, HB1⟩
    by_cases e : j = kk
    rotate_left
    ·exact HA.out j y (by omega) hy
    subst e
    rw [HX.out] at hy; injection hy with hy; subst hy; exact HQ.out.symm
theorem has_places (g : Nat) (fns : List S92) (AF : Option Addr) (cF : Nat) (A : Option Addr) (c : Nat) (l : List S104) (w : World) (hg : w.cell? ⟨g, 2, none⟩ = some (.slice AF fns.length cF)) (hrF : Kd.C k92 w AF fns.length fns) (hr : Kd.C k104 w A l.length l) (hl : l.length ≤ 4611686018427387904) (hu : ∀ x ∈ l, placeIn fns x) :
  Calls Tryz.prog 104 #[.slice A l.length c, .func (.func 105) #[] #[.pointer (some ⟨g, 0, none⟩)]] w fun e w' => e = .returned (.bool (l.any fun x => qC4 fns x != 0)) ∧ Below w.heap.size w w' := by
 have HI := am (idx_places g fns AF cF A c l w hg hrF hr hl hu)
 obtain ⟨b, hb⟩ : ∃ b, b = l.any fun x => qC4 fns x != 0 := ⟨_, rfl⟩
 rw [← hb] at HI ⊢
 clear hb hr hl hu hg hrF
 go_enter Tryz.func104, Tryz.ntmps104
 go_wp2_with (go_at_call 150; refine (HI.out).mono ?_; rintro e w1 ⟨i, rfl, hi, hw⟩; have HB := am hw; have HQ := am hi; clear hi hw)
 go_ret
 refine ⟨?_, HB.out⟩
 have := HQ.out
 congr 2
 cases b <;> simp_all
end Q
end
section
namespace Names
open Go.RowKit Base
def qAY (c : Int) : Bool := decide ((97 ≤ c ∧ c ≤ 122) ∨ (65 ≤ c ∧ c ≤ 90) ∨ c = 95)
def qCf (c : Int) : Bool := decide (48 ≤ c ∧ c ≤ 57)
def words : List (List UInt8) := [[98, 111, 111, 108], [99, 97, 116, 99, 104], [99, 111, 110, 115, 116], [101, 108, 115, 101], [101, 120, 112, 111, 114, 116], [102, 97, 105, 108], [102, 97, 108, 115, 101], [102, 108, 111, 97, 116], [102, 110], [105, 102], [105, 109, 112, 111, 114, 116], [105, 110, 102], [105, 110, 112, 117, 116], [105, 110, 116], [108, 101, 116], [109, 111, 100, 117, 108, 101], [110, 97, 110], [114, 101, 116, 117, 114, 110], [115, 104, 111, 119], [116, 114, 117, 101], [116, 114, 121], [118, 97, 114], [119, 104, 105, 108, 101]]
def qCq (s : ByteArray) : Bool := words.any fun x => s.toList == x
def qCu (s : ByteArray) (k : Nat) : Int := if h : k < s.size then (s[k].toNat : Int) else 0
theorem qDZ (s : ByteArray) (k : Nat) (h : k < s.size) : qCu s k = (s[k].toNat : Int) := by unfold qCu; rw [dif_pos h]
def good (s : ByteArray) (k : Nat) : Bool := qAY (qCu s k) || qCf (qCu s k)
def nameE (s : ByteArray) : Int :=
 if s.size = 0 then 12
 else if qAY (qCu s 0) = false then 12
 else if ¬ ∀ k, k < s.size → good s k = true then 12
 else if 32 < s.size then 3
 else if qCq s = true then 12
 else 0
theorem qFu {s : ByteArray} (h : s.size = 0) : nameE s = 12 := by unfold nameE; rw [if_pos h]
theorem qFv {s : ByteArray} (h : s.size ≠ 0) (h1 : qAY (qCu s 0) = false) : nameE s = 12 := by unfold nameE; rw [if_neg h, if_pos h1]
theorem nameE_bad {s : ByteArray} (h : s.size ≠ 0) (h1 : qAY (qCu s 0) = true) (k : Nat) (hk : k < s.size) (hb : good s k = false) : nameE s = 12 := by
 unfold nameE; rw [if_neg h, if_neg (by simp [h1]), if_pos (fun hh => by have := hh k hk; rw [hb] at this; cases this)]
theorem nameE_big {s : ByteArray} (h : s.size ≠ 0) (h1 : qAY (qCu s 0) = true) (hg : ∀ k, k < s.size → good s k = true) (hb : 32 < s.size) : nameE s = 3 := by
 unfold nameE; rw [if_neg h, if_neg (by simp [h1]), if_neg (by simpa using hg), if_pos hb]
theorem nameE_res {s : ByteArray} (h : s.size ≠ 0) (h1 : qAY (qCu s 0) = true) (hg : ∀ k, k < s.size → good s k = true) (hb : ¬ 32 < s.size) (hr : qCq s = true) : nameE s = 12 := by
 unfold nameE; rw [if_neg h, if_neg (by simp [h1]), if_neg (by simpa using hg), if_neg hb, if_pos hr]
theorem nameE_ok {s : ByteArray} (h : s.size ≠ 0) (h1 : qAY (qCu s 0) = true) (hg : ∀ k, k < s.size → good s k = true) (hb : ¬ 32 < s.size) (hr : qCq s = false) : nameE s = 0 := by
 unfold nameE; rw [if_neg h, if_neg (by simp [h1]), if_neg (by simpa using hg), if_neg hb, if_neg (by simp [hr])]
theorem size_le_of_ok {s : ByteArray} (h : nameE s = 0) : s.size ≤ 32 := by
 unfold nameE at h
 (repeat' split at h) <;> omega
theorem letter_any (c : Int) (w : World) : Calls Tryz.prog 90 #[.int .u8 c] w fun e w' => e = .returned (.bool (qAY c)) ∧ w = w' := by
 have hr : (c < 65) ∨ (65 ≤ c ∧ c ≤ 90) ∨ (91 ≤ c ∧ c ≤ 94) ∨ (c = 95) ∨ (c = 96) ∨ (97 ≤ c ∧ c ≤ 122) ∨ (123 ≤ c) := by omega
 rcases hr with h | h | h | h | h | h | h
 ·have e : qAY c = false := by unfold qAY; simp; omega
  rw [e]
  have b1 : decide (97 ≤ c) = false := decide_eq_false (by omega)
  have b3 : decide (65 ≤ c) = false := decide_eq_false (by omega)
  have b5 : (c == 95) = false := beq_eq_false_iff_ne.mpr (by omega)
  clear e h
  go_enter Tryz.func90, Tryz.ntmps90
  go_wp2
  go_ret
  exact ⟨rfl, rfl⟩
 ·have e : qAY c = true := by unfold qAY; simp; omega
  rw [e]
  have b1 : decide (97 ≤ c) = false := decide_eq_false (by omega)
  have b3 : decide (65 ≤ c) = true := decide_eq_true (by omega)
  have b4 : decide (c ≤ 90) = true := decide_eq_true (by omega)
  clear e h
  go_enter Tryz.func90, Tryz.ntmps90
  go_wp2
  go_ret
  exact ⟨rfl, rfl⟩
 ·have e : qAY c = false := by unfold qAY; simp; omega
  rw [e]
  have b1 : decide (97 ≤ c) = false := decide_eq_false (by omega)
  have b3 : decide (65 ≤ c) = true := decide_eq_true (by omega)
  have b4 : decide (c ≤ 90) = false := decide_eq_false (by omega)
  have b5 : (c == 95) = false := beq_eq_false_iff_ne.mpr (by omega)
  clear e h
  go_enter Tryz.func90, Tryz.ntmps90
  go_wp2
  go_ret
  exact ⟨rfl, rfl⟩
 ·have e : qAY c = true := by unfold qAY; simp; omega
  rw [e]
  have b1 : decide (97 ≤ c) = false := decide_eq_false (by omega)
  have b3 : decide (65 ≤ c) = true := decide_eq_true (by omega)
  have b4 : decide (c ≤ 90) = false := decide_eq_false (by omega)
  have b5 : (c == 95) = true := beq_iff_eq.mpr h
  clear e h
  go_enter Tryz.func90, Tryz.ntmps90
  go_wp2
  go_ret
  exact ⟨rfl, rfl⟩
 ·have e : qAY c = false := by unfold qAY; simp; omega
  rw [e]
  have b1 : decide (97 ≤ c) = false := decide_eq_false (by omega)
  have b3 : decide (65 ≤ c) = true := decide_eq_true (by omega)
  have b4 : decide (c ≤ 90) = false := decide_eq_false (by omega)
  have b5 : (c == 95) = false := beq_eq_false_iff_ne.mpr (by omega)
  clear e h
  go_enter Tryz.func90, Tryz.ntmps90
  go_wp2
  go_ret
  exact ⟨rfl, rfl⟩
 ·have e : qAY c = true := by unfold qAY; simp; omega
  rw [e]
  have b1 : decide (97 ≤ c) = true := decide_eq_true (by omega)
  have b2 : decide (c ≤ 122) = true := decide_eq_true (by omega)
  clear e h
  go_enter Tryz.func90, Tryz.ntmps90
  go_wp2
  go_ret
  exact ⟨rfl, rfl⟩
 have e : qAY c = false := by unfold qAY; simp; omega
 rw [e]
 have b1 : decide (97 ≤ c) = true := decide_eq_true (by omega)
 have b2 : decide (c ≤ 122) = false := decide_eq_false (by omega)
 have b3 : decide (65 ≤ c) = true := decide_eq_true (by omega)
 have b4 : decide (c ≤ 90) = false := decide_eq_false (by omega)
 have b5 : (c == 95) = false := beq_eq_false_iff_ne.mpr (by omega)
 clear e h
 go_enter Tryz.func90, Tryz.ntmps90
 go_wp2
 go_ret
 exact ⟨rfl, rfl⟩
theorem rletter_any (c : Int) (w : World) : Calls Tryz.prog 106 #[.int .u8 c] w fun e w' => e = .returned (.bool (qAY c)) ∧ w = w' := by
 have hr : (c < 65) ∨ (65 ≤ c ∧ c ≤ 90) ∨ (91 ≤ c ∧ c ≤ 94) ∨ (c = 95) ∨ (c = 96) ∨ (97 ≤ c ∧ c ≤ 122) ∨ (123 ≤ c) := by omega
 rcases hr with h | h | h | h | h | h | h
 ·have e : qAY c = false := by unfold qAY; simp; omega
  rw [e]
  have b1 : decide (97 ≤ c) = false := decide_eq_false (by omega)
  have b3 : decide (65 ≤ c) = false := decide_eq_false (by omega)
  have b5 : (c == 95) = false := beq_eq_false_iff_ne.mpr (by omega)
  clear e h
  go_enter Tryz.func106, Tryz.ntmps106
  go_wp2
  go_ret
  exact ⟨rfl, rfl⟩
 ·have e : qAY c = true := by unfold qAY; simp; omega
  rw [e]
  have b1 : decide (97 ≤ c) = false := decide_eq_false (by omega)
  have b3 : decide (65 ≤ c) = true := decide_eq_true (by omega)
  have b4 : decide (c ≤ 90) = true := decide_eq_true (by omega)
  clear e h
  go_enter Tryz.func106, Tryz.ntmps106
  go_wp2
  go_ret
  exact ⟨rfl, rfl⟩
 ·have e : qAY c = false := by unfold qAY; simp; omega
  rw [e]
  have b1 : decide (97 ≤ c) = false := decide_eq_false (by omega)
  have b3 : decide (65 ≤ c) = true := decide_eq_true (by omega)
  have b4 : decide (c ≤ 90) = false := decide_eq_false (by omega)
  have b5 : (c == 95) = false := beq_eq_false_iff_ne.mpr (by omega)
  clear e h
  go_enter Tryz.func106, Tryz.ntmps106
  go_wp2
  go_ret
  exact ⟨rfl, rfl⟩
 ·have e : qAY c = true := by unfold qAY; simp; omega
  rw [e]
  have b1 : decide (97 ≤ c) = false := decide_eq_false (by omega)
  have b3 : decide (65 ≤ c) = true := decide_eq_true (by omega)
  have b4 : decide (c ≤ 90) = false := decide_eq_false (by omega)
  have b5 : (c == 95) = true := beq_iff_eq.mpr h
  clear e h
  go_enter Tryz.func106, Tryz.ntmps106
  go_wp2
  go_ret
  exact ⟨rfl, rfl⟩
 ·have e : qAY c = false := by unfold qAY; simp; omega
  rw [e]
  have b1 : decide (97 ≤ c) = false := decide_eq_false (by omega)
  have b3 : decide (65 ≤ c) = true := decide_eq_true (by omega)
  have b4 : decide (c ≤ 90) = false := decide_eq_false (by omega)
  have b5 : (c == 95) = false := beq_eq_false_iff_ne.mpr (by omega)
  clear e h
  go_enter Tryz.func106, Tryz.ntmps106
  go_wp2
  go_ret
  exact ⟨rfl, rfl⟩
 ·have e : qAY c = true := by unfold qAY; simp; omega
  rw [e]
  have b1 : decide (97 ≤ c) = true := decide_eq_true (by omega)
  have b2 : decide (c ≤ 122) = true := decide_eq_true (by omega)
  clear e h
  go_enter Tryz.func106, Tryz.ntmps106
  go_wp2
  go_ret
  exact ⟨rfl, rfl⟩
 have e : qAY c = false := by unfold qAY; simp; omega
 rw [e]
 have b1 : decide (97 ≤ c) = true := decide_eq_true (by omega)
 have b2 : decide (c ≤ 122) = false := decide_eq_false (by omega)
 have b3 : decide (65 ≤ c) = true := decide_eq_true (by omega)
 have b4 : decide (c ≤ 90) = false := decide_eq_false (by omega)
 have b5 : (c == 95) = false := beq_eq_false_iff_ne.mpr (by omega)
 clear e h
 go_enter Tryz.func106, Tryz.ntmps106
 go_wp2
 go_ret
 exact ⟨rfl, rfl⟩
theorem rdigit_any (c : Int) (w : World) : Calls Tryz.prog 107 #[.int .u8 c] w fun e w' => e = .returned (.bool (qCf c)) ∧ w = w' := by
 have hr : c < 48 ∨ (48 ≤ c ∧ c ≤ 57) ∨ 57 < c := by omega
 rcases hr with h | h | h
 ·have e : qCf c = false := by unfold qCf; simp; omega
  rw [e]
  have b1 : decide (48 ≤ c) = false := decide_eq_false (by omega)
  clear e h
  go_enter Tryz.func107, Tryz.ntmps107
  go_wp2
  go_ret
  exact ⟨rfl, rfl⟩
 ·have e : qCf c = true := by unfold qCf; simp; omega
  rw [e]
  have b1 : decide (48 ≤ c) = true := decide_eq_true (by omega)
  have b2 : decide (c ≤ 57) = true := decide_eq_true (by omega)
  clear e h
  go_enter Tryz.func107, Tryz.ntmps107
  go_wp2
  go_ret
  exact ⟨rfl, rfl⟩
 have e : qCf c = false := by unfold qCf; simp; omega
 rw [e]
 have b1 : decide (48 ≤ c) = true := decide_eq_true (by omega)
 have b2 : decide (c ≤ 57) = false := decide_eq_false (by omega)
 clear e h
 go_enter Tryz.func107, Tryz.ntmps107
 go_wp2
 go_ret
 exact ⟨rfl, rfl⟩
theorem reserved_any (s : ByteArray) (w : World) : Calls Tryz.prog 91 #[.string s] w fun e w' => e = .returned (.bool (qCq s)) ∧ w = w' := by
 have hr : Hid (qCq s = (words.any fun x => s.toList == x)) := hid rfl
 go_enter Tryz.func91, Tryz.ntmps91
 go_wp2
 all_goals go_ret
 all_goals exact ⟨by rw [hr.out]; first | (simp [words, *]; done) | (simp_all [words]; done), rfl⟩
def StrsAt (W : World) (b o : Nat) (xs : List ByteArray) : Prop := ∀ j x, xs[j]? = some x → W.cell? ⟨b, o + j, none⟩ = some (.string x)
def hasS (xs : List ByteArray) (s : ByteArray) : Bool := xs.any fun x => x.toList == s.toList
def FindPost (xs : List ByteArray) (s : ByteArray) (w : World) (e : Ending) (w' : World) : Prop := ∃ i : Int, e = .returned (.tuple #[.int .i64 i, .bool (hasS xs s)]) ∧ w = w'
theorem hasS_true {xs : List ByteArray} {s : ByteArray} {k : Nat} {x : ByteArray} (hx : xs[k]? = some x) (h : (x.toList == s.toList) = true) : hasS xs s = true :=
 List.any_eq_true.2 ⟨x, List.mem_of_getElem? hx, h⟩
theorem hasS_false {xs : List ByteArray} {s : ByteArray} (h : ∀ (k : Nat) (x : ByteArray), xs[k]? = some x → (x.toList == s.toList) = false) : hasS xs s = false := by
 unfold hasS
 rw [List.any_eq_false]
 intro x hx
 obtain ⟨k, hk⟩ := List.getElem?_of_mem hx
 simpa using h k x hk
theorem rfind_any (b o c : Nat) (xs : List ByteArray) (s : ByteArray) (w : World) (hx : StrsAt w b o xs) (hl : xs.length ≤ 9223372036854775807) :
  Calls Tryz.prog 112 #[.slice (some ⟨b, o, none⟩) xs.length c, .string s] w (FindPost xs s w) := by
 have HX := hid hx
 clear hx
 go_enter Tryz.func112, Tryz.ntmps112
 go_wp2
 go_loop [6] (fun i => ∃ k : Nat, k ≤ xs.length ∧ i = .int .i64 k ∧ Hid (∀ j x, j < k → xs[j]? = some x → (x.toList == s.toList) = false)) (fun i => xs.length - (intOf i).toNat)
 case atStart => exact ⟨0, Nat.zero_le _, rfl, hid fun j _ hj => absurd hj (by omega)⟩
 case round =>
  obtain ⟨k, hk, rfl, hall⟩ := hrel
  by_cases hlt : k < xs.length
  rotate_left
  ·go_wp2
   go_ret2
   exact ⟨0, by rw [hasS_false fun j y hy => hall.out j y (by have := (List.getElem?_eq_some_iff.1 hy).1; omega) hy]; rfl, rfl⟩
  obtain ⟨x, hx⟩ : ∃ x, xs[k]? = some x := ⟨_, List.getElem?_eq_getElem hlt⟩
  have hcell := HX.out k x hx
  have HK := hid hx
  clear hx
  by_cases hq : (x.toList == s.toList) = true
  ·go_wp2
   go_ret2
   exact ⟨(k : Int), by rw [hasS_true HK.out hq]; rfl, rfl⟩
  have hq' : (x.toList == s.toList) = false := by simpa using hq
  clear hq
  go_wp2
  go_round
  case rel => exact ⟨k + 1, by omega, by go_num, hid fun j y hj hy => by
    by_cases e : j = k
    · subst e; have := HK.out.symm.trans hy; cases this; exact hq'
    · exact hall.out j y (by omega) hy⟩
  case measure => simp [intOf]; omega
def wordsB : List ByteArray := words.map fun l => ⟨l.toArray⟩
theorem qCC (c : Int) (v : Bool) (h : qAY c = v) (w : World) : Calls Tryz.prog 90 #[.int .u8 c] w fun e w' => e = .returned (.bool v) ∧ w = w' := h ▸ letter_any c w
theorem qCK (c : Int) (v : Bool) (h : qAY c = v) (w : World) : Calls Tryz.prog 106 #[.int .u8 c] w fun e w' => e = .returned (.bool v) ∧ w = w' := h ▸ rletter_any c w
theorem rdigit_val (c : Int) (v : Bool) (h : qCf c = v) (w : World) : Calls Tryz.prog 107 #[.int .u8 c] w fun e w' => e = .returned (.bool v) ∧ w = w' := h ▸ rdigit_any c w
theorem qEK (s : ByteArray) (v : Bool) (h : qCq s = v) (w : World) : Calls Tryz.prog 91 #[.string s] w fun e w' => e = .returned (.bool v) ∧ w = w' := h ▸ reserved_any s w
theorem right_any (s : ByteArray) (w : World) (hs : s.size ≤ 140737488351232) : Calls Tryz.prog 30 #[.string s] w fun e w' => e = .returned (.int .i64 (nameE s)) ∧ w = w' := by
 by_cases h0 : s.size = 0
 ·rw [qFu h0]
  obtain rfl : s = ⟨#[]⟩ := ByteArray.ext (Array.eq_empty_of_size_eq_zero h0)
  go_enter Tryz.func30, Tryz.ntmps30
  go_wp2
  go_ret
  exact ⟨rfl, rfl⟩
 have hp : 0 < s.size := by omega
 have he : s.toList.isEmpty = false := toList_ne h0
 have hb0 := qDZ s 0 hp
 cases hl : qAY (qCu s 0) with
 | false =>
  rw [qFv h0 hl]
  rw [hb0] at hl
  have HL : Hid (qAY ((s[0]'hp).toNat : Int) = false) := hid hl
  clear hl hb0
  go_enter Tryz.func30, Tryz.ntmps30
  go_wp2_with (go_at_call 90; refine (qCC _ _ HL.out _).mono ?_; rintro e w' ⟨rfl, rfl⟩)
  go_ret
  exact ⟨rfl, rfl⟩
 | true =>
  have HN : Hid (qAY (qCu s 0) = true) := hid hl
  rw [hb0] at hl
  have HL : Hid (qAY ((s[0]'hp).toNat : Int) = true) := hid hl
  clear hl hb0
  go_enter Tryz.func30, Tryz.ntmps30
  go_wp2_with (go_at_call 90; refine (qCC _ _ HL.out _).mono ?_; rintro e w' ⟨rfl, rfl⟩)
  go_loop [14] (fun i => ∃ k : Nat, k ≤ s.size ∧ i = .int .i64 k ∧ Hid (∀ j, j < k → good s j = true)) (fun i => s.size - (intOf i).toNat)
  case atStart => exact ⟨0, Nat.zero_le _, rfl, hid fun j hj => absurd hj (by omega)⟩
  case round =>
   obtain ⟨k, hk, rfl, hall⟩ := hrel
   by_cases hlt : k < s.size
   rotate_left
   ·have hkk : k = s.size := by omega
    subst hkk
    have HA : Hid (∀ j, j < s.size → good s j = true) := hall
    clear hall
    by_cases h32 : 32 < s.size
    ·have HE : Hid (nameE s = 3) := hid (nameE_big h0 HN.out HA.out h32)
     have b1 : decide ((32 : Int) < (s.size : Int)) = true := decide_eq_true (by omega)
     go_wp2_with fail
     go_ret
     exact ⟨by rw [HE.out]; rfl, rfl⟩
    have b1 : decide ((32 : Int) < (s.size : Int)) = false := decide_eq_false (by omega)
    cases hres : qCq s with
    | true =>
     have HE : Hid (nameE s = 12) := hid (nameE_res h0 HN.out HA.out h32 hres)
     have HR := hid hres
     clear hres
     go_wp2_with (go_at_call 91; refine (qEK _ _ HR.out _).mono ?_; rintro e w' ⟨rfl, rfl⟩)
     go_ret
     exact ⟨by rw [HE.out]; rfl, rfl⟩
    | false =>
     have HE : Hid (nameE s = 0) := hid (nameE_ok h0 HN.out HA.out h32 hres)
     have HR := hid hres
     clear hres
     go_wp2_with (go_at_call 91; refine (qEK _ _ HR.out _).mono ?_; rintro e w' ⟨rfl, rfl⟩)
     go_ret
     exact ⟨by rw [HE.out]; rfl, rfl⟩
   have hbk := qDZ s k hlt
   cases hlet : qAY (qCu s k) with
   | true =>
    have HG : Hid (good s k = true) := hid (by unfold good; rw [hlet]; rfl)
    have HK : Hid (qAY ((s[k]'hlt).toNat : Int) = true) := hid (by rw [← hbk]; exact hlet)
    clear hlet hbk
    go_wp2_with (go_at_call 90; refine (qCC _ _ HK.out _).mono ?_; rintro e w' ⟨rfl, rfl⟩)
    go_round
    case rel => exact ⟨k + 1, by omega, by go_num, hid fun j hj => by
      by_cases e : j = k
      · rw [e]; exact HG.out
      · exact hall.out j (by omega)⟩
    case measure => simp [intOf]; omega
   | false =>
    have HK : Hid (qAY ((s[k]'hlt).toNat : Int) = false) := hid (by rw [← hbk]; exact hlet)
    cases hdig : qCf (qCu s k) with
    | true =>
     have HG : Hid (good s k = true) := hid (by unfold good; rw [hdig]; simp)
     have hq := hdig
     rw [hbk] at hq
     have hq2 : 48 ≤ ((s[k]'hlt).toNat : Int) ∧ ((s[k]'hlt).toNat : Int) ≤ 57 := by simpa [qCf] using hq
     have b1 : decide (((s[k]'hlt).toNat : Int) < 48) = false := decide_eq_false (by omega)
     have b2 : decide (57 < ((s[k]'hlt).toNat : Int)) = false := decide_eq_false (by omega)
     clear hq hq2
     clear hlet hbk hdig
     go_wp2_with (go_at_call 90; refine (qCC _ _ HK.out _).mono ?_; rintro e w' ⟨rfl, rfl⟩)
     go_round
     case rel => exact ⟨k + 1, by omega, by go_num, hid fun j hj => by
       by_cases e : j = k
       · rw [e]; exact HG.out
       · exact hall.out j (by omega)⟩
     case measure => simp [intOf]; omega
    | false =>
     have HE : Hid (nameE s = 12) := hid (nameE_bad h0 HN.out k hlt (by unfold good; rw [hlet, hdig]; rfl))
     have hq := hdig
     rw [hbk] at hq
     have hq2 : ¬ (48 ≤ ((s[k]'hlt).toNat : Int) ∧ ((s[k]'hlt).toNat : Int) ≤ 57) := by simpa [qCf] using hq
     clear hlet hbk hdig hq
     by_cases hq3 : ((s[k]'hlt).toNat : Int) < 48
     ·have b1 : decide (((s[k]'hlt).toNat : Int) < 48) = true := decide_eq_true hq3
      clear hq2 hq3
      go_wp2_with (go_at_call 90; refine (qCC _ _ HK.out _).mono ?_; rintro e w' ⟨rfl, rfl⟩)
      go_ret
      exact ⟨by rw [HE.out]; rfl, rfl⟩
     have b1 : decide (((s[k]'hlt).toNat : Int) < 48) = false := decide_eq_false hq3
     have b2 : decide (57 < ((s[k]'hlt).toNat : Int)) = true := decide_eq_true (by omega)
     clear hq2 hq3
     go_wp2_with (go_at_call 90; refine (qCC _ _ HK.out _).mono ?_; rintro e w' ⟨rfl, rfl⟩)
     go_ret
     exact ⟨by rw [HE.out]; rfl, rfl⟩
theorem has_words (s : ByteArray) : hasS wordsB s = qCq s := by
 have h : ∀ (l : List (List UInt8)), (l.map fun x => (⟨x.toArray⟩ : ByteArray)).any (fun x => x.toList == s.toList) = l.any fun x => s.toList == x := by
  intro l
  induction l with
  | nil => rfl
  | cons x r ih =>
   rw [List.map_cons, List.any_cons, List.any_cons, ih]
   congr 1
   rw [Lib.toList_data]
   show (x == s.toList) = (s.toList == x)
   rw [Bool.eq_iff_iff]
   simp only [beq_iff_eq]
   exact eq_comm
 exact h words
def wordsV : Array Value := (wordsB.map Value.string).toArray
theorem rwords_any (w : World) : Calls Tryz.prog 151 #[] w fun e w' => e = .returned (.slice (some ⟨w.heap.size, 0, none⟩) 23 23) ∧ w.alloc (.cells wordsV 9) = w' := by
 have hv : Hid (wordsV = #[.string ⟨#[98, 111, 111, 108]⟩, .string ⟨#[99, 97, 116, 99, 104]⟩, .string ⟨#[99, 111, 110, 115, 116]⟩, .string ⟨#[101, 108, 115, 101]⟩, .string ⟨#[101, 120, 112, 111, 114, 116]⟩, .string ⟨#[102, 97, 105, 108]⟩, .string ⟨#[102, 97, 108, 115, 101]⟩, .string ⟨#[102, 108, 111, 97, 116]⟩, .string ⟨#[102, 110]⟩, .string ⟨#[105, 102]⟩, .string ⟨#[105, 109, 112, 111, 114, 116]⟩, .string ⟨#[105, 110, 102]⟩, .string ⟨#[105, 110, 112, 117, 116]⟩, .string ⟨#[105, 110, 116]⟩, .string ⟨#[108, 101, 116]⟩, .string ⟨#[109, 111, 100, 117, 108, 101]⟩, .string ⟨#[110, 97, 110]⟩, .string ⟨#[114, 101, 116, 117, 114, 110]⟩, .string ⟨#[115, 104, 111, 119]⟩, .string ⟨#[116, 114, 117, 101]⟩, .string ⟨#[116, 114, 121]⟩, .string ⟨#[118, 97, 114]⟩, .string ⟨#[119, 104, 105, 108, 101]⟩]) := hid rfl
 go_enter Tryz.func151, Tryz.ntmps151
 go_wp2
 go_ret
 exact ⟨rfl, by rw [hv.out]⟩
theorem rreserved_any (s : ByteArray) (w : World) : Calls Tryz.prog 108 #[.string s] w fun e w' => e = .returned (.bool (qCq s)) ∧ Below w.heap.size w w' := by
 have hx : StrsAt (w.alloc (.cells wordsV 9)) w.heap.size 0 wordsB := fun j x hj => by
  rw [World.cell?_alloc_at _ _ _ _ rfl]
  show wordsV[0 + j]? = _
  unfold wordsV
  simp [hj]
 have hc := rfind_any w.heap.size 0 23 wordsB s (w.alloc (.cells wordsV 9)) hx (by decide)
 rw [show wordsB.length = 23 from rfl] at hc
 have HC := hid hc
 clear hx hc
 go_enter Tryz.func108, Tryz.ntmps108
 go_wp2_with (go_at_call 151; refine (rwords_any _).mono ?_; rintro e w' ⟨rfl, rfl⟩)
 refine HC.out.mono ?_
 rintro e w' ⟨i, rfl, rfl⟩
 go_wp2
 go_ret
 exact ⟨by rw [has_words]; rfl, (Below.refl _ _).alloc (Nat.le_refl _) _⟩
theorem qEm (s : ByteArray) (v : Bool) (h : qCq s = v) (w : World) : Calls Tryz.prog 108 #[.string s] w fun e w' => e = .returned (.bool v) ∧ Below w.heap.size w w' := h ▸ rreserved_any s w
theorem rright_any (s : ByteArray) (w : World) (hs : s.size ≤ 140737488351232) : Calls Tryz.prog 36 #[.string s] w fun e w' => e = .returned (.int .i64 (nameE s)) ∧ Below w.heap.size w w' := by
 by_cases h0 : s.size = 0
 ·rw [qFu h0]
  obtain rfl : s = ⟨#[]⟩ := ByteArray.ext (Array.eq_empty_of_size_eq_zero h0)
  go_enter Tryz.func36, Tryz.ntmps36
  go_wp2
  go_ret
  exact ⟨rfl, Below.refl _ _⟩
 have hp : 0 < s.size := by omega
 have he : ((s.size : Int) == 0) = false := beq_eq_false_iff_ne.mpr (by omega)
 have hb0 := qDZ s 0 hp
 cases hl : qAY (qCu s 0) with
 | false =>
  rw [qFv h0 hl]
  rw [hb0] at hl
  have HL : Hid (qAY ((s[0]'hp).toNat : Int) = false) := hid hl
  clear hl hb0
  go_enter Tryz.func36, Tryz.ntmps36
  go_wp2_with (go_at_call 106; refine (qCK _ _ HL.out _).mono ?_; rintro e w' ⟨rfl, rfl⟩)
  go_ret
  exact ⟨rfl, Below.refl _ _⟩
 | true =>
  have HN : Hid (qAY (qCu s 0) = true) := hid hl
  rw [hb0] at hl
  have HL : Hid (qAY ((s[0]'hp).toNat : Int) = true) := hid hl
  clear hl hb0
  go_enter Tryz.func36, Tryz.ntmps36
  go_wp2_with (go_at_call 106; refine (qCK _ _ HL.out _).mono ?_; rintro e w' ⟨rfl, rfl⟩)
  go_loop [3] (fun i => ∃ k : Nat, k ≤ s.size ∧ i = .int .i64 k ∧ Hid (∀ j, j < k → good s j = true)) (fun i => s.size - (intOf i).toNat)
  case atStart => exact ⟨0, Nat.zero_le _, rfl, hid fun j hj => absurd hj (by omega)⟩
  case round =>
   obtain ⟨k, hk, rfl, hall⟩ := hrel
   by_cases hlt : k < s.size
   rotate_left
   ·have hkk : k = s.size := by omega
    subst hkk
    have HA : Hid (∀ j, j < s.size → good s j = true) := hall
    clear hall
    by_cases h32 : 32 < s.size
    ·have HE : Hid (nameE s = 3) := hid (nameE_big h0 HN.out HA.out h32)
     have b1 : decide ((32 : Int) < (s.size : Int)) = true := decide_eq_true (by omega)
     go_wp2_with fail
     go_ret
     exact ⟨by rw [HE.out]; rfl, Below.refl _ _⟩
    have b1 : decide ((32 : Int) < (s.size : Int)) = false := decide_eq_false (by omega)
    cases hres : qCq s with
    | true =>
     have HE : Hid (nameE s = 12) := hid (nameE_res h0 HN.out HA.out h32 hres)
     have HR := hid hres
     clear hres
     go_wp2_with (go_at_call 108; refine (qEm _ _ HR.out _).mono ?_; rintro e w' ⟨rfl, hbr⟩)
     go_ret
     exact ⟨by rw [HE.out]; rfl, hbr⟩
    | false =>
     have HE : Hid (nameE s = 0) := hid (nameE_ok h0 HN.out HA.out h32 hres)
     have HR := hid hres
     clear hres
     go_wp2_with (go_at_call 108; refine (qEm _ _ HR.out _).mono ?_; rintro e w' ⟨rfl, hbr⟩)
     go_ret
     exact ⟨by rw [HE.out]; rfl, hbr⟩
   have hbk := qDZ s k hlt
   cases hlet : qAY (qCu s k) with
   | true =>
    have HG : Hid (good s k = true) := hid (by unfold good; rw [hlet]; rfl)
    have HK : Hid (qAY ((s[k]'hlt).toNat : Int) = true) := hid (by rw [← hbk]; exact hlet)
    clear hlet hbk
    go_wp2_with (go_at_call 106; refine (qCK _ _ HK.out _).mono ?_; rintro e w' ⟨rfl, rfl⟩)
    go_round
    case rel => exact ⟨k + 1, by omega, by go_num, hid fun j hj => by
      by_cases e : j = k
      · rw [e]; exact HG.out
      · exact hall.out j (by omega)⟩
    case measure => simp [intOf]; omega
   | false =>
    have HK : Hid (qAY ((s[k]'hlt).toNat : Int) = false) := hid (by rw [← hbk]; exact hlet)
    cases hdig : qCf (qCu s k) with
    | true =>
     have HG : Hid (good s k = true) := hid (by unfold good; rw [hdig]; simp)
     have HD : Hid (qCf ((s[k]'hlt).toNat : Int) = true) := hid (by rw [← hbk]; exact hdig)
     clear hlet hbk hdig
     go_wp2_with (first | (go_at_call 106; refine (qCK _ _ HK.out _).mono ?_; rintro e w' ⟨rfl, rfl⟩) | (go_at_call 107; refine (rdigit_val _ _ HD.out _).mono ?_; rintro e w' ⟨rfl, rfl⟩))
     go_round
     case rel => exact ⟨k + 1, by omega, by go_num, hid fun j hj => by
       by_cases e : j = k
       · rw [e]; exact HG.out
       · exact hall.out j (by omega)⟩
     case measure => simp [intOf]; omega
    | false =>
     have HE : Hid (nameE s = 12) := hid (nameE_bad h0 HN.out k hlt (by unfold good; rw [hlet, hdig]; rfl))
     have HD : Hid (qCf ((s[k]'hlt).toNat : Int) = false) := hid (by rw [← hbk]; exact hdig)
     clear hlet hbk hdig
     go_wp2_with (first | (go_at_call 106; refine (qCK _ _ HK.out _).mono ?_; rintro e w' ⟨rfl, rfl⟩) | (go_at_call 107; refine (rdigit_val _ _ HD.out _).mono ?_; rintro e w' ⟨rfl, rfl⟩))
     go_ret
     exact ⟨by rw [HE.out]; rfl, Below.refl _ _⟩
end Names
end
section
namespace Q
open Go.RowKit PA PC PB
def qBz.f (a0 : ByteArray) : Option (Int) := if a0.size ≤ 140737488351232 then some (Names.nameE a0) else none
theorem qBz.calls (a0 : ByteArray) (r : Int) (w : World) (h : qBz.f a0 = some r) :
  Calls Tryz.prog 30 #[.string a0] w fun e w' => e = .returned (.int .i64 r) ∧ qAS w w' := by
 unfold qBz.f at h
 split at h
 case isFalse => cases h
 rename_i hs
 obtain rfl := Option.some.inj h
 exact (Names.right_any a0 w hs).mono fun e w' ⟨he, hw⟩ => ⟨he, hw ▸ qAS.refl _⟩
def qAG.f (a0 : ByteArray) : Option (Int) := if a0.size ≤ 140737488351232 then some (Names.nameE a0) else none
theorem qAG.calls (a0 : ByteArray) (r : Int) (w : World) (h : qAG.f a0 = some r) :
  Calls Tryz.prog 36 #[.string a0] w fun e w' => e = .returned (.int .i64 r) ∧ Below w.heap.size w w' := by
 unfold qAG.f at h
 split at h
 case isFalse => cases h
 rename_i hs
 obtain rfl := Option.some.inj h
 exact Names.rright_any a0 w hs
end Q
end
section
namespace Q
open Go.RowKit PA PC PB
attribute [local go_sem] qAX min2_int qBi min_two max_three min_three max_four min_four
mutual
def qA4.l0 : Nat → List (S104) → List (S92) → Int → Int → Option (List (S104))
 | 0, _, _, _, _ => none
 | k + 1, x3, x9, ay, aj => if aj < ay then (if 0 ≤ aj then (if aj < (x9.length : Int) then (qA4.l1 k x3 aj x9 ay aj ((qAt x9 aj).f1.f2) (((qAt x9 aj).f1.f2).length : Int) 0) else (none)) else (none)) else (some x3)
def qA4.l1 : Nat → List (S104) → Int → List (S92) → Int → Int → List (S144) → Int → Int → Option (List (S104))
 | 0, _, _, _, _, _, _, _, _ => none
 | k + 1, x3, x4, x9, ay, aj, ao, bg, ai => if ai < bg then (if 0 ≤ ai then (if ai < (ao.length : Int) then (if ((qAL ao ai).f0) = 4 then (qA4.j2 k x3 x4 ai x9 ay aj ao bg ai ((qAL ao ai).f0) (((qAL ao ai).f0) == 4)) else (qA4.j2 k x3 x4 ai x9 ay aj ao bg ai ((qAL ao ai).f0) (((qAL ao ai).f0) == 5))) else (none)) else (none)) else (qA4.l0 k x3 x9 ay (wrap64 (aj + 1)))
def qA4.j2 : Nat → List (S104) → Int → Int → List (S92) → Int → Int → List (S144) → Int → Int → Int → Bool → Option (List (S104))
 | 0, _, _, _, _, _, _, _, _, _, _, _ => none
 | k + 1, x3, x4, x6, x9, ay, aj, ao, bg, ai, cV, cW => if cW = true then (if x3.length < 2513169434916 then (qA4.l1 k (x3 ++ [(⟨x4, x6, 1, (⟨#[]⟩ : ByteArray), (⟨#[]⟩ : ByteArray)⟩ : S104)]) x4 x9 ay aj ao bg (wrap64 (ai + 1))) else (none)) else (if cV = 10 then (if x3.length < 2513169434916 then (qA4.l1 k (x3 ++ [(⟨x4, x6, 2, (⟨#[]⟩ : ByteArray), (⟨#[]⟩ : ByteArray)⟩ : S104)]) x4 x9 ay aj ao bg (wrap64 (ai + 1))) else (none)) else (qA4.l1 k x3 x4 x9 ay aj ao bg (wrap64 (ai + 1))))
end
def qA4.f (k : Nat) (a0_0 : ByteArray) (l0_1 : List (S85)) (l0_2 : List (S92)) (l0_3 : List (S104)) : Option (List (S104)) := qA4.l0 k ([] : List (S104)) l0_2 (l0_2.length : Int) 0
theorem qA4.calls (k : Nat) (a0_0 : ByteArray) (ac : Option Addr) (ae : Nat) (l0_1 : List (S85)) (az : Option Addr) (af : Nat) (l0_2 : List (S92)) (ad : Option Addr) (ag : Nat) (l0_3 : List (S104)) (r : List (S104)) (w : World) (hr0_1 : Kd.C k85 w ac l0_1.length l0_1) (hc0_1 : l0_1.length ≤ ae) (hr0_2 : Kd.C k92 w az l0_2.length l0_2) (hc0_2 : l0_2.length ≤ af) (hr0_3 : Kd.C k104 w ad l0_3.length l0_3) (hc0_3 : l0_3.length ≤ ag) (h : qA4.f k a0_0 l0_1 l0_2 l0_3 = some r) :
  Calls Tryz.prog 101 #[.agg #[.string a0_0, .slice ac l0_1.length ae, .slice az l0_2.length af, .slice ad l0_3.length ag]] w fun e w' => ∃ v0_ : Value, e = .returned (v0_) ∧ Kd.R k104 104 w' w.heap.size (fun _ => True) v0_ r ∧ Below w.heap.size w w' := by
 clear hr0_1 hc0_1
 have bl := am hr0_2
 clear hr0_2 hc0_2 hr0_3 hc0_3
 have HB := am (Below.refl w.heap.size w)
 have H : (qA4.l0 k ([] : List (S104)) l0_2 (l0_2.length : Int) 0) = some r := h
 clear h
 have H' := am H
 clear H
 go_enter Tryz.func101, Tryz.ntmps101
 go_wp2_with ((with_reducible refine qAK (N := 1) rfl ?_); refine bx 1 #[.string a0_0, .slice ac l0_1.length ae, .slice az l0_2.length af, .slice ad l0_3.length ag] 33 ?_; intro aa hg w2 hbox hb; have n_ := a2 (qAe HB.o hb) (am (hbox)); clear HB; obtain ⟨HB, aD⟩ := n_; clear hb hbox hg; obtain ⟨bW, bX, bY, bZ⟩ := c4_ w2 aD.o; obtain ⟨b5, b6, b7, b8⟩ := z4_ aD.o)
 go_loopg [3, 11] k (fun kq v3 cP w' => ∃ (bS : List (S104)) (aA : Int), cP = .int .i64 aA ∧ qAa (qA4.l0 kq bS l0_2 (l0_2.length : Int) aA = some r) ∧ qAa (kq ≤ k) ∧ qAa (Kd.R k104 104 w' w.heap.size (fun _ => True) v3 bS) ∧ qAa (w'.heap[aa]? = some (.cells #[.string a0_0, (.slice ac l0_1.length ae), (.slice az l0_2.length af), (.slice ad l0_3.length ag)] 33 (0, 0))) ∧ qAa (Below w.heap.size w w'))
 case atStart => exact ⟨([] : List (S104)), (0), (by rfl), H', ⟨Nat.le_refl _⟩, ⟨by (exact Kd.R_nil _ _ _ _ _)⟩, ⟨by exact aD.o⟩, ⟨by exact HB.o⟩⟩
 case round =>
  clear H'
  obtain ⟨bS, aA, rfl, HA, aw, aI, aD, HB⟩ := hrel
  cases gk with
  | zero => exact absurd HA.o (by simp [qA4.l0])
  | succ k1 =>
   have H := HA.o
   clear HA
   simp only [qA4.l0] at H
   by_cases c4 : aA < (l0_2.length : Int)
   rotate_left
   ·rw [if_neg c4] at H
    replace c4 := d0 c4
    obtain rfl := Option.some.inj H
    go_wp2
    go_ret
    exact ⟨_, by rfl, by exact aI.o, by exact HB.o⟩
   rw [if_pos c4] at H
   replace c4 := d1 c4
   obtain ⟨c5, H⟩ := gd H
   replace c5 := d1 c5
   obtain ⟨c6, H⟩ := gd H
   replace c6 := d1 c6
   have H' := am H
   clear H
   have bO : 0 ≤ aA := od (by assumption)
   have bQ : aA < (l0_2.length : Int) := od (by assumption)
   obtain ⟨ak, aQ, aR, aU, aV, ap, a9, cK, aW, aX, aY, aZ, a4, bL, bJ, bM, bK, bN, al⟩ := qFg bl.o aA bO bQ
   cases cK
   replace aW := (HB.o.cell (World.block_lt_of_cell? w _ aW)).trans aW
   replace aX := (HB.o.cell (World.block_lt_of_cell? w _ aX)).trans aX
   replace aY := (HB.o.cell (World.block_lt_of_cell? w _ aY)).trans aY
   replace aZ := (HB.o.cell (World.block_lt_of_cell? w _ aZ)).trans aZ
   replace a4 := (HB.o.cell (World.block_lt_of_cell? w _ a4)).trans a4
   clear bJ bL bK bM
   have bA := am al
   clear al bN
   replace bO := eq_true bO
   replace bQ := eq_true bQ
   go_wp2_with ((with_reducible refine qAK (N := 5) rfl ?_); refine bx 5 #[.string ⟨#[]⟩, .slice none 0 0, .int .i64 0, .slice none 0 0, .slice none 0 0] 92 ?_; intro aK hg w7 hbox hb; have n_ := a2 (Kd.R_below aI.o hb) (a2 (qAk aD.o hb) (a2 (qAe HB.o hb) (a2 (hbox) (a2 (by rw [hg]; exact (qAf HB.o) : w.heap.size ≤ aK) (am (by rw [hg]; exact Nat.ne_of_lt (qBd aD.o) : aa ≠ aK)))))); clear aI aD HB; obtain ⟨aI, aD, HB, aE, bi, aJ⟩ := n_; clear hb hbox hg; obtain ⟨b0, b1, b2, b3, b4⟩ := c5_ w7 aE.o; obtain ⟨b9, ba, bb, bc, bd⟩ := z5_ aE.o)
   go_loopg [3, 20] k1 (fun kq v3 cS w' => ∃ (aN : List (S104)) (aC : Int), cS = .int .i64 aC ∧ qAa (qA4.l1 kq aN aA l0_2 (l0_2.length : Int) aA ((qAt l0_2 aA).f1.f2) (((qAt l0_2 aA).f1.f2).length : Int) aC = some r) ∧ qAa (kq ≤ k1) ∧ qAa (Kd.R k104 104 w' w.heap.size (fun _ => True) v3 aN) ∧ qAa (w'.heap[aa]? = some (.cells #[.string a0_0, (.slice ac l0_1.length ae), (.slice (some ak) l0_2.length af), (.slice ad l0_3.length ag)] 33 (0, 0))) ∧ qAa (w'.heap[aK]? = some (.cells #[.string ((qAt l0_2 aA).f0), (.slice aQ ((qAt l0_2 aA).f1.f0.f0).length aR), .int .i64 ((qAt l0_2 aA).f1.f0.f1), (.slice aU ((qAt l0_2 aA).f1.f1).length aV), (.slice ap ((qAt l0_2 aA).f1.f2).length a9)] 92 (0, 0))) ∧ qAa (Below w.heap.size w w'))
   case atStart => exact ⟨(bS), (0), (by rfl), H', ⟨Nat.le_refl _⟩, ⟨by exact Kd.R_mono (Kd.R_far (p := ⟨aK, 4, none⟩) (Kd.R_far (p := ⟨aK, 3, none⟩) (Kd.R_far (p := ⟨aK, 2, none⟩) (Kd.R_far (p := ⟨aK, 1, none⟩) (Kd.R_far (p := ⟨aK, 0, none⟩) (Kd.R_types aI.o aE.o (by decide)) (fun _ hk => hk.2) (.string ((qAt l0_2 aA).f0))) (fun _ hk => hk.2) (.slice aQ ((qAt l0_2 aA).f1.f0.f0).length aR)) (fun _ hk => hk.2) (.int .i64 ((qAt l0_2 aA).f1.f0.f1))) (fun _ hk => hk.2) (.slice aU ((qAt l0_2 aA).f1.f1).length aV)) (fun _ hk => hk.2) (.slice ap ((qAt l0_2 aA).f1.f2).length a9)) (fun _ hk => trivial)⟩, ⟨by refine qA2 ?_ aJ.o _; refine qA2 ?_ aJ.o _; refine qA2 ?_ aJ.o _; refine qA2 ?_ aJ.o _; refine qA2 ?_ aJ.o _; exact aD.o⟩, ⟨by refine qA5 (cs := #[.string ((qAt l0_2 aA).f0), .slice aQ ((qAt l0_2 aA).f1.f0.f0).length aR, .int .i64 ((qAt l0_2 aA).f1.f0.f1), .slice aU ((qAt l0_2 aA).f1.f1).length aV, .slice none 0 0]) ?_ 4 _ rfl; refine qA5 (cs := #[.string ((qAt l0_2 aA).f0), .slice aQ ((qAt l0_2 aA).f1.f0.f0).length aR, .int .i64 ((qAt l0_2 aA).f1.f0.f1), .slice none 0 0, .slice none 0 0]) ?_ 3 _ rfl; refine qA5 (cs := #[.string ((qAt l0_2 aA).f0), .slice aQ ((qAt l0_2 aA).f1.f0.f0).length aR, .int .i64 0, .slice none 0 0, .slice none 0 0]) ?_ 2 _ rfl; refine qA5 (cs := #[.string ((qAt l0_2 aA).f0), .slice none 0 0, .int .i64 0, .slice none 0 0, .slice none 0 0]) ?_ 1 _ rfl; refine qA5 (cs := #[.string ⟨#[]⟩, .slice none 0 0, .int .i64 0, .slice none 0 0, .slice none 0 0]) ?_ 0 _ rfl; exact aE.o⟩, ⟨by repeat (with_reducible first | exact HB.o | refine qA1 ?_ bi.o)⟩⟩
   case round =>
    clear H'
    obtain ⟨aN, aC, rfl, HA, ax, aI, aD, aE, HB⟩ := hrel
    cases gk with
    | zero => exact absurd HA.o (by simp [qA4.l1])
    | succ k2 =>
     have H := HA.o
     clear HA
     simp only [qA4.l1] at H
     by_cases c10 : aC < (((qAt l0_2 aA).f1.f2).length : Int)
     rotate_left
     ·rw [if_neg c10] at H
      replace c10 := d0 c10
      have H' := am H
      clear H
      go_wp2
      go_roundg k2
      case measure => have := aw.o; have := ax.o; omega
      case rel => exact ⟨(aN), (wrap64 (aA + 1)), (by rfl), H', ⟨by have := aw.o; have := ax.o; omega⟩, ⟨by exact aI.o⟩, ⟨by exact aD.o⟩, ⟨by exact HB.o⟩⟩
     rw [if_pos c10] at H
     replace c10 := d1 c10
     obtain ⟨cD, H⟩ := gd H
     replace cD := d1 cD
     obtain ⟨cE, H⟩ := gd H
     replace cE := d1 cE
     have bV := am H
     clear H
     have bP : 0 ≤ aC := od (by assumption)
     have bR : aC < (((qAt l0_2 aA).f1.f2).length : Int) := od (by assumption)
     obtain ⟨aq, cL, a5, a6, a7, a8⟩ := qC7 bA.o aC bP bR
     cases cL
     replace a5 := (HB.o.cell (World.block_lt_of_cell? w _ a5)).trans a5
     replace a6 := (HB.o.cell (World.block_lt_of_cell? w _ a6)).trans a6
     replace a7 := (HB.o.cell (World.block_lt_of_cell? w _ a7)).trans a7
     replace a8 := (HB.o.cell (World.block_lt_of_cell? w _ a8)).trans a8
     replace bP := eq_true bP
     replace bR := eq_true bR
     go_upto_if 27 with ((with_reducible refine qAK (N := 7) rfl ?_); refine bx 7 #[.int .i64 0, .int .i64 0, .int .i64 0, .int .u64 0] 144 ?_; intro aM hg cU hbox hb; have n_ := a2 (Kd.R_below aI.o hb) (a2 (qAk aD.o hb) (a2 (qAk aE.o hb) (a2 (qAe HB.o hb) (a2 (hbox) (a2 (by rw [hg]; exact (qAf HB.o) : w.heap.size ≤ aM) (a2 (by rw [hg]; exact Nat.ne_of_lt (qBd aD.o) : aa ≠ aM) (am (by rw [hg]; exact Nat.ne_of_lt (qBd aE.o) : aK ≠ aM)))))))); clear aI aD aE HB; obtain ⟨aI, aD, aE, HB, aT, bT, aG, aH⟩ := n_; clear hb hbox hg; obtain ⟨bB, bC, bD, bE⟩ := c4_ cU aT.o; obtain ⟨bF, bG, bH, bI⟩ := z4_ aT.o)
     (skip)
     go_cut [27] (fun cT wc => ∃ (kq : Nat) (ab : Bool), cT = .bool ab ∧ qAa (qA4.j2 kq aN aA aC l0_2 (l0_2.length : Int) aA ((qAt l0_2 aA).f1.f2) (((qAt l0_2 aA).f1.f2).length : Int) aC ((qAL ((qAt l0_2 aA).f1.f2) aC).f0) ab = some r) ∧ qAa (kq ≤ k2) ∧ qAa (Kd.R k104 104 wc w.heap.size (fun _ => True) u3 aN) ∧ qAa (wc.heap[aa]? = some (.cells #[.string a0_0, (.slice ac l0_1.length ae), (.slice (some ak) l0_2.length af), (.slice ad l0_3.length ag)] 33 (0, 0))) ∧ qAa (wc.heap[aK]? = some (.cells #[.string ((qAt l0_2 aA).f0), (.slice aQ ((qAt l0_2 aA).f1.f0.f0).length aR), .int .i64 ((qAt l0_2 aA).f1.f0.f1), (.slice aU ((qAt l0_2 aA).f1.f1).length aV), (.slice (some aq) ((qAt l0_2 aA).f1.f2).length a9)] 92 (0, 0))) ∧ qAa (wc.heap[aM]? = some (.cells #[.int .i64 ((qAL ((qAt l0_2 aA).f1.f2) aC).f0), .int .i64 ((qAL ((qAt l0_2 aA).f1.f2) aC).f1), .int .i64 ((qAL ((qAt l0_2 aA).f1.f2) aC).f2.f0), .int .u64 ((qAL ((qAt l0_2 aA).f1.f2) aC).f2.f1)] 144 (0, 0))) ∧ qAa (Below w.heap.size w wc))
     case first =>
      have H := bV.o
      clear bV
      by_cases bw : ((qAL ((qAt l0_2 aA).f1.f2) aC).f0) = 4
      rotate_left
      ·rw [if_neg bw] at H
       have ar : (((qAL ((qAt l0_2 aA).f1.f2) aC).f0) == 4) = false := bf bw
       (rw [ar])
       have H' := am H
       clear H
       go_wp2
       go_meet
       case rel => exact ⟨_, (((qAL ((qAt l0_2 aA).f1.f2) aC).f0) == 5), (by rfl), H', ⟨by have := aw.o; have := ax.o; (omega)⟩, ⟨by exact Kd.R_mono (Kd.R_far (p := ⟨aM, 3, none⟩) (Kd.R_far (p := ⟨aM, 2, none⟩) (Kd.R_far (p := ⟨aM, 1, none⟩) (Kd.R_far (p := ⟨aM, 0, none⟩) (Kd.R_types aI.o aT.o (by decide)) (fun _ hk => hk.2) (.int .i64 ((qAL ((qAt l0_2 aA).f1.f2) aC).f0))) (fun _ hk => hk.2) (.int .i64 ((qAL ((qAt l0_2 aA).f1.f2) aC).f1))) (fun _ hk => hk.2) (.int .i64 ((qAL ((qAt l0_2 aA).f1.f2) aC).f2.f0))) (fun _ hk => hk.2) (.int .u64 ((qAL ((qAt l0_2 aA).f1.f2) aC).f2.f1))) (fun _ hk => trivial)⟩, ⟨by refine qA2 ?_ aG.o _; refine qA2 ?_ aG.o _; refine qA2 ?_ aG.o _; refine qA2 ?_ aG.o _; exact aD.o⟩, ⟨by refine qA2 ?_ aH.o _; refine qA2 ?_ aH.o _; refine qA2 ?_ aH.o _; refine qA2 ?_ aH.o _; exact aE.o⟩, ⟨by refine qA5 (cs := #[.int .i64 ((qAL ((qAt l0_2 aA).f1.f2) aC).f0), .int .i64 ((qAL ((qAt l0_2 aA).f1.f2) aC).f1), .int .i64 ((qAL ((qAt l0_2 aA).f1.f2) aC).f2.f0), .int .u64 0]) ?_ 3 _ rfl; refine qA5 (cs := #[.int .i64 ((qAL ((qAt l0_2 aA).f1.f2) aC).f0), .int .i64 ((qAL ((qAt l0_2 aA).f1.f2) aC).f1), .int .i64 0, .int .u64 0]) ?_ 2 _ rfl; refine qA5 (cs := #[.int .i64 ((qAL ((qAt l0_2 aA).f1.f2) aC).f0), .int .i64 0, .int .i64 0, .int .u64 0]) ?_ 1 _ rfl; refine qA5 (cs := #[.int .i64 0, .int .i64 0, .int .i64 0, .int .u64 0]) ?_ 0 _ rfl; exact aT.o⟩, ⟨by repeat (with_reducible first | exact HB.o | refine qA1 ?_ bT.o)⟩⟩
      rw [if_pos bw] at H
      have ar : (((qAL ((qAt l0_2 aA).f1.f2) aC).f0) == 4) = true := beq_iff_eq.mpr bw
      clear bw
      (rw [ar])
      have H' := am H
      clear H
      go_wp2
      go_meet
      case rel => exact ⟨_, (((qAL ((qAt l0_2 aA).f1.f2) aC).f0) == 4), (by (simp [*]; done)), H', ⟨by have := aw.o; have := ax.o; (omega)⟩, ⟨by exact Kd.R_mono (Kd.R_far (p := ⟨aM, 3, none⟩) (Kd.R_far (p := ⟨aM, 2, none⟩) (Kd.R_far (p := ⟨aM, 1, none⟩) (Kd.R_far (p := ⟨aM, 0, none⟩) (Kd.R_types aI.o aT.o (by decide)) (fun _ hk => hk.2) (.int .i64 ((qAL ((qAt l0_2 aA).f1.f2) aC).f0))) (fun _ hk => hk.2) (.int .i64 ((qAL ((qAt l0_2 aA).f1.f2) aC).f1))) (fun _ hk => hk.2) (.int .i64 ((qAL ((qAt l0_2 aA).f1.f2) aC).f2.f0))) (fun _ hk => hk.2) (.int .u64 ((qAL ((qAt l0_2 aA).f1.f2) aC).f2.f1))) (fun _ hk => trivial)⟩, ⟨by refine qA2 ?_ aG.o _; refine qA2 ?_ aG.o _; refine qA2 ?_ aG.o _; refine qA2 ?_ aG.o _; exact aD.o⟩, ⟨by refine qA2 ?_ aH.o _; refine qA2 ?_ aH.o _; refine qA2 ?_ aH.o _; refine qA2 ?_ aH.o _; exact aE.o⟩, ⟨by refine qA5 (cs := #[.int .i64 ((qAL ((qAt l0_2 aA).f1.f2) aC).f0), .int .i64 ((qAL ((qAt l0_2 aA).f1.f2) aC).f1), .int .i64 ((qAL ((qAt l0_2 aA).f1.f2) aC).f2.f0), .int .u64 0]) ?_ 3 _ rfl; refine qA5 (cs := #[.int .i64 ((qAL ((qAt l0_2 aA).f1.f2) aC).f0), .int .i64 ((qAL ((qAt l0_2 aA).f1.f2) aC).f1), .int .i64 0, .int .u64 0]) ?_ 2 _ rfl; refine qA5 (cs := #[.int .i64 ((qAL ((qAt l0_2 aA).f1.f2) aC).f0), .int .i64 0, .int .i64 0, .int .u64 0]) ?_ 1 _ rfl; refine qA5 (cs := #[.int .i64 0, .int .i64 0, .int .i64 0, .int .u64 0]) ?_ 0 _ rfl; exact aT.o⟩, ⟨by repeat (with_reducible first | exact HB.o | refine qA1 ?_ bT.o)⟩⟩
     case rest =>
      clear bV
      obtain ⟨kq, ab, rfl, HA, an, aI, aD, aE, aT, HB⟩ := hcut
      cases kq with
      | zero => exact absurd HA.o (by simp [qA4.j2])
      | succ ah =>
       have H := HA.o
       clear HA
       simp only [qA4.j2] at H
       by_cases cF : ab = true
       ·subst cF
        replace H : (if aN.length < 2513169434916 then (qA4.l1 ah (aN ++ [(⟨aA, aC, 1, (⟨#[]⟩ : ByteArray), (⟨#[]⟩ : ByteArray)⟩ : S104)]) aA l0_2 (l0_2.length : Int) aA ((qAt l0_2 aA).f1.f2) (((qAt l0_2 aA).f1.f2).length : Int) (wrap64 (aC + 1))) else (none)) = some r := by rw [if_pos rfl] at H; exact H
        obtain ⟨cG, H⟩ := gd H
        have bo := am cG
        clear cG
        obtain ⟨cB, au⟩ : ∃ y_ : List (S104), y_ = (aN ++ [(⟨aA, aC, 1, (⟨#[]⟩ : ByteArray), (⟨#[]⟩ : ByteArray)⟩ : S104)]) := ⟨_, rfl⟩
        replace H : (qA4.l1 ah cB aA l0_2 (l0_2.length : Int) aA ((qAt l0_2 aA).f1.f2) (((qAt l0_2 aA).f1.f2).length : Int) (wrap64 (aC + 1))) = some r := by (rw [au]; with_reducible exact H)
        have bq := am au
        clear au
        have H' := am H
        clear H
        go_wp2_with ((with_reducible refine qAP (b := .append) (xs := #[.tmp 30, .tmp 34]) rfl ?_); at_builtin; refine Kd.R_append k104 (w0 := w) w.heap.size rfl (.tmp 30) (.tmp 34) 31 104 (.agg #[(.int .i64 0), (.int .i64 0), (.int .i64 0), (.string ⟨#[]⟩), (.string ⟨#[]⟩)]) 56 rfl Tryz.underlying31 info104 rfl (by decide) (by omega) u3 aN (⟨aA, aC, 1, (⟨#[]⟩ : ByteArray), (⟨#[]⟩ : ByteArray)⟩ : S104) [.int .i64 aA, .int .i64 aC, .int .i64 1, .string ⟨#[]⟩, .string ⟨#[]⟩] (fun _ => True) (fun _ => False) rfl rfl ?aP (fun _ hk => hk.elim) ?aF ?aO ?aB ?aS ?aL ?_; (case aP => exact qEZ _ _ _ (⟨aA, aC, 1, (⟨#[]⟩ : ByteArray), (⟨#[]⟩ : ByteArray)⟩ : S104)); (case aB => exact HB.o); (case aF => exact (fun _ _ => trivial)); (case aO => exact aI.o); (case aS => exact (qAf HB.o)); (case aL => have := bo.o; omega); intro cQ cX ho hb hg cM; rw [← bq.o] at ho; have n_ := a2 (qAI (g := aa) (o := .cells #[.string a0_0, .slice ac l0_1.length ae, .slice (some ak) l0_2.length af, .slice ad l0_3.length ag] 33 (0, 0)) aD.o hg (Kd.R_ne aI.o aD.o (by decide))) (a2 (qAI (g := aK) (o := .cells #[.string ((qAt l0_2 aA).f0), .slice aQ ((qAt l0_2 aA).f1.f0.f0).length aR, .int .i64 ((qAt l0_2 aA).f1.f0.f1), .slice aU ((qAt l0_2 aA).f1.f1).length aV, .slice (some aq) ((qAt l0_2 aA).f1.f2).length a9] 92 (0, 0)) aE.o hg (Kd.R_ne aI.o aE.o (by decide))) (a2 (hb) (am (ho)))); clear aD aE aT HB aI; obtain ⟨aD, aE, HB, bj⟩ := n_; clear ho hb hg cM)
        go_roundg ah
        case measure => have := aw.o; have := ax.o; have := an.o; omega
        case rel => exact ⟨(cB), (wrap64 (aC + 1)), (by rfl), H', ⟨by have := aw.o; have := ax.o; have := an.o; omega⟩, ⟨by exact bj.o⟩, ⟨by exact aD.o⟩, ⟨by exact aE.o⟩, ⟨by exact HB.o⟩⟩
       replace cF := Bool.eq_false_iff.mpr cF
       subst cF
       replace H : (if ((qAL ((qAt l0_2 aA).f1.f2) aC).f0) = 10 then (if aN.length < 2513169434916 then (qA4.l1 ah (aN ++ [(⟨aA, aC, 2, (⟨#[]⟩ : ByteArray), (⟨#[]⟩ : ByteArray)⟩ : S104)]) aA l0_2 (l0_2.length : Int) aA ((qAt l0_2 aA).f1.f2) (((qAt l0_2 aA).f1.f2).length : Int) (wrap64 (aC + 1))) else (none)) else (qA4.l1 ah aN aA l0_2 (l0_2.length : Int) aA ((qAt l0_2 aA).f1.f2) (((qAt l0_2 aA).f1.f2).length : Int) (wrap64 (aC + 1)))) = some r := by rw [if_neg (show ¬ (false = true) by decide)] at H; exact H
       by_cases bh : ((qAL ((qAt l0_2 aA).f1.f2) aC).f0) = 10
       rotate_left
       ·rw [if_neg bh] at H
        have bz : (((qAL ((qAt l0_2 aA).f1.f2) aC).f0) == 10) = false := bf bh
        have H' := am H
        clear H
        go_wp2
        go_roundg ah
        case measure => have := aw.o; have := ax.o; have := an.o; omega
        case rel => exact ⟨(aN), (wrap64 (aC + 1)), (by rfl), H', ⟨by have := aw.o; have := ax.o; have := an.o; omega⟩, ⟨by exact aI.o⟩, ⟨by exact aD.o⟩, ⟨by exact aE.o⟩, ⟨by exact HB.o⟩⟩
       rw [if_pos bh] at H
       have bz : (((qAL ((qAt l0_2 aA).f1.f2) aC).f0) == 10) = true := beq_iff_eq.mpr bh
       have cO : (((qAL ((qAt l0_2 aA).f1.f2) aC).f0) != 10) = false := bn bh
       clear bh
       obtain ⟨cH, H⟩ := gd H
       have bp := am cH
       clear cH
       obtain ⟨cC, av⟩ : ∃ y_ : List (S104), y_ = (aN ++ [(⟨aA, aC, 2, (⟨#[]⟩ : ByteArray), (⟨#[]⟩ : ByteArray)⟩ : S104)]) := ⟨_, rfl⟩
       replace H : (qA4.l1 ah cC aA l0_2 (l0_2.length : Int) aA ((qAt l0_2 aA).f1.f2) (((qAt l0_2 aA).f1.f2).length : Int) (wrap64 (aC + 1))) = some r := by (rw [av]; with_reducible exact H)
       have br := am av
       clear av
       have H' := am H
       clear H
       go_wp2_with ((with_reducible refine qAP (b := .append) (xs := #[.tmp 38, .tmp 42]) rfl ?_); at_builtin; refine Kd.R_append k104 (w0 := w) w.heap.size rfl (.tmp 38) (.tmp 42) 31 104 (.agg #[(.int .i64 0), (.int .i64 0), (.int .i64 0), (.string ⟨#[]⟩), (.string ⟨#[]⟩)]) 56 rfl Tryz.underlying31 info104 rfl (by decide) (by omega) u3 aN (⟨aA, aC, 2, (⟨#[]⟩ : ByteArray), (⟨#[]⟩ : ByteArray)⟩ : S104) [.int .i64 aA, .int .i64 aC, .int .i64 2, .string ⟨#[]⟩, .string ⟨#[]⟩] (fun _ => True) (fun _ => False) rfl rfl ?aP (fun _ hk => hk.elim) ?aF ?aO ?aB ?aS ?aL ?_; (case aP => exact qEZ _ _ _ (⟨aA, aC, 2, (⟨#[]⟩ : ByteArray), (⟨#[]⟩ : ByteArray)⟩ : S104)); (case aB => exact HB.o); (case aF => exact (fun _ _ => trivial)); (case aO => exact aI.o); (case aS => exact (qAf HB.o)); (case aL => have := bp.o; omega); intro cR cY ho hb hg cM; rw [← br.o] at ho; have n_ := a2 (qAI (g := aa) (o := .cells #[.string a0_0, .slice ac l0_1.length ae, .slice (some ak) l0_2.length af, .slice ad l0_3.length ag] 33 (0, 0)) aD.o hg (Kd.R_ne aI.o aD.o (by decide))) (a2 (qAI (g := aK) (o := .cells #[.string ((qAt l0_2 aA).f0), .slice aQ ((qAt l0_2 aA).f1.f0.f0).length aR, .int .i64 ((qAt l0_2 aA).f1.f0.f1), .slice aU ((qAt l0_2 aA).f1.f1).length aV, .slice (some aq) ((qAt l0_2 aA).f1.f2).length a9] 92 (0, 0)) aE.o hg (Kd.R_ne aI.o aE.o (by decide))) (a2 (hb) (am (ho)))); clear aD aE aT HB aI; obtain ⟨aD, aE, HB, bk⟩ := n_; clear ho hb hg cM)
       go_roundg ah
       case measure => have := aw.o; have := ax.o; have := an.o; omega
       case rel => exact ⟨(cC), (wrap64 (aC + 1)), (by rfl), H', ⟨by have := aw.o; have := ax.o; have := an.o; omega⟩, ⟨by exact bk.o⟩, ⟨by exact aD.o⟩, ⟨by exact aE.o⟩, ⟨by exact HB.o⟩⟩
end Q
end
end Go.Proofs.YtfjpnjbinbhcfaaGreat
