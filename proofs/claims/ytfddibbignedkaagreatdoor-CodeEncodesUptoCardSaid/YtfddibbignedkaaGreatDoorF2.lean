/- The texts of floats and of an instruction, the program's and the document's. -/
import Derived.Test.YtfddibbignedkaaGreatDoorF1
import Derived.Lib.ItoaLen
set_option maxHeartbeats 8000000
set_option maxRecDepth 100000
set_option linter.unusedVariables false
set_option linter.unusedSimpArgs false
namespace Go.Proofs.YtfddibbignedkaaGreatDoor
section
namespace Q
open Go.RowKit YA YC YB
open Val Ins Tbl
namespace Flt
def nmB (op : Int) : ByteArray := ([⟨#[]⟩, ⟨#[112, 117, 115, 104]⟩, ⟨#[103, 101, 116]⟩, ⟨#[112, 117, 116]⟩, ⟨#[108, 111, 97, 100]⟩, ⟨#[115, 116, 111, 114, 101]⟩, ⟨#[117, 110]⟩, ⟨#[98, 105, 110]⟩, ⟨#[106, 117, 109, 112]⟩, ⟨#[117, 110, 108, 101, 115, 115]⟩, ⟨#[99, 97, 108, 108]⟩, ⟨#[114, 101, 116, 117, 114, 110]⟩, ⟨#[115, 104, 111, 119]⟩, ⟨#[102, 97, 105, 108]⟩, ⟨#[105, 110, 112, 117, 116]⟩, ⟨#[116, 114, 121]⟩, ⟨#[117, 110, 116, 114, 121]⟩, ⟨#[100, 114, 111, 112]⟩] : List ByteArray).getD op.toNat ⟨#[]⟩
def wdI (op : Int) : Int := ([0, 9, 1, 1, 2, 2, 1, 1, 2, 2, 2, 0, 0, 0, 0, 2, 0, 0] : List Int).getD op.toNat 0
def unB (n : Int) : ByteArray := ([⟨#[110, 101, 103]⟩, ⟨#[110, 111, 116]⟩, ⟨#[105, 110, 116]⟩, ⟨#[102, 108, 111, 97, 116]⟩] : List ByteArray).getD (n - 1).toNat ⟨#[]⟩
def biB (n : Int) : ByteArray := ([⟨#[43]⟩, ⟨#[45]⟩, ⟨#[42]⟩, ⟨#[47]⟩, ⟨#[37]⟩, ⟨#[61, 61]⟩, ⟨#[33, 61]⟩, ⟨#[60]⟩, ⟨#[60, 61]⟩, ⟨#[62]⟩, ⟨#[62, 61]⟩] : List ByteArray).getD (n - 1).toNat ⟨#[]⟩
def qBR (op n t b : Int) : ByteArray :=
 if okI op n t b = true then (if op = 1 then nmB 1 ++ ⟨#[32]⟩ ++ qCp t b else if op = 6 then nmB 6 ++ ⟨#[32]⟩ ++ unB n else if op = 7 then nmB 7 ++ ⟨#[32]⟩ ++ biB n else if 0 < wdI op then nmB op ++ ⟨#[32]⟩ ++ itoB n else nmB op) else ⟨#[]⟩
theorem al4 {W : World} {a : Addr} {v : Value} (O : Obj) (h : W.cell? a = some v) : (W.alloc O).cell? a = some v := (((Below.refl W.heap.size W).alloc (Nat.le_refl _) O).cell (World.block_lt_of_cell? W a h)).trans h
theorem farQ4 {W : World} {p : Addr} {v : Value} (hc : W.cell? p = some v) (c : Addr) (u : Value) (hne : p.block ≠ c.block) : (W.setCell c u).cell? p = some v :=
 (World.cell?_setCell_other _ _ _ _ (fun e => hne (congrArg Addr.block e.symm))).trans hc
theorem far4 {W : World} {b o g : Nat} {v u0 u1 : Value} (h : W.cell? ⟨b, o, none⟩ = some v) (hne : b ≠ g) : ((W.setCell ⟨g, 0, none⟩ u0).setCell ⟨g, 1, none⟩ u1).cell? ⟨b, o, none⟩ = some v := farQ4 (farQ4 h _ _ hne) _ _ hne
theorem op_cases {op : Int} (h1 : 1 ≤ op) (h2 : op ≤ 17) : op = 1 ∨ op = 2 ∨ op = 3 ∨ op = 4 ∨ op = 5 ∨ op = 6 ∨ op = 7 ∨ op = 8 ∨ op = 9 ∨ op = 10 ∨ op = 11 ∨ op = 12 ∨ op = 13 ∨ op = 14 ∨ op = 15 ∨ op = 16 ∨ op = 17 := by omega
theorem row_at (op : Int) (h1 : 1 ≤ op) (h2 : op ≤ 17) : ∀ w, (Instr.index 99 (.agg qCS) (.int .i64 op)).run Tryz.prog w = .ok (.agg #[.string (nmB op), .int .i64 (wdI op)]) w := by
 rcases op_cases h1 h2 with rfl | rfl | rfl | rfl | rfl | rfl | rfl | rfl | rfl | rfl | rfl | rfl | rfl | rfl | rfl | rfl | rfl <;> exact fun _ => by kernel_rfl
theorem qDk {op n t b : Int} (h : okI op n t b = true) : 1 ≤ op ∧ op ≤ 17 ∧ (op = 6 → 1 ≤ n ∧ n ≤ 4) ∧ (op = 7 → 1 ≤ n ∧ n ≤ 11) ∧ 0 ≤ n ∧ n ≤ 65535 := by
 unfold okI at h
 by_cases c0 : op < 1 ∨ 17 < op
 ·rw [if_pos c0] at h; cases h
 rw [if_neg c0] at h
 by_cases c1 : op = 1
 ·rw [if_pos c1] at h
  rw [Bool.and_eq_true] at h
  have := eq_of_beq h.1
  exact ⟨by omega, by omega, by omega, by omega, by omega, by omega⟩
 rw [if_neg c1] at h
 by_cases c2 : ¬(t = 0 ∧ b = 0 ∧ 0 ≤ n ∧ n ≤ most op)
 ·rw [if_pos c2] at h; cases h
 rw [if_neg c2] at h
 have c2 := Decidable.not_not.1 c2
 have hm : most op ≤ 65535 := by
  unfold most; split
  ·omega
  split <;> omega
 refine ⟨by omega, by omega, fun e => ?_, fun e => ?_, by omega, by omega⟩
 ·rw [if_pos e] at h; exact of_decide_eq_true h
 rw [if_neg (by omega), if_pos e] at h; exact of_decide_eq_true h
theorem qCD (op : Int) : (nmB op).size ≤ 10 := by
 unfold nmB
 obtain ⟨k, hk⟩ : ∃ k, k = op.toNat := ⟨_, rfl⟩
 rw [← hk]
 by_cases h : k < 18
 rotate_left
 ·rw [List.getD_eq_getElem?_getD, List.getElem?_eq_none (by simp; omega)]; decide
 have : ∀ k : Nat, k < 18 → (([⟨#[]⟩, ⟨#[112, 117, 115, 104]⟩, ⟨#[103, 101, 116]⟩, ⟨#[112, 117, 116]⟩, ⟨#[108, 111, 97, 100]⟩, ⟨#[115, 116, 111, 114, 101]⟩, ⟨#[117, 110]⟩, ⟨#[98, 105, 110]⟩, ⟨#[106, 117, 109, 112]⟩, ⟨#[117, 110, 108, 101, 115, 115]⟩, ⟨#[99, 97, 108, 108]⟩, ⟨#[114, 101, 116, 117, 114, 110]⟩, ⟨#[115, 104, 111, 119]⟩, ⟨#[102, 97, 105, 108]⟩, ⟨#[105, 110, 112, 117, 116]⟩, ⟨#[116, 114, 121]⟩, ⟨#[117, 110, 116, 114, 121]⟩, ⟨#[100, 114, 111, 112]⟩] : List ByteArray).getD k ⟨#[]⟩).size ≤ 10 := by decide
 exact this k h
theorem qB6 (n : Int) (h0 : -9223372036854775808 ≤ n) (h1 : n ≤ 9223372036854775807) : (itoB n).size ≤ 21 := by
 have := Lib.itoa_length_le n h0 h1
 simpa [itoB, ByteArray.size] using this
theorem unB_at (m : Nat) (h : m < 4) : (#[.string ⟨#[110, 101, 103]⟩, .string ⟨#[110, 111, 116]⟩, .string ⟨#[105, 110, 116]⟩, .string ⟨#[102, 108, 111, 97, 116]⟩] : Array Value)[m]? = some (.string (unB ((m : Int) + 1))) ∧ (unB ((m : Int) + 1)).size ≤ 10 := by
 have : m = 0 ∨ m = 1 ∨ m = 2 ∨ m = 3 := by omega
 rcases this with rfl | rfl | rfl | rfl <;> exact ⟨rfl, by decide⟩
theorem biB_at (m : Nat) (h : m < 11) : (#[.string ⟨#[43]⟩, .string ⟨#[45]⟩, .string ⟨#[42]⟩, .string ⟨#[47]⟩, .string ⟨#[37]⟩, .string ⟨#[61, 61]⟩, .string ⟨#[33, 61]⟩, .string ⟨#[60]⟩, .string ⟨#[60, 61]⟩, .string ⟨#[62]⟩, .string ⟨#[62, 61]⟩] : Array Value)[m]? = some (.string (biB ((m : Int) + 1))) ∧ (biB ((m : Int) + 1)).size ≤ 10 := by
 have : m = 0 ∨ m = 1 ∨ m = 2 ∨ m = 3 ∨ m = 4 ∨ m = 5 ∨ m = 6 ∨ m = 7 ∨ m = 8 ∨ m = 9 ∨ m = 10 := by omega
 rcases this with rfl | rfl | rfl | rfl | rfl | rfl | rfl | rfl | rfl | rfl | rfl <;> exact ⟨rfl, by decide⟩
theorem strip_len : ∀ l : List Int, (qBt l).length ≤ l.length
 | [] => by simp [qBt]
 | [x] => by unfold qBt; split <;> simp_all
 | x :: d :: r => by
  unfold qBt
  split
  ·rename_i e
   injection e with e1 e2
   injection e2 with e2 e3
   subst e2; subst e3
   exact Nat.le_trans (strip_len _) (by simp)
  exact Nat.le_refl _
theorem exL_len (e : Int) : (exL e).length ≤ 4 := by unfold exL; split <;> (try split) <;> simp
theorem qCG (t b : Int) : (qCp t b).size ≤ 100 := by
 unfold qCp
 split
 ·have := qB6 (wrap64 b) (by unfold wrap64; omega) (by unfold wrap64; omega)
  omega
 split
 ·rw [qAX]
  unfold qBD
  split
  ·decide
  split
  ·split <;> decide
  unfold qDu
  have h1 := qDf (negF b) (nF b).1
  have h2 := strip_len (exL (abL (nF b).2))
  have h3 := exL_len (abL (nF b).2)
  simp only [List.length_append, List.length_cons, List.length_nil]
  omega
 split
 ·split <;> decide
 decide
theorem ascii_of {s : ByteArray} (h : (s.data.toList.all fun b => decide (b.toNat < 128)) = true) : ∀ (j : Nat) (b : UInt8), s.data.toList[j]? = some b → b.toNat < 128 := fun j b hb => of_decide_eq_true (List.all_eq_true.1 h b (List.mem_of_getElem? hb))
theorem un_fields (w : World) (hT : Tb w) : Calls Tryz.prog 48 #[.string ⟨#[110, 101, 103, 32, 110, 111, 116, 32, 105, 110, 116, 32, 102, 108, 111, 97, 116]⟩] w fun e w' => e = .returned (.slice (some ⟨w.heap.size, 0, none⟩) 4 4) ∧ w' = w.alloc (.cells #[.string ⟨#[110, 101, 103]⟩, .string ⟨#[110, 111, 116]⟩, .string ⟨#[105, 110, 116]⟩, .string ⟨#[102, 108, 111, 97, 116]⟩] 9) :=
 Tryz.strings_Fields ⟨#[110, 101, 103, 32, 110, 111, 116, 32, 105, 110, 116, 32, 102, 108, 111, 97, 116]⟩ w (by decide) (ascii_of (by decide)) hT.sp
theorem bi_fields (w : World) (hT : Tb w) : Calls Tryz.prog 48 #[.string ⟨#[43, 32, 45, 32, 42, 32, 47, 32, 37, 32, 61, 61, 32, 33, 61, 32, 60, 32, 60, 61, 32, 62, 32, 62, 61]⟩] w fun e w' => e = .returned (.slice (some ⟨w.heap.size, 0, none⟩) 11 11) ∧ w' = w.alloc (.cells #[.string ⟨#[43]⟩, .string ⟨#[45]⟩, .string ⟨#[42]⟩, .string ⟨#[47]⟩, .string ⟨#[37]⟩, .string ⟨#[61, 61]⟩, .string ⟨#[33, 61]⟩, .string ⟨#[60]⟩, .string ⟨#[60, 61]⟩, .string ⟨#[62]⟩, .string ⟨#[62, 61]⟩] 9) :=
 Tryz.strings_Fields ⟨#[43, 32, 45, 32, 42, 32, 47, 32, 37, 32, 61, 61, 32, 33, 61, 32, 60, 32, 60, 61, 32, 62, 32, 62, 61]⟩ w (by decide) (ascii_of (by decide)) hT.sp
theorem text_ok (op n t b : Int) (hok : okI op n t b = true) (hu : U64 b) (w : World) (hT : Tb w) : Calls Tryz.prog 20 #[.agg #[.int .i64 op, .int .i64 n, .int .i64 t, .int .u64 b]] w fun e w' => e = .returned (.string (qBR op n t b)) ∧ Below w.heap.size w w' := by
 obtain ⟨h1, h2, h6, h7, hn0, hn1⟩ := qDk hok
 have hR := fun w => qBY op n t b hu w
 unfold insV at hR
 rw [hok] at hR
 have HR := am hR
 have HX := am (row_at op h1 h2)
 have HTX : qAi (qBR op n t b = _) := ⟨by unfold qBR; rw [if_pos hok]⟩
 have HSH := am (fun W (hT : Tb W) => show_any t b hu W hT)
 have HIT := am (fun W (hT : Tb W) => Tryz.strconv_Itoa n (by omega) (by omega) W hT.ten)
 have HT := am (fun W (hb : Below w.heap.size w W) => hT.below hb)
 have HNB := am (show -9223372036854775808 ≤ n ∧ n ≤ 9223372036854775807 from ⟨by omega, by omega⟩)
 have HN := am (And.intro h1 (And.intro h2 (And.intro h6 h7)))
 clear hR hok hu hT h1 h2 h6 h7 hn0 hn1
 go_enter Tryz.func20, Tryz.ntmps20
 go_wp2_with (go_at_call 18; refine (HR.out _).mono ?_; rintro e w1 ⟨rfl, hb1⟩)
 have hB1 : Below w.heap.size w w1 := ((Below.refl _ _).alloc (Nat.le_refl _) _).trans (hb1.mono (by simp))
 have hs : w.heap.size < w1.heap.size := Nat.lt_of_lt_of_le (by simp) hb1.size
 have c0 : w1.cell? ⟨w.heap.size, 0, none⟩ = some (.int .i64 op) := (hb1.cell (p := ⟨w.heap.size, 0, none⟩) (by simp)).trans (by rw [World.cell?_alloc_at _ _ _ _ rfl]; rfl)
 have c1 : w1.cell? ⟨w.heap.size, 1, none⟩ = some (.int .i64 n) := (hb1.cell (p := ⟨w.heap.size, 1, none⟩) (by simp)).trans (by rw [World.cell?_alloc_at _ _ _ _ rfl]; rfl)
 have c2 : w1.cell? ⟨w.heap.size, 2, none⟩ = some (.int .i64 t) := (hb1.cell (p := ⟨w.heap.size, 2, none⟩) (by simp)).trans (by rw [World.cell?_alloc_at _ _ _ _ rfl]; rfl)
 have c3 : w1.cell? ⟨w.heap.size, 3, none⟩ = some (.int .u64 b) := (hb1.cell (p := ⟨w.heap.size, 3, none⟩) (by simp)).trans (by rw [World.cell?_alloc_at _ _ _ _ rfl]; rfl)
 clear hb1 HR
 obtain ⟨N, hN⟩ : ∃ N, N = w.heap.size := ⟨_, rfl⟩
 rw [← hN] at c0 c1 c2 c3 hs
 have HNN := am hN
 rw [← hN]
 clear hN
 go_cut [3] (fun v3 wc => ∃ G2, v3 = .pointer (some ⟨G2, 0, none⟩) ∧ qAi (wc.cell? ⟨G2, 0, none⟩ = some (.string (nmB op)) ∧ wc.cell? ⟨G2, 1, none⟩ = some (.int .i64 (wdI op)) ∧ wc.cell? ⟨N, 0, none⟩ = some (.int .i64 op) ∧ wc.cell? ⟨N, 1, none⟩ = some (.int .i64 n) ∧ wc.cell? ⟨N, 2, none⟩ = some (.int .i64 t) ∧ wc.cell? ⟨N, 3, none⟩ = some (.int .u64 b)) ∧ qAi (Below w.heap.size w wc))
 case first =>
  have hix := HX.out
  refine wp_region_noPanic ?_
  refine wp_region_held_drew (S := fun W' => W'.cell? ⟨N, 0, none⟩ = some (.int .i64 op) ∧ W'.cell? ⟨N, 1, none⟩ = some (.int .i64 n) ∧ W'.cell? ⟨N, 2, none⟩ = some (.int .i64 t) ∧ W'.cell? ⟨N, 3, none⟩ = some (.int .u64 b)) (by kernel_rfl) ⟨c0, c1, c2, c3⟩ (fun hHeld => ?_)
  refine wpAnyH_take (i := 1) (oi := _) (v := ?_) rfl (by kernel_rfl) (by kernel_rfl) (by kernel_rfl) (fun _ _ _ h => h) (Or.inl ⟨by rfl, ?_⟩) (by assumption) ?_
  rotate_left
  ·intro w hSw; (try dsimp only at hSw); go_simp <;> with_reducible rfl
  simp only [Act.put, List.getElem_toArray, List.getElem_cons_zero, List.getElem_cons_succ, List.setIfInBounds_toArray, List.set_cons_zero, List.set_cons_succ]
  refine wpAnyH_take (i := 2) (oi := _) (v := ?_) rfl (by kernel_rfl) (by kernel_rfl) (by kernel_rfl) (fun _ _ _ h => h) (Or.inl ⟨by rfl, ?_⟩) (by assumption) ?_
  rotate_left
  ·intro w hSw; (try dsimp only at hSw); go_simp <;> with_reducible rfl
  simp only [Act.put, List.getElem_toArray, List.getElem_cons_zero, List.getElem_cons_succ, List.setIfInBounds_toArray, List.set_cons_zero, List.set_cons_succ]
  refine wpAnyH_ready (rs := [0, 4]) (by kernel_rfl) (by simp) ?_
  refine AllReadyH.cons (o := _) rfl (fun K hK => ?_) (AllReadyH.cons (o := _) rfl (fun K hK => ?_) AllReadyH.nil)
  ·go_simp
   go_at_call 45
   refine (qBy w1.drew).mono ?_
   rintro e w2 ⟨rfl, hbj⟩
   have d0 : w2.cell? ⟨N, 0, none⟩ = some (.int .i64 op) := (hbj.cell (p := ⟨N, 0, none⟩) hs).trans c0
   have d1 : w2.cell? ⟨N, 1, none⟩ = some (.int .i64 n) := (hbj.cell (p := ⟨N, 1, none⟩) hs).trans c1
   have d2 : w2.cell? ⟨N, 2, none⟩ = some (.int .i64 t) := (hbj.cell (p := ⟨N, 2, none⟩) hs).trans c2
   have d3 : w2.cell? ⟨N, 3, none⟩ = some (.int .u64 b) := (hbj.cell (p := ⟨N, 3, none⟩) hs).trans c3
   have HB2 := am (hB1.drew.trans (hbj.mono hB1.size))
   clear hbj
   refine hK.out _ _ ⟨d0, d1, d2, d3⟩ (fun hHeld => ?_)
   clear hK K
   try simp only [Act.put, List.getElem_toArray, List.getElem_cons_zero, List.getElem_cons_succ, List.setIfInBounds_toArray, List.set_cons_zero, List.set_cons_succ]
   refine wpAnyH_take (i := 3) (oi := _) (v := ?_) rfl (by kernel_rfl) (by kernel_rfl) (by kernel_rfl) (fun _ _ _ h => h) (Or.inl ⟨by rfl, ?_⟩) (by assumption) ?_
   rotate_left
   ·intro w hSw; (try dsimp only at hSw); go_simp <;> with_reducible rfl
   simp only [Act.put, List.getElem_toArray, List.getElem_cons_zero, List.getElem_cons_succ, List.setIfInBounds_toArray, List.set_cons_zero, List.set_cons_succ]
   refine wpAnyH_ready (rs := [4]) (by kernel_rfl) (by simp) ?_
   refine AllReadyH.cons (o := _) rfl (fun K hK => ?_) ?_
   ·go_simp
    refine hK.out _ _ ⟨al4 _ d0, al4 _ d1, al4 _ d2, al4 _ d3⟩ (fun hHeld => ?_)
    clear hK K
    try simp only [Act.put, List.getElem_toArray, List.getElem_cons_zero, List.getElem_cons_succ, List.setIfInBounds_toArray, List.set_cons_zero, List.set_cons_succ]
    refine wpAnyH_ready (rs := [5]) (by kernel_rfl) (by simp) ?_
    refine AllReadyH.cons (o := _) rfl (fun K hK => ?_) ?_
    ·go_simp
     refine hK.out _ _ ⟨al4 _ d0, al4 _ d1, al4 _ d2, al4 _ d3⟩ (fun hHeld => ?_)
     clear hK K
     try simp only [Act.put, List.getElem_toArray, List.getElem_cons_zero, List.getElem_cons_succ, List.setIfInBounds_toArray, List.set_cons_zero, List.set_cons_succ]
     refine wpAnyH_done (by kernel_rfl) ?_ _
     refine NoPanic.normal ?_
     have HC2 := am (show (w2.alloc (.cells #[.string (nmB op), .int .i64 (wdI op)] 98)).cell? ⟨w2.heap.size, 0, none⟩ = some (.string (nmB op)) ∧ (w2.alloc (.cells #[.string (nmB op), .int .i64 (wdI op)] 98)).cell? ⟨w2.heap.size, 1, none⟩ = some (.int .i64 (wdI op)) ∧ (w2.alloc (.cells #[.string (nmB op), .int .i64 (wdI op)] 98)).cell? ⟨N, 0, none⟩ = some (.int .i64 op) ∧ (w2.alloc (.cells #[.string (nmB op), .int .i64 (wdI op)] 98)).cell? ⟨N, 1, none⟩ = some (.int .i64 n) ∧ (w2.alloc (.cells #[.string (nmB op), .int .i64 (wdI op)] 98)).cell? ⟨N, 2, none⟩ = some (.int .i64 t) ∧ (w2.alloc (.cells #[.string (nmB op), .int .i64 (wdI op)] 98)).cell? ⟨N, 3, none⟩ = some (.int .u64 b) from ⟨by rw [World.cell?_alloc_at _ _ _ _ rfl]; rfl, by rw [World.cell?_alloc_at _ _ _ _ rfl]; rfl, al4 _ d0, al4 _ d1, al4 _ d2, al4 _ d3⟩)
     have HBW := am (HB2.out.alloc HB2.out.size (.cells #[.string (nmB op), .int .i64 (wdI op)] 98))
     clear hHeld
     go_wp2
     go_meet
     case rel => exact ⟨_, rfl, HC2, HBW⟩
    exact AllReadyH.nil
   exact AllReadyH.nil
  go_simp
  refine hK.out _ _ ⟨al4 _ c0, al4 _ c1, al4 _ c2, al4 _ c3⟩ (fun hHeld => ?_)
  clear hK K
  try simp only [Act.put, List.getElem_toArray, List.getElem_cons_zero, List.getElem_cons_succ, List.setIfInBounds_toArray, List.set_cons_zero, List.set_cons_succ]
  refine wpAnyH_ready (rs := [0]) (by kernel_rfl) (by simp) ?_
  refine AllReadyH.cons (o := _) rfl (fun K hK => ?_) ?_
  ·go_simp
   go_at_call 45
   refine (qBy ((w1.alloc (.cells #[.string ⟨#[]⟩, .int .i64 0] 98)).drew)).mono ?_
   rintro e w2 ⟨rfl, hbj⟩
   have hsa : N < ((w1.alloc (.cells #[.string ⟨#[]⟩, .int .i64 0] 98)).drew).heap.size := by simp; omega
   have d0 : w2.cell? ⟨N, 0, none⟩ = some (.int .i64 op) := (hbj.cell (p := ⟨N, 0, none⟩) hsa).trans (al4 _ c0)
   have d1 : w2.cell? ⟨N, 1, none⟩ = some (.int .i64 n) := (hbj.cell (p := ⟨N, 1, none⟩) hsa).trans (al4 _ c1)
   have d2 : w2.cell? ⟨N, 2, none⟩ = some (.int .i64 t) := (hbj.cell (p := ⟨N, 2, none⟩) hsa).trans (al4 _ c2)
   have d3 : w2.cell? ⟨N, 3, none⟩ = some (.int .u64 b) := (hbj.cell (p := ⟨N, 3, none⟩) hsa).trans (al4 _ c3)
   have bZ : w2.heap[w1.heap.size]? = some (.cells #[.string ⟨#[]⟩, .int .i64 0] 98 (0, 0)) := qAs (show ((w1.alloc (.cells #[.string ⟨#[]⟩, .int .i64 0] 98)).drew).heap[w1.heap.size]? = some (.cells #[.string ⟨#[]⟩, .int .i64 0] 98 (0, 0)) from qAF w1 _) hbj
   have z0 := (qAc bZ 0).trans rfl
   have z1 := (qAc bZ 1).trans rfl
   have zf0 := qAm bZ 0
   have zf1 := qAm bZ 1
   have HB2 := am (((hB1.alloc hB1.size (.cells #[.string ⟨#[]⟩, .int .i64 0] 98)).drew).trans (hbj.mono (by have := hB1.size; simp; omega)))
   clear hbj
   refine hK.out _ _ ⟨d0, d1, d2, d3⟩ (fun hHeld => ?_)
   clear hK K
   try simp only [Act.put, List.getElem_toArray, List.getElem_cons_zero, List.getElem_cons_succ, List.setIfInBounds_toArray, List.set_cons_zero, List.set_cons_succ]
   refine wpAnyH_take (i := 3) (oi := _) (v := ?_) rfl (by kernel_rfl) (by kernel_rfl) (by kernel_rfl) (fun _ _ _ h => h) (Or.inl ⟨by rfl, ?_⟩) (by assumption) ?_
   rotate_left
   ·intro w hSw; (try dsimp only at hSw); go_simp <;> with_reducible rfl
   simp only [Act.put, List.getElem_toArray, List.getElem_cons_zero, List.getElem_cons_succ, List.setIfInBounds_toArray, List.set_cons_zero, List.set_cons_succ]
   refine wpAnyH_ready (rs := [5]) (by kernel_rfl) (by simp) ?_
   refine AllReadyH.cons (o := _) rfl (fun K hK => ?_) ?_
   ·go_simp
    refine hK.out _ _ ⟨far4 d0 (Nat.ne_of_lt hs), far4 d1 (Nat.ne_of_lt hs), far4 d2 (Nat.ne_of_lt hs), far4 d3 (Nat.ne_of_lt hs)⟩ (fun hHeld => ?_)
    clear hK K
    try simp only [Act.put, List.getElem_toArray, List.getElem_cons_zero, List.getElem_cons_succ, List.setIfInBounds_toArray, List.set_cons_zero, List.set_cons_succ]
    refine wpAnyH_done (by kernel_rfl) ?_ _
    refine NoPanic.normal ?_
    have HC2 := am (show ((w2.setCell ⟨w1.heap.size, 0, none⟩ (.string (nmB op))).setCell ⟨w1.heap.size, 1, none⟩ (.int .i64 (wdI op))).cell? ⟨w1.heap.size, 0, none⟩ = some (.string (nmB op)) ∧ ((w2.setCell ⟨w1.heap.size, 0, none⟩ (.string (nmB op))).setCell ⟨w1.heap.size, 1, none⟩ (.int .i64 (wdI op))).cell? ⟨w1.heap.size, 1, none⟩ = some (.int .i64 (wdI op)) ∧ ((w2.setCell ⟨w1.heap.size, 0, none⟩ (.string (nmB op))).setCell ⟨w1.heap.size, 1, none⟩ (.int .i64 (wdI op))).cell? ⟨N, 0, none⟩ = some (.int .i64 op) ∧ ((w2.setCell ⟨w1.heap.size, 0, none⟩ (.string (nmB op))).setCell ⟨w1.heap.size, 1, none⟩ (.int .i64 (wdI op))).cell? ⟨N, 1, none⟩ = some (.int .i64 n) ∧ ((w2.setCell ⟨w1.heap.size, 0, none⟩ (.string (nmB op))).setCell ⟨w1.heap.size, 1, none⟩ (.int .i64 (wdI op))).cell? ⟨N, 2, none⟩ = some (.int .i64 t) ∧ ((w2.setCell ⟨w1.heap.size, 0, none⟩ (.string (nmB op))).setCell ⟨w1.heap.size, 1, none⟩ (.int .i64 (wdI op))).cell? ⟨N, 3, none⟩ = some (.int .u64 b) from ⟨(qAc (qAS (qAS bZ 0 (.string (nmB op)) rfl) 1 (.int .i64 (wdI op)) rfl) 0).trans rfl, (qAc (qAS (qAS bZ 0 (.string (nmB op)) rfl) 1 (.int .i64 (wdI op)) rfl) 1).trans rfl, far4 d0 (Nat.ne_of_lt hs), far4 d1 (Nat.ne_of_lt hs), far4 d2 (Nat.ne_of_lt hs), far4 d3 (Nat.ne_of_lt hs)⟩)
    have HBW := am (show Below w.heap.size w ((w2.setCell ⟨w1.heap.size, 0, none⟩ (.string (nmB op))).setCell ⟨w1.heap.size, 1, none⟩ (.int .i64 (wdI op))) from qA8 (qA8 HB2.out hB1.size) hB1.size)
    clear hHeld
    go_wp2
    go_meet
    case rel => exact ⟨_, rfl, HC2, HBW⟩
   exact AllReadyH.nil
  exact AllReadyH.nil
 case rest =>
  clear hB1 hs c0 c1 c2 c3
  obtain ⟨G2, rfl, HC, HBW⟩ := hcut
  obtain ⟨r0, r1, e0, e1, e2, e3⟩ := HC.out
  clear HC HX
  have hsz := qCD op
  obtain ⟨nm, hnm⟩ : ∃ nm, nm = nmB op := ⟨_, rfl⟩
  obtain ⟨wd, hwd⟩ : ∃ wd, wd = wdI op := ⟨_, rfl⟩
  rw [← hnm] at r0 hsz
  rw [← hwd] at r1
  have HTX2 := HTX.out
  rw [← hnm, ← hwd] at HTX2
  have HTb := am (HT.out _ HBW.out.drew)
  clear HTX HT
  by_cases o1 : op = 1
  ·have cb : (op == 1) = true := beq_iff_eq.mpr o1
   rw [if_pos o1, ← o1, ← hnm] at HTX2
   obtain ⟨sb, hsb⟩ : ∃ sb, sb = qCp t b := ⟨_, rfl⟩
   have hss := qCG t b
   rw [← hsb] at HSH HTX2 hss
   have hz1 : nm.size + 1 ≤ 9223372036854775807 := by omega
   have hz2 : (9223372036854775807 < nm.size + 1) = False := eq_false (by omega)
   have hz3 : nm.size + 1 + sb.size ≤ 9223372036854775807 := by omega
   have hz4 : (9223372036854775807 < nm.size + 1 + sb.size) = False := eq_false (by omega)
   have HE := am HTX2
   clear HTX2 hsb hss hsz HIT HN hnm hwd o1
   go_wp2_with fail
   go_region_held3 (fun W => W.cell? ⟨G2, 0, none⟩ = some (.string nm) ∧ W.cell? ⟨N, 2, none⟩ = some (.int .i64 t) ∧ W.cell? ⟨N, 3, none⟩ = some (.int .u64 b))
    (first | go_keep | exact ⟨(hb4.cell (World.block_lt_of_cell? _ _ r0)).trans r0, (hb4.cell (World.block_lt_of_cell? _ _ e2)).trans e2, (hb4.cell (World.block_lt_of_cell? _ _ e3)).trans e3⟩)
    (first | (go_at_call 47; refine (HSH.out _ HTb.out).mono ?_; rintro e w4 ⟨rfl, hb4⟩))
   go_wp2_with fail
   go_ret
   exact ⟨by rw [HE.out]; rfl, HBW.out.drew.trans (hb4.mono HBW.out.size)⟩
  have cb1 : (op == 1) = false := beq_eq_false_iff_ne.mpr o1
  rw [if_neg o1] at HTX2
  by_cases o6 : op = 6
  ·have cb : (op == 6) = true := beq_iff_eq.mpr o6
   rw [if_pos o6, ← o6, ← hnm] at HTX2
   have HU := am (un_fields wc.drew HTb.out)
   obtain ⟨k1, k2⟩ := HN.out.2.2.1 o6
   obtain ⟨m, hm⟩ : ∃ m : Nat, n = (m : Int) + 1 := ⟨(n - 1).toNat, by omega⟩
   have hm4 : m < 4 := by omega
   have hmi : (m : Int) < 4 := by omega
   have hm0 : 0 ≤ (m : Int) := by omega
   have hsub : IntKind.i64.wrap (n - 1) = (m : Int) := by rw [hm]; exact (qAo _).trans ((qB1 (by omega) (by omega)).trans (by omega))
   have hub := unB_at m hm4
   rw [← hm] at hub
   obtain ⟨sb, hsb⟩ : ∃ sb, sb = unB n := ⟨_, rfl⟩
   rw [← hsb] at HTX2 hub
   have hss : sb.size ≤ 10 := hub.2
   have hz1 : nm.size + 1 ≤ 9223372036854775807 := by omega
   have hz2 : (9223372036854775807 < nm.size + 1) = False := eq_false (by omega)
   have hz3 : nm.size + 1 + sb.size ≤ 9223372036854775807 := by omega
   have hz4 : (9223372036854775807 < nm.size + 1 + sb.size) = False := eq_false (by omega)
   have HE := am HTX2
   have HSB := am hub.1
   clear HTX2 hsb hub hss hsz HSH HIT HN hnm hwd o1 o6 k1 k2 hm hm4
   go_wp2_with fail
   refine wp_region_noPanic ?_
   refine wp_region_held_drew (S := fun W => W.cell? ⟨G2, 0, none⟩ = some (.string nm) ∧ W.cell? ⟨N, 1, none⟩ = some (.int .i64 n)) (by kernel_rfl) ⟨r0, e1⟩ (fun hHeld => ?_)
   refine wpAnyH_take (i := 0) (oi := _) (v := ?_) rfl (by kernel_rfl) (by kernel_rfl) (by kernel_rfl) (fun _ _ _ h => h) (Or.inl ⟨by rfl, ?_⟩) (by assumption) ?_
   rotate_left
   ·intro w hSw; (try dsimp only at hSw); go_simp <;> with_reducible rfl
   simp only [Act.put, List.getElem_toArray, List.getElem_cons_zero, List.getElem_cons_succ, List.setIfInBounds_toArray, List.set_cons_zero, List.set_cons_succ]
   refine wpAnyH_take (i := 1) (oi := _) (v := ?_) rfl (by kernel_rfl) (by kernel_rfl) (by kernel_rfl) (fun _ _ _ h => h) (Or.inl ⟨by rfl, ?_⟩) (by assumption) ?_
   rotate_left
   ·intro w hSw; (try dsimp only at hSw); go_simp <;> with_reducible rfl
   simp only [Act.put, List.getElem_toArray, List.getElem_cons_zero, List.getElem_cons_succ, List.setIfInBounds_toArray, List.set_cons_zero, List.set_cons_succ]
   refine wpAnyH_take (i := 2) (oi := _) (v := ?_) rfl (by kernel_rfl) (by kernel_rfl) (by kernel_rfl) (fun _ _ _ h => h) (Or.inl ⟨by rfl, ?_⟩) (by assumption) ?_
   rotate_left
   ·intro w hSw; (try dsimp only at hSw); go_simp <;> with_reducible rfl
   simp only [Act.put, List.getElem_toArray, List.getElem_cons_zero, List.getElem_cons_succ, List.setIfInBounds_toArray, List.set_cons_zero, List.set_cons_succ]
   refine wpAnyH_take (i := 4) (oi := _) (v := ?_) rfl (by kernel_rfl) (by kernel_rfl) (by kernel_rfl) (fun _ _ _ h => h) (Or.inl ⟨by rfl, ?_⟩) (by assumption) ?_
   rotate_left
   ·intro w hSw; (try dsimp only at hSw); go_simp <;> with_reducible rfl
   simp only [Act.put, List.getElem_toArray, List.getElem_cons_zero, List.getElem_cons_succ, List.setIfInBounds_toArray, List.set_cons_zero, List.set_cons_succ]
   refine wpAnyH_take (i := 5) (oi := _) (v := ?_) rfl (by kernel_rfl) (by kernel_rfl) (by kernel_rfl) (fun _ _ _ h => h) (Or.inl ⟨by rfl, ?_⟩) (by assumption) ?_
   rotate_left
   ·intro w hSw; (try dsimp only at hSw); go_simp <;> with_reducible rfl
   simp only [Act.put, List.getElem_toArray, List.getElem_cons_zero, List.getElem_cons_succ, List.setIfInBounds_toArray, List.set_cons_zero, List.set_cons_succ]
   refine wpAnyH_take (i := 6) (oi := _) (v := ?_) rfl (by kernel_rfl) (by kernel_rfl) (by kernel_rfl) (fun _ _ _ h => h) (Or.inl ⟨by rfl, ?_⟩) (by assumption) ?_
   rotate_left
   ·intro w hSw; (try dsimp only at hSw); go_simp <;> with_reducible rfl
   simp only [Act.put, List.getElem_toArray, List.getElem_cons_zero, List.getElem_cons_succ, List.setIfInBounds_toArray, List.set_cons_zero, List.set_cons_succ]
   refine wpAnyH_ready (rs := [3]) (by kernel_rfl) (by simp) ?_
   refine AllReadyH.cons (o := _) rfl (fun K hK => ?_) AllReadyH.nil
   go_simp
   go_at_call 48
   refine HU.out.mono ?_
   rintro e w4 ⟨rfl, hw4_⟩
   have hb4 : Below wc.drew.heap.size wc.drew w4 := by rw [hw4_]; exact (Below.refl _ _).alloc (Nat.le_refl _) _
   have hf4 : w4.cell? ⟨wc.heap.size, m, none⟩ = some (.string sb) := by rw [hw4_]; show (wc.drew.alloc _).cell? ⟨wc.drew.heap.size, m, none⟩ = _; rw [World.cell?_alloc_at _ _ _ _ rfl]; exact HSB.out
   clear hw4_
   have q0 := (hb4.cell (World.block_lt_of_cell? _ _ r0)).trans r0
   have q1 := (hb4.cell (World.block_lt_of_cell? _ _ e1)).trans e1
   refine hK.out _ _ ⟨q0, q1⟩ (fun hHeld => ?_)
   clear hK K
   try simp only [Act.put, List.getElem_toArray, List.getElem_cons_zero, List.getElem_cons_succ, List.setIfInBounds_toArray, List.set_cons_zero, List.set_cons_succ]
   refine wpAnyH_take (i := 7) (oi := _) (v := ?_) rfl (by kernel_rfl) (by kernel_rfl) (by kernel_rfl) (fun _ _ _ h => h) (Or.inl ⟨by rfl, ?_⟩) (by assumption) ?_
   rotate_left
   ·intro w hSw; (try dsimp only at hSw); go_simp <;> with_reducible rfl
   simp only [Act.put, List.getElem_toArray, List.getElem_cons_zero, List.getElem_cons_succ, List.setIfInBounds_toArray, List.set_cons_zero, List.set_cons_succ]
   refine wpAnyH_ready (rs := [8]) (by kernel_rfl) (by simp) ?_
   refine AllReadyH.cons (o := _) rfl (fun K hK => ?_) AllReadyH.nil
   go_simp
   refine hK.out _ _ ⟨q0, q1⟩ (fun hHeld => ?_)
   clear hK K
   try simp only [Act.put, List.getElem_toArray, List.getElem_cons_zero, List.getElem_cons_succ, List.setIfInBounds_toArray, List.set_cons_zero, List.set_cons_succ]
   refine wpAnyH_take (i := 9) (oi := _) (v := ?_) rfl (by kernel_rfl) (by kernel_rfl) (by kernel_rfl) (fun _ _ _ h => h) (Or.inl ⟨by rfl, ?_⟩) (by assumption) ?_
   rotate_left
   ·intro w hSw; (try dsimp only at hSw); go_simp <;> with_reducible rfl
   simp only [Act.put, List.getElem_toArray, List.getElem_cons_zero, List.getElem_cons_succ, List.setIfInBounds_toArray, List.set_cons_zero, List.set_cons_succ]
   refine wpAnyH_take (i := 10) (oi := _) (v := ?_) rfl (by kernel_rfl) (by kernel_rfl) (by kernel_rfl) (fun _ _ _ h => h) (Or.inl ⟨by rfl, ?_⟩) (by assumption) ?_
   rotate_left
   ·intro w hSw; (try dsimp only at hSw); go_simp <;> with_reducible rfl
   simp only [Act.put, List.getElem_toArray, List.getElem_cons_zero, List.getElem_cons_succ, List.setIfInBounds_toArray, List.set_cons_zero, List.set_cons_succ]
   refine wpAnyH_done (by kernel_rfl) ?_ _
   refine NoPanic.normal ?_
   go_wp2_with fail
   go_ret
   exact ⟨by rw [HE.out]; rfl, HBW.out.drew.trans (hb4.mono HBW.out.size)⟩
  have cb6 : (op == 6) = false := beq_eq_false_iff_ne.mpr o6
  rw [if_neg o6] at HTX2
  by_cases o7 : op = 7
  ·have cb : (op == 7) = true := beq_iff_eq.mpr o7
   rw [if_pos o7, ← o7, ← hnm] at HTX2
   have HU := am (bi_fields wc.drew HTb.out)
   obtain ⟨k1, k2⟩ := HN.out.2.2.2 o7
   obtain ⟨m, hm⟩ : ∃ m : Nat, n = (m : Int) + 1 := ⟨(n - 1).toNat, by omega⟩
   have hm4 : m < 11 := by omega
   have hmi : (m : Int) < 11 := by omega
   have hm0 : 0 ≤ (m : Int) := by omega
   have hsub : IntKind.i64.wrap (n - 1) = (m : Int) := by rw [hm]; exact (qAo _).trans ((qB1 (by omega) (by omega)).trans (by omega))
   have hub := biB_at m hm4
   rw [← hm] at hub
   obtain ⟨sb, hsb⟩ : ∃ sb, sb = biB n := ⟨_, rfl⟩
   rw [← hsb] at HTX2 hub
   have hss : sb.size ≤ 10 := hub.2
   have hz1 : nm.size + 1 ≤ 9223372036854775807 := by omega
   have hz2 : (9223372036854775807 < nm.size + 1) = False := eq_false (by omega)
   have hz3 : nm.size + 1 + sb.size ≤ 9223372036854775807 := by omega
   have hz4 : (9223372036854775807 < nm.size + 1 + sb.size) = False := eq_false (by omega)
   have HE := am HTX2
   have HSB := am hub.1
   clear HTX2 hsb hub hss hsz HSH HIT HN hnm hwd o1 o6 o7 k1 k2 hm hm4
   go_wp2_with fail
   refine wp_region_noPanic ?_
   refine wp_region_held_drew (S := fun W => W.cell? ⟨G2, 0, none⟩ = some (.string nm) ∧ W.cell? ⟨N, 1, none⟩ = some (.int .i64 n)) (by kernel_rfl) ⟨r0, e1⟩ (fun hHeld => ?_)
   refine wpAnyH_take (i := 0) (oi := _) (v := ?_) rfl (by kernel_rfl) (by kernel_rfl) (by kernel_rfl) (fun _ _ _ h => h) (Or.inl ⟨by rfl, ?_⟩) (by assumption) ?_
   rotate_left
   ·intro w hSw; (try dsimp only at hSw); go_simp <;> with_reducible rfl
   simp only [Act.put, List.getElem_toArray, List.getElem_cons_zero, List.getElem_cons_succ, List.setIfInBounds_toArray, List.set_cons_zero, List.set_cons_succ]
   refine wpAnyH_take (i := 1) (oi := _) (v := ?_) rfl (by kernel_rfl) (by kernel_rfl) (by kernel_rfl) (fun _ _ _ h => h) (Or.inl ⟨by rfl, ?_⟩) (by assumption) ?_
   rotate_left
   ·intro w hSw; (try dsimp only at hSw); go_simp <;> with_reducible rfl
   simp only [Act.put, List.getElem_toArray, List.getElem_cons_zero, List.getElem_cons_succ, List.setIfInBounds_toArray, List.set_cons_zero, List.set_cons_succ]
   refine wpAnyH_take (i := 2) (oi := _) (v := ?_) rfl (by kernel_rfl) (by kernel_rfl) (by kernel_rfl) (fun _ _ _ h => h) (Or.inl ⟨by rfl, ?_⟩) (by assumption) ?_
   rotate_left
   ·intro w hSw; (try dsimp only at hSw); go_simp <;> with_reducible rfl
   simp only [Act.put, List.getElem_toArray, List.getElem_cons_zero, List.getElem_cons_succ, List.setIfInBounds_toArray, List.set_cons_zero, List.set_cons_succ]
   refine wpAnyH_take (i := 4) (oi := _) (v := ?_) rfl (by kernel_rfl) (by kernel_rfl) (by kernel_rfl) (fun _ _ _ h => h) (Or.inl ⟨by rfl, ?_⟩) (by assumption) ?_
   rotate_left
   ·intro w hSw; (try dsimp only at hSw); go_simp <;> with_reducible rfl
   simp only [Act.put, List.getElem_toArray, List.getElem_cons_zero, List.getElem_cons_succ, List.setIfInBounds_toArray, List.set_cons_zero, List.set_cons_succ]
   refine wpAnyH_take (i := 5) (oi := _) (v := ?_) rfl (by kernel_rfl) (by kernel_rfl) (by kernel_rfl) (fun _ _ _ h => h) (Or.inl ⟨by rfl, ?_⟩) (by assumption) ?_
   rotate_left
   ·intro w hSw; (try dsimp only at hSw); go_simp <;> with_reducible rfl
   simp only [Act.put, List.getElem_toArray, List.getElem_cons_zero, List.getElem_cons_succ, List.setIfInBounds_toArray, List.set_cons_zero, List.set_cons_succ]
   refine wpAnyH_take (i := 6) (oi := _) (v := ?_) rfl (by kernel_rfl) (by kernel_rfl) (by kernel_rfl) (fun _ _ _ h => h) (Or.inl ⟨by rfl, ?_⟩) (by assumption) ?_
   rotate_left
   ·intro w hSw; (try dsimp only at hSw); go_simp <;> with_reducible rfl
   simp only [Act.put, List.getElem_toArray, List.getElem_cons_zero, List.getElem_cons_succ, List.setIfInBounds_toArray, List.set_cons_zero, List.set_cons_succ]
   refine wpAnyH_ready (rs := [3]) (by kernel_rfl) (by simp) ?_
   refine AllReadyH.cons (o := _) rfl (fun K hK => ?_) AllReadyH.nil
   go_simp
   go_at_call 48
   refine HU.out.mono ?_
   rintro e w4 ⟨rfl, hw4_⟩
   have hb4 : Below wc.drew.heap.size wc.drew w4 := by rw [hw4_]; exact (Below.refl _ _).alloc (Nat.le_refl _) _
   have hf4 : w4.cell? ⟨wc.heap.size, m, none⟩ = some (.string sb) := by rw [hw4_]; show (wc.drew.alloc _).cell? ⟨wc.drew.heap.size, m, none⟩ = _; rw [World.cell?_alloc_at _ _ _ _ rfl]; exact HSB.out
   clear hw4_
   have q0 := (hb4.cell (World.block_lt_of_cell? _ _ r0)).trans r0
   have q1 := (hb4.cell (World.block_lt_of_cell? _ _ e1)).trans e1
   refine hK.out _ _ ⟨q0, q1⟩ (fun hHeld => ?_)
   clear hK K
   try simp only [Act.put, List.getElem_toArray, List.getElem_cons_zero, List.getElem_cons_succ, List.setIfInBounds_toArray, List.set_cons_zero, List.set_cons_succ]
   refine wpAnyH_take (i := 7) (oi := _) (v := ?_) rfl (by kernel_rfl) (by kernel_rfl) (by kernel_rfl) (fun _ _ _ h => h) (Or.inl ⟨by rfl, ?_⟩) (by assumption) ?_
   rotate_left
   ·intro w hSw; (try dsimp only at hSw); go_simp <;> with_reducible rfl
   simp only [Act.put, List.getElem_toArray, List.getElem_cons_zero, List.getElem_cons_succ, List.setIfInBounds_toArray, List.set_cons_zero, List.set_cons_succ]
   refine wpAnyH_ready (rs := [8]) (by kernel_rfl) (by simp) ?_
   refine AllReadyH.cons (o := _) rfl (fun K hK => ?_) AllReadyH.nil
   go_simp
   refine hK.out _ _ ⟨q0, q1⟩ (fun hHeld => ?_)
   clear hK K
   try simp only [Act.put, List.getElem_toArray, List.getElem_cons_zero, List.getElem_cons_succ, List.setIfInBounds_toArray, List.set_cons_zero, List.set_cons_succ]
   refine wpAnyH_take (i := 9) (oi := _) (v := ?_) rfl (by kernel_rfl) (by kernel_rfl) (by kernel_rfl) (fun _ _ _ h => h) (Or.inl ⟨by rfl, ?_⟩) (by assumption) ?_
   rotate_left
   ·intro w hSw; (try dsimp only at hSw); go_simp <;> with_reducible rfl
   simp only [Act.put, List.getElem_toArray, List.getElem_cons_zero, List.getElem_cons_succ, List.setIfInBounds_toArray, List.set_cons_zero, List.set_cons_succ]
   refine wpAnyH_take (i := 10) (oi := _) (v := ?_) rfl (by kernel_rfl) (by kernel_rfl) (by kernel_rfl) (fun _ _ _ h => h) (Or.inl ⟨by rfl, ?_⟩) (by assumption) ?_
   rotate_left
   ·intro w hSw; (try dsimp only at hSw); go_simp <;> with_reducible rfl
   simp only [Act.put, List.getElem_toArray, List.getElem_cons_zero, List.getElem_cons_succ, List.setIfInBounds_toArray, List.set_cons_zero, List.set_cons_succ]
   refine wpAnyH_done (by kernel_rfl) ?_ _
   refine NoPanic.normal ?_
   go_wp2_with fail
   go_ret
   exact ⟨by rw [HE.out]; rfl, HBW.out.drew.trans (hb4.mono HBW.out.size)⟩
  have cb7 : (op == 7) = false := beq_eq_false_iff_ne.mpr o7
  rw [if_neg o7] at HTX2
  by_cases ow : 0 < wd
  rotate_left
  ·have cbw := decide_eq_false ow
   rw [if_neg ow] at HTX2
   have HE := am HTX2
   clear HTX2 hsz HIT HSH HN hnm hwd o1 o6 o7 ow
   go_wp2_with fail
   go_ret
   exact ⟨by rw [HE.out]; rfl, HBW.out⟩
  have cbw := decide_eq_true ow
  have hio : (itoB n).size ≤ 21 := qB6 n HNB.out.1 HNB.out.2
  rw [if_pos ow] at HTX2
  obtain ⟨sb, hsb⟩ : ∃ sb, sb = itoB n := ⟨_, rfl⟩
  have hIT := HIT.out _ HTb.out
  rw [show (⟨(Lib.itoa n).toArray⟩ : ByteArray) = itoB n from rfl, ← hsb] at hIT
  rw [← hsb] at HTX2 hio
  have hz1 : nm.size + 1 ≤ 9223372036854775807 := by omega
  have hz2 : (9223372036854775807 < nm.size + 1) = False := eq_false (by omega)
  have hz3 : nm.size + 1 + sb.size ≤ 9223372036854775807 := by omega
  have hz4 : (9223372036854775807 < nm.size + 1 + sb.size) = False := eq_false (by omega)
  have HE := am HTX2
  have HIT2 := am hIT
  clear HTX2 hsb hio hsz HIT HSH HN hnm hwd o1 o6 o7 ow hIT
  go_wp2_with fail
  go_region_held3 (fun W => W.cell? ⟨G2, 0, none⟩ = some (.string nm) ∧ W.cell? ⟨N, 1, none⟩ = some (.int .i64 n))
   (first | go_keep | exact ⟨(hb4.cell (World.block_lt_of_cell? _ _ r0)).trans r0, (hb4.cell (World.block_lt_of_cell? _ _ e1)).trans e1⟩)
   (first | (go_at_call 49; refine HIT2.out.mono ?_; rintro e w4 ⟨rfl, k_, os_, hw4_⟩; have hb4 : Below wc.drew.heap.size wc.drew w4 := (by rw [hw4_]; exact Lib.below_grow _ _ (Nat.le_refl _) _ _); clear hw4_))
  go_wp2_with fail
  go_ret
  exact ⟨by rw [HE.out]; rfl, HBW.out.drew.trans (hb4.mono HBW.out.size)⟩
end Flt
end Q
end
section
namespace Q
open Go.RowKit YA YC YB
open Val
namespace Flt
theorem dig_str (d : Nat) (h : d < 10) : strOfNums [48 + (d : Int)] = ⟨#[UInt8.ofNat (48 + d)]⟩ := by
 show (⟨([UInt8.ofNat (48 + (d : Int)).toNat]).toArray⟩ : ByteArray) = _
 rw [show (48 + (d : Int)).toNat = 48 + d by omega]
theorem dd_more (u : Nat) (h : ¬ u < 10) : Lib.decDigits u = Lib.decDigits (u / 10) ++ [UInt8.ofNat (48 + u % 10)] := by
 rw [Lib.decDigits, dif_neg h]
theorem dec_more (u : Nat) (h : ¬ u < 10) : (⟨(Lib.decDigits u).toArray⟩ : ByteArray) = ⟨(Lib.decDigits (u / 10)).toArray⟩ ++ ⟨#[UInt8.ofNat (48 + u % 10)]⟩ := by
 rw [dd_more u h]
 simp [ByteArray.ext_iff]
theorem dec_len (u : Nat) (h : u ≤ 9223372036854775808) : (⟨(Lib.decDigits u).toArray⟩ : ByteArray).size ≤ 21 ∧ (⟨(Lib.decDigits u).toArray⟩ : ByteArray).size ≠ 0 := by
 constructor
 ·by_cases c : u = 0
  ·subst c; rw [Lib.decDigits_one (by decide)]; decide
  have h1 := Lib.itoa_length_le (-(u : Int)) (by omega) (by omega)
  rw [Lib.itoa_neg u (by omega)] at h1
  simp [ByteArray.size] at h1 ⊢
  omega
 by_cases c : u < 10
 ·rw [Lib.decDigits_one c]; simp [ByteArray.size]
 rw [dd_more u c]; simp [ByteArray.size]
theorem rdecp_ev : ∀ (u : Nat), u ≤ 9223372036854775807 → Ev (fun k => qAh.f k (u : Int)) ⟨(Lib.decDigits u).toArray⟩ := by
 intro u
 induction u using Nat.strongRecOn with
 | _ u ih =>
  intro hu
  have hm : Int.tmod (u : Int) 10 = ((u % 10 : Nat) : Int) := by rw [Int.tmod_eq_emod_of_nonneg (by omega)]; omega
  have hq : wrap64 (Int.tdiv (u : Int) 10) = ((u / 10 : Nat) : Int) := by rw [Int.tdiv_eq_ediv_of_nonneg (by omega), qB1 (by omega) (by omega)]; omega
  have hd : wrap64 (48 + ((u % 10 : Nat) : Int)) % 256 = 48 + ((u % 10 : Nat) : Int) := by rw [qB1 (by omega) (by omega)]; omega
  have j0 : ∀ x4 : ByteArray, x4.size ≤ 1000 → Ev (fun k => qAh.j0 k (u : Int) ((u % 10 : Nat) : Int) x4) (x4 ++ ⟨#[UInt8.ofNat (48 + u % 10)]⟩) := fun x4 hx => by
   refine Ev.step (f := fun _ => some (x4 ++ ⟨#[UInt8.ofNat (48 + u % 10)]⟩)) (fun k => ?_) (Ev.now _)
   simp only [qAh.j0, Option.bind_some, hd, dig_str (u % 10) (Nat.mod_lt _ (by decide))]
   rw [if_neg (by omega), if_pos]
   show x4.size + 1 ≤ _
   omega
  by_cases c : u < 10
  ·have := j0 ⟨#[]⟩ (by decide)
   rw [show (⟨#[]⟩ : ByteArray) ++ ⟨#[UInt8.ofNat (48 + u % 10)]⟩ = ⟨(Lib.decDigits u).toArray⟩ by rw [Lib.decDigits_one c, Nat.mod_eq_of_lt c]; rfl] at this
   refine Ev.step (fun k => ?_) this
   simp only [qAh.f, hq, hm]
   rw [if_pos (by omega)]
  have h1 := ih (u / 10) (by omega) (by omega)
  have hl := dec_len (u / 10) (by omega)
  refine Ev.step (f := fun k => (qAh.f k ((u / 10 : Nat) : Int)).bind fun t871 => (qAh.j0 k (u : Int) ((u % 10 : Nat) : Int) t871)) (fun k => ?_) (Ev.bind h1 ?_)
  ·simp only [qAh.f, hq, hm]
   rw [if_neg (by omega)]
  rw [dec_more u c]
  exact j0 _ (by omega)
theorem rdecn_ev : ∀ (u : Nat), 1 ≤ u → u ≤ 9223372036854775808 → Ev (fun k => qAh.f k (-(u : Int))) ⟨(45 :: Lib.decDigits u).toArray⟩ := by
 intro u
 induction u using Nat.strongRecOn with
 | _ u ih =>
  intro hu0 hu
  have hm : Int.tmod (-(u : Int)) 10 = -((u % 10 : Nat) : Int) := by rw [Int.neg_tmod, Int.tmod_eq_emod_of_nonneg (by omega)]; omega
  have hq : wrap64 (Int.tdiv (-(u : Int)) 10) = -((u / 10 : Nat) : Int) := by rw [Int.neg_tdiv, Int.tdiv_eq_ediv_of_nonneg (by omega), qB1 (by omega) (by omega)]; omega
  have hd : wrap64 (48 + wrap64 (- -((u % 10 : Nat) : Int))) % 256 = 48 + ((u % 10 : Nat) : Int) := by rw [qB1 (x := - -((u % 10 : Nat) : Int)) (by omega) (by omega), qB1 (by omega) (by omega)]; omega
  by_cases c : u < 10
  ·refine Ev.step (f := fun k => qAh.j0 k (-(u : Int)) (-((u % 10 : Nat) : Int)) ⟨#[]⟩) (fun k => ?_) ?_
   ·simp only [qAh.f, hq, hm]
    rw [if_pos (by omega)]
   refine Ev.step (f := fun _ => some ⟨(45 :: Lib.decDigits u).toArray⟩) (fun k => ?_) (Ev.now _)
   simp only [qAh.j0, Option.bind_some, hd, dig_str (u % 10) (Nat.mod_lt _ (by decide))]
   rw [if_pos (by omega), if_pos (by decide +kernel), if_pos (by show 1 + 1 ≤ 9223372036854775807; decide), Lib.decDigits_one c, Nat.mod_eq_of_lt c]
   rfl
  have h1 := ih (u / 10) (by omega) (by omega) (by omega)
  have hl := dec_len (u / 10) (by omega)
  refine Ev.step (f := fun k => (qAh.f k (-((u / 10 : Nat) : Int))).bind fun t871 => (qAh.j0 k (-(u : Int)) (-((u % 10 : Nat) : Int)) t871)) (fun k => ?_) (Ev.bind h1 ?_)
  ·simp only [qAh.f, hq, hm]
   rw [if_neg (by omega)]
  refine Ev.step (f := fun _ => some ⟨(45 :: Lib.decDigits u).toArray⟩) (fun k => ?_) (Ev.now _)
  simp only [qAh.j0, Option.bind_some, hd, dig_str (u % 10) (Nat.mod_lt _ (by decide))]
  rw [if_pos (by omega), if_neg, if_pos]
  ·rw [dd_more u c]
   simp [ByteArray.ext_iff]
  ·show _ + 1 ≤ _
   simp [ByteArray.size] at hl ⊢
   omega
  rw [Lib.toList_data]
  simp
theorem rdec_ev (n : Int) (h0 : -9223372036854775808 ≤ n) (h1 : n ≤ 9223372036854775807) : Ev (fun k => qAh.f k n) (itoB n) := by
 by_cases c : 0 ≤ n
 ·obtain ⟨u, rfl⟩ := Int.eq_ofNat_of_zero_le c
  have := rdecp_ev u (by omega)
  unfold itoB
  rw [show Lib.itoa (u : Int) = Lib.decDigits u from Lib.itoa_nonneg u]
  exact this
 obtain ⟨u, hu⟩ : ∃ u : Nat, n = -(u : Int) := ⟨(-n).toNat, by omega⟩
 subst hu
 have := rdecn_ev u (by omega) (by omega)
 unfold itoB
 rw [Lib.itoa_neg u (by omega)]
 exact this
theorem rshow_ev (t b : Int) (hu : U64 b) : Ev (fun k => qBa.f k t b) (qCp t b) := by
 unfold qBa.f qCp
 by_cases t1 : t = 1
 ·refine Ev.congr (fun k => by rw [if_pos t1]) ?_
  rw [if_pos t1]
  exact Ev.bind (rdec_ev (wrap64 b) (by unfold wrap64; omega) (by unfold wrap64; omega)) (Ev.now _)
 by_cases t2 : t = 2
 ·refine Ev.congr (fun k => by rw [if_neg t1, if_pos t2]) ?_
  rw [if_neg t1, if_pos t2]
  exact Ev.bind (rtext_ev b hu) (Ev.now _)
 by_cases t3 : t = 3
 rotate_left
 ·refine Ev.congr (fun k => by rw [if_neg t1, if_neg t2, if_neg t3]) ?_
  rw [if_neg t1, if_neg t2, if_neg t3]
  exact Ev.now _
 refine Ev.congr (fun k => by rw [if_neg t1, if_neg t2, if_pos t3]) ?_
 rw [if_neg t1, if_neg t2, if_pos t3]
 by_cases z : b = 0
 ·rw [if_pos z, if_pos z]; exact Ev.now _
 rw [if_neg z, if_neg z]; exact Ev.now _
end Flt
end Q
end
section
namespace RIns
open Go.RowKit Base Val Tbl Ins
def widR (op : Int) : Int := if op = 2 ∨ op = 3 ∨ op = 6 ∨ op = 7 then 1 else if op = 4 ∨ op = 5 ∨ op = 8 ∨ op = 9 ∨ op = 10 ∨ op = 15 then 2 else 0
theorem width_1 (op : Int) (h : op = 2 ∨ op = 3 ∨ op = 6 ∨ op = 7) (w : World) : Calls Tryz.prog 51 #[.int .i64 op] w fun e w' => e = .returned (.int .i64 1) ∧ w' = w := by
 rcases h with rfl | rfl | rfl | rfl
 all_goals (go_enter Tryz.func51, Tryz.ntmps51; go_wp2; go_ret; exact ⟨rfl, rfl⟩)
theorem width_2 (op : Int) (h : op = 4 ∨ op = 5 ∨ op = 8 ∨ op = 9 ∨ op = 10 ∨ op = 15) (w : World) : Calls Tryz.prog 51 #[.int .i64 op] w fun e w' => e = .returned (.int .i64 2) ∧ w' = w := by
 rcases h with rfl | rfl | rfl | rfl | rfl | rfl
 all_goals (go_enter Tryz.func51, Tryz.ntmps51; go_wp2; go_ret; exact ⟨rfl, rfl⟩)
theorem width_0 (op : Int) (h2 : (op == 2) = false) (h3 : (op == 3) = false) (h6 : (op == 6) = false) (h7 : (op == 7) = false) (h4 : (op == 4) = false) (h5 : (op == 5) = false) (h8 : (op == 8) = false) (h9 : (op == 9) = false) (h10 : (op == 10) = false) (h15 : (op == 15) = false) (w : World) : Calls Tryz.prog 51 #[.int .i64 op] w fun e w' => e = .returned (.int .i64 0) ∧ w' = w := by
 go_enter Tryz.func51, Tryz.ntmps51
 go_wp2
 go_ret
 exact ⟨rfl, rfl⟩
theorem qB2 (op : Int) (w : World) : Calls Tryz.prog 51 #[.int .i64 op] w fun e w' => e = .returned (.int .i64 (widR op)) ∧ w' = w := by
 unfold widR
 by_cases h1 : op = 2 ∨ op = 3 ∨ op = 6 ∨ op = 7
 ·rw [if_pos h1]; exact width_1 op h1 w
 by_cases h2 : op = 4 ∨ op = 5 ∨ op = 8 ∨ op = 9 ∨ op = 10 ∨ op = 15
 ·rw [if_neg h1, if_pos h2]; exact width_2 op h2 w
 rw [if_neg h1, if_neg h2]
 exact width_0 op (beq_eq_false_iff_ne.mpr (by omega)) (beq_eq_false_iff_ne.mpr (by omega)) (beq_eq_false_iff_ne.mpr (by omega)) (beq_eq_false_iff_ne.mpr (by omega)) (beq_eq_false_iff_ne.mpr (by omega)) (beq_eq_false_iff_ne.mpr (by omega)) (beq_eq_false_iff_ne.mpr (by omega)) (beq_eq_false_iff_ne.mpr (by omega)) (beq_eq_false_iff_ne.mpr (by omega)) (beq_eq_false_iff_ne.mpr (by omega)) w
theorem rright_lo (op n ty b : Int) (hlo : (decide (op < 1)) = true) (w : World) : Calls Tryz.prog 23 #[.agg #[.int .i64 op, .int .i64 n, .int .i64 ty, .int .u64 b]] w fun e w' => e = .returned (.bool false) ∧ Below w.heap.size w w' := by
 go_enter Tryz.func23, Tryz.ntmps23
 go_wp2
 go_ret
 exact ⟨rfl, (Below.refl _ _).alloc (Nat.le_refl _) _⟩
theorem rright_hi (op n ty b : Int) (hlo : (decide (op < 1)) = false) (hhi : (decide (17 < op)) = true) (w : World) : Calls Tryz.prog 23 #[.agg #[.int .i64 op, .int .i64 n, .int .i64 ty, .int .u64 b]] w fun e w' => e = .returned (.bool false) ∧ Below w.heap.size w w' := by
 go_enter Tryz.func23, Tryz.ntmps23
 go_wp2
 go_ret
 exact ⟨rfl, (Below.refl _ _).alloc (Nat.le_refl _) _⟩
theorem rright_push_no (n ty b : Int) (h : (n == 0) = false) (w : World) : Calls Tryz.prog 23 #[.agg #[.int .i64 1, .int .i64 n, .int .i64 ty, .int .u64 b]] w fun e w' => e = .returned (.bool false) ∧ Below w.heap.size w w' := by
 go_enter Tryz.func23, Tryz.ntmps23
 go_wp2
 go_ret
 exact ⟨rfl, (Below.refl _ _).alloc (Nat.le_refl _) _⟩
theorem rright_push (ty b : Int) (hb : U64 b) (w : World) : Calls Tryz.prog 23 #[.agg #[.int .i64 1, .int .i64 0, .int .i64 ty, .int .u64 b]] w fun e w' => e = .returned (.bool (okV ty b)) ∧ Below w.heap.size w w' := by
 have HR := hid (Val.rright_any ty b hb)
 clear hb
 go_enter Tryz.func23, Tryz.ntmps23
 go_wp2_with fail
 go_at_call 50
 refine (HR.out _).mono ?_
 rintro e w1 ⟨rfl, hb1⟩
 go_wp2
 go_ret
 exact ⟨rfl, ((Below.refl _ _).alloc (Nat.le_refl _) _).trans (hb1.mono (by simp))⟩
theorem qBJ (op n ty b : Int) (hlo : (decide (op < 1)) = false) (hhi : (decide (17 < op)) = false) (h1 : (op == 1) = false)  (hwd : widR op = 0) (w : World) : Calls Tryz.prog 23 #[.agg #[.int .i64 op, .int .i64 n, .int .i64 ty, .int .u64 b]] w fun e w' => e = .returned (.bool (decide (ty = 0 ∧ b = 0 ∧ 0 ≤ n ∧ n ≤ 0))) ∧ Below w.heap.size w w' := by
 have HW := hid (qB2 op)
 rw [hwd] at HW
 clear hwd
 by_cases ht : ty = 0 ∧ b = 0 ∧ 0 ≤ n
 ·obtain ⟨rfl, rfl, hn⟩ := ht
  have hn' : decide (n < 0) = false := by simpa using hn
  go_enter Tryz.func23, Tryz.ntmps23
  go_wp2_with fail
  go_at_call 51
  refine (HW.out _).mono ?_
  rintro e w1 ⟨rfl, rfl⟩
  go_wp2
  all_goals (go_ret; refine ⟨congrArg (fun x => Ending.returned (Value.bool x)) ?_, (Below.refl _ _).alloc (Nat.le_refl _) _⟩; first | (simp_all <;> omega) | (rw [Bool.eq_iff_iff]; simp; omega))
 rw [show decide (ty = 0 ∧ b = 0 ∧ 0 ≤ n ∧ n ≤ 0) = false from by simp; omega]
 by_cases h2 : ty = 0
 rotate_left
 ·have h2' : (ty != 0) = true := bne_iff_ne.mpr h2
  clear ht h2
  go_enter Tryz.func23, Tryz.ntmps23
  go_wp2
  go_ret
  exact ⟨rfl, (Below.refl _ _).alloc (Nat.le_refl _) _⟩
 by_cases h3 : b = 0
 ·have hn' : decide (n < 0) = true := by simp; omega
  subst h2 h3
  clear ht
  go_enter Tryz.func23, Tryz.ntmps23
  go_wp2
  go_ret
  exact ⟨rfl, (Below.refl _ _).alloc (Nat.le_refl _) _⟩
 have h3' : (b != 0) = true := bne_iff_ne.mpr h3
 subst h2
 clear ht h3
 go_enter Tryz.func23, Tryz.ntmps23
 go_wp2
 go_ret
 exact ⟨rfl, (Below.refl _ _).alloc (Nat.le_refl _) _⟩
theorem qBK (op n ty b : Int) (hlo : (decide (op < 1)) = false) (hhi : (decide (17 < op)) = false) (h1 : (op == 1) = false)  (hwd : widR op = 2) (w : World) : Calls Tryz.prog 23 #[.agg #[.int .i64 op, .int .i64 n, .int .i64 ty, .int .u64 b]] w fun e w' => e = .returned (.bool (decide (ty = 0 ∧ b = 0 ∧ 0 ≤ n ∧ n ≤ 65535))) ∧ Below w.heap.size w w' := by
 have HW := hid (qB2 op)
 rw [hwd] at HW
 clear hwd
 by_cases ht : ty = 0 ∧ b = 0 ∧ 0 ≤ n
 ·obtain ⟨rfl, rfl, hn⟩ := ht
  have hn' : decide (n < 0) = false := by simpa using hn
  go_enter Tryz.func23, Tryz.ntmps23
  go_wp2_with fail
  go_at_call 51
  refine (HW.out _).mono ?_
  rintro e w1 ⟨rfl, rfl⟩
  go_wp2
  all_goals (go_ret; refine ⟨congrArg (fun x => Ending.returned (Value.bool x)) ?_, (Below.refl _ _).alloc (Nat.le_refl _) _⟩; first | (simp_all <;> omega) | (rw [Bool.eq_iff_iff]; simp; omega))
 rw [show decide (ty = 0 ∧ b = 0 ∧ 0 ≤ n ∧ n ≤ 65535) = false from by simp; omega]
 by_cases h2 : ty = 0
 rotate_left
 ·have h2' : (ty != 0) = true := bne_iff_ne.mpr h2
  clear ht h2
  go_enter Tryz.func23, Tryz.ntmps23
  go_wp2
  go_ret
  exact ⟨rfl, (Below.refl _ _).alloc (Nat.le_refl _) _⟩
 by_cases h3 : b = 0
 ·have hn' : decide (n < 0) = true := by simp; omega
  subst h2 h3
  clear ht
  go_enter Tryz.func23, Tryz.ntmps23
  go_wp2
  go_ret
  exact ⟨rfl, (Below.refl _ _).alloc (Nat.le_refl _) _⟩
 have h3' : (b != 0) = true := bne_iff_ne.mpr h3
 subst h2
 clear ht h3
 go_enter Tryz.func23, Tryz.ntmps23
 go_wp2
 go_ret
 exact ⟨rfl, (Below.refl _ _).alloc (Nat.le_refl _) _⟩
theorem rright_6 (op n ty b : Int) (hlo : (decide (op < 1)) = false) (hhi : (decide (17 < op)) = false) (h1 : (op == 1) = false) (h6 : (op == 6) = true) (hwd : widR op = 1) (w : World) : Calls Tryz.prog 23 #[.agg #[.int .i64 op, .int .i64 n, .int .i64 ty, .int .u64 b]] w fun e w' => e = .returned (.bool (decide (ty = 0 ∧ b = 0 ∧ 0 ≤ n ∧ n ≤ 255 ∧ 1 ≤ n ∧ n ≤ 4))) ∧ Below w.heap.size w w' := by
 have HW := hid (qB2 op)
 rw [hwd] at HW
 clear hwd
 by_cases ht : ty = 0 ∧ b = 0 ∧ 0 ≤ n
 ·obtain ⟨rfl, rfl, hn⟩ := ht
  have hn' : decide (n < 0) = false := by simpa using hn
  go_enter Tryz.func23, Tryz.ntmps23
  go_wp2_with fail
  go_at_call 51
  refine (HW.out _).mono ?_
  rintro e w1 ⟨rfl, rfl⟩
  go_wp2
  all_goals (go_ret; refine ⟨congrArg (fun x => Ending.returned (Value.bool x)) ?_, (Below.refl _ _).alloc (Nat.le_refl _) _⟩; first | (simp_all <;> omega) | (rw [Bool.eq_iff_iff]; simp; omega))
 rw [show decide (ty = 0 ∧ b = 0 ∧ 0 ≤ n ∧ n ≤ 255 ∧ 1 ≤ n ∧ n ≤ 4) = false from by simp; omega]
 by_cases h2 : ty = 0
 rotate_left
 ·have h2' : (ty != 0) = true := bne_iff_ne.mpr h2
  clear ht h2
  go_enter Tryz.func23, Tryz.ntmps23
  go_wp2
  go_ret
  exact ⟨rfl, (Below.refl _ _).alloc (Nat.le_refl _) _⟩
 by_cases h3 : b = 0
 ·have hn' : decide (n < 0) = true := by simp; omega
  subst h2 h3
  clear ht
  go_enter Tryz.func23, Tryz.ntmps23
  go_wp2
  go_ret
  exact ⟨rfl, (Below.refl _ _).alloc (Nat.le_refl _) _⟩
 have h3' : (b != 0) = true := bne_iff_ne.mpr h3
 subst h2
 clear ht h3
 go_enter Tryz.func23, Tryz.ntmps23
 go_wp2
 go_ret
 exact ⟨rfl, (Below.refl _ _).alloc (Nat.le_refl _) _⟩
theorem rright_7 (op n ty b : Int) (hlo : (decide (op < 1)) = false) (hhi : (decide (17 < op)) = false) (h1 : (op == 1) = false) (h6 : (op == 6) = false) (h7 : (op == 7) = true) (hwd : widR op = 1) (w : World) : Calls Tryz.prog 23 #[.agg #[.int .i64 op, .int .i64 n, .int .i64 ty, .int .u64 b]] w fun e w' => e = .returned (.bool (decide (ty = 0 ∧ b = 0 ∧ 0 ≤ n ∧ n ≤ 255 ∧ 1 ≤ n ∧ n ≤ 11))) ∧ Below w.heap.size w w' := by
 have HW := hid (qB2 op)
 rw [hwd] at HW
 clear hwd
 by_cases ht : ty = 0 ∧ b = 0 ∧ 0 ≤ n
 ·obtain ⟨rfl, rfl, hn⟩ := ht
  have hn' : decide (n < 0) = false := by simpa using hn
  go_enter Tryz.func23, Tryz.ntmps23
  go_wp2_with fail
  go_at_call 51
  refine (HW.out _).mono ?_
  rintro e w1 ⟨rfl, rfl⟩
  go_wp2
  all_goals (go_ret; refine ⟨congrArg (fun x => Ending.returned (Value.bool x)) ?_, (Below.refl _ _).alloc (Nat.le_refl _) _⟩; first | (simp_all <;> omega) | (rw [Bool.eq_iff_iff]; simp; omega))
 rw [show decide (ty = 0 ∧ b = 0 ∧ 0 ≤ n ∧ n ≤ 255 ∧ 1 ≤ n ∧ n ≤ 11) = false from by simp; omega]
 by_cases h2 : ty = 0
 rotate_left
 ·have h2' : (ty != 0) = true := bne_iff_ne.mpr h2
  clear ht h2
  go_enter Tryz.func23, Tryz.ntmps23
  go_wp2
  go_ret
  exact ⟨rfl, (Below.refl _ _).alloc (Nat.le_refl _) _⟩
 by_cases h3 : b = 0
 ·have hn' : decide (n < 0) = true := by simp; omega
  subst h2 h3
  clear ht
  go_enter Tryz.func23, Tryz.ntmps23
  go_wp2
  go_ret
  exact ⟨rfl, (Below.refl _ _).alloc (Nat.le_refl _) _⟩
 have h3' : (b != 0) = true := bne_iff_ne.mpr h3
 subst h2
 clear ht h3
 go_enter Tryz.func23, Tryz.ntmps23
 go_wp2
 go_ret
 exact ⟨rfl, (Below.refl _ _).alloc (Nat.le_refl _) _⟩
theorem rright_w1 (op n ty b : Int) (hlo : (decide (op < 1)) = false) (hhi : (decide (17 < op)) = false) (h1 : (op == 1) = false) (h6 : (op == 6) = false) (h7 : (op == 7) = false) (hwd : widR op = 1) (w : World) : Calls Tryz.prog 23 #[.agg #[.int .i64 op, .int .i64 n, .int .i64 ty, .int .u64 b]] w fun e w' => e = .returned (.bool (decide (ty = 0 ∧ b = 0 ∧ 0 ≤ n ∧ n ≤ 255))) ∧ Below w.heap.size w w' := by
 have HW := hid (qB2 op)
 rw [hwd] at HW
 clear hwd
 by_cases ht : ty = 0 ∧ b = 0 ∧ 0 ≤ n
 ·obtain ⟨rfl, rfl, hn⟩ := ht
  have hn' : decide (n < 0) = false := by simpa using hn
  go_enter Tryz.func23, Tryz.ntmps23
  go_wp2_with fail
  go_at_call 51
  refine (HW.out _).mono ?_
  rintro e w1 ⟨rfl, rfl⟩
  go_wp2
  all_goals (go_ret; refine ⟨congrArg (fun x => Ending.returned (Value.bool x)) ?_, (Below.refl _ _).alloc (Nat.le_refl _) _⟩; first | (simp_all <;> omega) | (rw [Bool.eq_iff_iff]; simp; omega))
 rw [show decide (ty = 0 ∧ b = 0 ∧ 0 ≤ n ∧ n ≤ 255) = false from by simp; omega]
 by_cases h2 : ty = 0
 rotate_left
 ·have h2' : (ty != 0) = true := bne_iff_ne.mpr h2
  clear ht h2
  go_enter Tryz.func23, Tryz.ntmps23
  go_wp2
  go_ret
  exact ⟨rfl, (Below.refl _ _).alloc (Nat.le_refl _) _⟩
 by_cases h3 : b = 0
 ·have hn' : decide (n < 0) = true := by simp; omega
  subst h2 h3
  clear ht
  go_enter Tryz.func23, Tryz.ntmps23
  go_wp2
  go_ret
  exact ⟨rfl, (Below.refl _ _).alloc (Nat.le_refl _) _⟩
 have h3' : (b != 0) = true := bne_iff_ne.mpr h3
 subst h2
 clear ht h3
 go_enter Tryz.func23, Tryz.ntmps23
 go_wp2
 go_ret
 exact ⟨rfl, (Below.refl _ _).alloc (Nat.le_refl _) _⟩
theorem qCE (op n ty b : Int) (hb : U64 b) (w : World) : Calls Tryz.prog 23 #[insV op n ty b] w fun e w' => e = .returned (.bool (okI op n ty b)) ∧ Below w.heap.size w w' := by
 unfold insV
 by_cases hl : op < 1
 ·rw [okI_lo op n ty b hl]; exact rright_lo op n ty b (by simpa using hl) w
 by_cases hh : 17 < op
 ·rw [okI_hi op n ty b hh]; exact rright_hi op n ty b (by simpa using hl) (by simpa using hh) w
 have ho : op = 1 ∨ op = 2 ∨ op = 3 ∨ op = 4 ∨ op = 5 ∨ op = 6 ∨ op = 7 ∨ op = 8 ∨ op = 9 ∨ op = 10 ∨ op = 11 ∨ op = 12 ∨ op = 13 ∨ op = 14 ∨ op = 15 ∨ op = 16 ∨ op = 17 := by omega
 rcases ho with rfl | rfl | rfl | rfl | rfl | rfl | rfl | rfl | rfl | rfl | rfl | rfl | rfl | rfl | rfl | rfl | rfl
 ·rw [okI_1]
  by_cases hn : n = 0
  ·rw [hn]; exact rright_push ty b hb w
  rw [show (n == 0) = false from beq_eq_false_iff_ne.mpr hn]; exact rright_push_no n ty b (beq_eq_false_iff_ne.mpr hn) w
 ·rw [qAG 2 n ty b 255 rfl rfl rfl rfl rfl rfl]; exact rright_w1 2 n ty b rfl rfl rfl rfl rfl rfl w
 ·rw [qAG 3 n ty b 255 rfl rfl rfl rfl rfl rfl]; exact rright_w1 3 n ty b rfl rfl rfl rfl rfl rfl w
 ·rw [qAG 4 n ty b 65535 rfl rfl rfl rfl rfl rfl]; exact qBK 4 n ty b rfl rfl rfl rfl w
 ·rw [qAG 5 n ty b 65535 rfl rfl rfl rfl rfl rfl]; exact qBK 5 n ty b rfl rfl rfl rfl w
 ·rw [okI_6]; exact rright_6 6 n ty b rfl rfl rfl rfl rfl w
 ·rw [okI_7]; exact rright_7 7 n ty b rfl rfl rfl rfl rfl rfl w
 ·rw [qAG 8 n ty b 65535 rfl rfl rfl rfl rfl rfl]; exact qBK 8 n ty b rfl rfl rfl rfl w
 ·rw [qAG 9 n ty b 65535 rfl rfl rfl rfl rfl rfl]; exact qBK 9 n ty b rfl rfl rfl rfl w
 ·rw [qAG 10 n ty b 65535 rfl rfl rfl rfl rfl rfl]; exact qBK 10 n ty b rfl rfl rfl rfl w
 ·rw [qAG 11 n ty b 0 rfl rfl rfl rfl rfl rfl]; exact qBJ 11 n ty b rfl rfl rfl rfl w
 ·rw [qAG 12 n ty b 0 rfl rfl rfl rfl rfl rfl]; exact qBJ 12 n ty b rfl rfl rfl rfl w
 ·rw [qAG 13 n ty b 0 rfl rfl rfl rfl rfl rfl]; exact qBJ 13 n ty b rfl rfl rfl rfl w
 ·rw [qAG 14 n ty b 0 rfl rfl rfl rfl rfl rfl]; exact qBJ 14 n ty b rfl rfl rfl rfl w
 ·rw [qAG 15 n ty b 65535 rfl rfl rfl rfl rfl rfl]; exact qBK 15 n ty b rfl rfl rfl rfl w
 ·rw [qAG 16 n ty b 0 rfl rfl rfl rfl rfl rfl]; exact qBJ 16 n ty b rfl rfl rfl rfl w
 rw [qAG 17 n ty b 0 rfl rfl rfl rfl rfl rfl]; exact qBJ 17 n ty b rfl rfl rfl rfl w
end RIns
end
section
namespace Q
open Go.RowKit YA YC YB
attribute [local go_sem] max2_int min2_int max_two min_two max_three min_three max_four min_four
def qAw.j0 : Nat → Int → Bool → Option (Int)
 | 0, _, _ => none
 | k + 1, x3, x4 => if x4 = true then (some 1) else (if x3 = 4 then (some 2) else (if x3 = 5 then (some 2) else (if x3 = 8 then (some 2) else (if x3 = 9 then (some 2) else (if x3 = 10 then (some 2) else (if x3 = 15 then (some 2) else (some 0)))))))
def qAw.f (k : Nat) (a0 : Int) : Option (Int) := if a0 = 2 then (qAw.j0 k a0 (a0 == 2)) else (if a0 = 3 then (qAw.j0 k a0 (a0 == 3)) else (if a0 = 6 then (qAw.j0 k a0 (a0 == 6)) else (qAw.j0 k a0 (a0 == 7))))
theorem qAw.calls (k : Nat) (a0 : Int) (r : Int) (w : World) (h : qAw.f k a0 = some r) :
  Calls Tryz.prog 51 #[.int .i64 a0] w fun e w' => e = .returned (.int .i64 r) ∧ qAy w w' := by
 have H : (if a0 = 2 then (qAw.j0 k a0 (a0 == 2)) else (if a0 = 3 then (qAw.j0 k a0 (a0 == 3)) else (if a0 = 6 then (qAw.j0 k a0 (a0 == 6)) else (qAw.j0 k a0 (a0 == 7))))) = some r := h
 clear h
 have aP := am H
 clear H
 go_enter Tryz.func51, Tryz.ntmps51
 go_upto_if 4 with (fail)
 go_cut [4] (fun v4 wc => ∃ (kq : Nat) (aB : Bool), v4 = .bool aB ∧ qAi (qAw.j0 kq a0 aB = some r) ∧ qAi (kq ≤ k) ∧ qAy w wc)
 case first =>
  have H := aP.o
  clear aP
  by_cases c3 : a0 = 2
  ·rw [if_pos c3] at H
   have aA : (a0 == 2) = true := beq_iff_eq.mpr c3
   have aK : (a0 != 2) = false := bn c3
   clear c3
   (first | rw [aA] | (simp only [qAo, i32_w]; rw [aA]) | skip)
   have H' := am H
   clear H
   go_wp2
   go_meet
   case rel => exact ⟨_, ((a0 == 2)), (by first | rfl | (simp; done) | (simp [*]; done)), H', ⟨by first | omega | exact Nat.le_refl _⟩, by repeat (first | exact qAy.refl _ | apply qAy.step)⟩
  rw [if_neg c3] at H
  have aA : (a0 == 2) = false := bf c3
  have aK : (a0 != 2) = true := bne_iff_ne.mpr c3
  (first | rw [aA] | (simp only [qAo, i32_w]; rw [aA]) | skip)
  by_cases c4 : a0 = 3
  ·rw [if_pos c4] at H
   have aL : (a0 == 3) = true := beq_iff_eq.mpr c4
   have aM : (a0 != 3) = false := bn c4
   clear c4
   have H' := am H
   clear H
   go_wp2
   go_meet
   case rel => exact ⟨_, ((a0 == 3)), (by first | rfl | (simp; done) | (simp [*]; done)), H', ⟨by first | omega | exact Nat.le_refl _⟩, by repeat (first | exact qAy.refl _ | apply qAy.step)⟩
  rw [if_neg c4] at H
  have aL : (a0 == 3) = false := bf c4
  have aM : (a0 != 3) = true := bne_iff_ne.mpr c4
  by_cases c5 : a0 = 6
  rotate_left
  ·rw [if_neg c5] at H
   have aN : (a0 == 6) = false := bf c5
   have aO : (a0 != 6) = true := bne_iff_ne.mpr c5
   have H' := am H
   clear H
   go_wp2
   go_meet
   case rel => exact ⟨_, ((a0 == 7)), (by first | rfl | (simp; done) | (simp [*]; done)), H', ⟨by first | omega | exact Nat.le_refl _⟩, by repeat (first | exact qAy.refl _ | apply qAy.step)⟩
  rw [if_pos c5] at H
  have aN : (a0 == 6) = true := beq_iff_eq.mpr c5
  have aO : (a0 != 6) = false := bn c5
  clear c5
  have H' := am H
  clear H
  go_wp2
  go_meet
  case rel => exact ⟨_, ((a0 == 6)), (by first | rfl | (simp; done) | (simp [*]; done)), H', ⟨by first | omega | exact Nat.le_refl _⟩, by repeat (first | exact qAy.refl _ | apply qAy.step)⟩
 case rest =>
  clear aP
  obtain ⟨kq, aB, rfl, HA, aW, ⟨mc1, rfl⟩⟩ := hcut
  cases kq with
  | zero => exact absurd HA.o (by simp [qAw.j0])
  | succ aX =>
   have H := HA.o
   clear HA
   simp only [qAw.j0] at H
   by_cases c6 : aB = true
   ·subst c6
    replace H : (some 1) = some r := by rw [if_pos rfl] at H; exact H
    obtain rfl := Option.some.inj H
    go_wp2
    go_ret
    exact ⟨by first | rfl | (simp; done) | (simp [*]; done), by repeat (first | exact qAy.refl _ | apply qAy.step)⟩
   replace c6 := Bool.eq_false_iff.mpr c6
   subst c6
   replace H : (if a0 = 4 then (some 2) else (if a0 = 5 then (some 2) else (if a0 = 8 then (some 2) else (if a0 = 9 then (some 2) else (if a0 = 10 then (some 2) else (if a0 = 15 then (some 2) else (some 0))))))) = some r := by rw [if_neg (show ¬ (false = true) by decide)] at H; exact H
   by_cases c7 : a0 = 4
   ·rw [if_pos c7] at H
    have aQ : (a0 == 4) = true := beq_iff_eq.mpr c7
    have aR : (a0 != 4) = false := bn c7
    clear c7
    obtain rfl := Option.some.inj H
    go_wp2
    go_ret
    exact ⟨by first | rfl | (simp; done) | (simp [*]; done), by repeat (first | exact qAy.refl _ | apply qAy.step)⟩
   rw [if_neg c7] at H
   have aQ : (a0 == 4) = false := bf c7
   have aR : (a0 != 4) = true := bne_iff_ne.mpr c7
   by_cases c8 : a0 = 5
   ·rw [if_pos c8] at H
    have aS : (a0 == 5) = true := beq_iff_eq.mpr c8
    have aT : (a0 != 5) = false := bn c8
    clear c8
    obtain rfl := Option.some.inj H
    go_wp2
    go_ret
    exact ⟨by first | rfl | (simp; done) | (simp [*]; done), by repeat (first | exact qAy.refl _ | apply qAy.step)⟩
   rw [if_neg c8] at H
   have aS : (a0 == 5) = false := bf c8
   have aT : (a0 != 5) = true := bne_iff_ne.mpr c8
   by_cases c9 : a0 = 8
   ·rw [if_pos c9] at H
    have aU : (a0 == 8) = true := beq_iff_eq.mpr c9
    have aV : (a0 != 8) = false := bn c9
    clear c9
    obtain rfl := Option.some.inj H
    go_wp2
    go_ret
    exact ⟨by first | rfl | (simp; done) | (simp [*]; done), by repeat (first | exact qAy.refl _ | apply qAy.step)⟩
   rw [if_neg c9] at H
   have aU : (a0 == 8) = false := bf c9
   have aV : (a0 != 8) = true := bne_iff_ne.mpr c9
   by_cases c10 : a0 = 9
   ·rw [if_pos c10] at H
    have aE : (a0 == 9) = true := beq_iff_eq.mpr c10
    have aF : (a0 != 9) = false := bn c10
    clear c10
    obtain rfl := Option.some.inj H
    go_wp2
    go_ret
    exact ⟨by first | rfl | (simp; done) | (simp [*]; done), by repeat (first | exact qAy.refl _ | apply qAy.step)⟩
   rw [if_neg c10] at H
   have aE : (a0 == 9) = false := bf c10
   have aF : (a0 != 9) = true := bne_iff_ne.mpr c10
   by_cases aC : a0 = 10
   ·rw [if_pos aC] at H
    have aG : (a0 == 10) = true := beq_iff_eq.mpr aC
    have aH : (a0 != 10) = false := bn aC
    clear aC
    obtain rfl := Option.some.inj H
    go_wp2
    go_ret
    exact ⟨by first | rfl | (simp; done) | (simp [*]; done), by repeat (first | exact qAy.refl _ | apply qAy.step)⟩
   rw [if_neg aC] at H
   have aG : (a0 == 10) = false := bf aC
   have aH : (a0 != 10) = true := bne_iff_ne.mpr aC
   by_cases aD : a0 = 15
   rotate_left
   ·rw [if_neg aD] at H
    have aI : (a0 == 15) = false := bf aD
    have aJ : (a0 != 15) = true := bne_iff_ne.mpr aD
    obtain rfl := Option.some.inj H
    go_wp2
    go_ret
    exact ⟨by first | rfl | (simp; done) | (simp [*]; done), by repeat (first | exact qAy.refl _ | apply qAy.step)⟩
   rw [if_pos aD] at H
   have aI : (a0 == 15) = true := beq_iff_eq.mpr aD
   have aJ : (a0 != 15) = false := bn aD
   clear aD
   obtain rfl := Option.some.inj H
   go_wp2
   go_ret
   exact ⟨by first | rfl | (simp; done) | (simp [*]; done), by repeat (first | exact qAy.refl _ | apply qAy.step)⟩
end Q
end
section
namespace Q
open Go.RowKit YA YC YB
open Val Ins Tbl RIns
namespace Flt
theorem nmB_at (m : Nat) (h : m < 18) : (#[.string ⟨#[]⟩, .string ⟨#[112, 117, 115, 104]⟩, .string ⟨#[103, 101, 116]⟩, .string ⟨#[112, 117, 116]⟩, .string ⟨#[108, 111, 97, 100]⟩, .string ⟨#[115, 116, 111, 114, 101]⟩, .string ⟨#[117, 110]⟩, .string ⟨#[98, 105, 110]⟩, .string ⟨#[106, 117, 109, 112]⟩, .string ⟨#[117, 110, 108, 101, 115, 115]⟩, .string ⟨#[99, 97, 108, 108]⟩, .string ⟨#[114, 101, 116, 117, 114, 110]⟩, .string ⟨#[115, 104, 111, 119]⟩, .string ⟨#[102, 97, 105, 108]⟩, .string ⟨#[105, 110, 112, 117, 116]⟩, .string ⟨#[116, 114, 121]⟩, .string ⟨#[117, 110, 116, 114, 121]⟩, .string ⟨#[100, 114, 111, 112]⟩] : Array Value)[m]? = some (.string (nmB (m : Int))) := by
 have : m = 0 ∨ m = 1 ∨ m = 2 ∨ m = 3 ∨ m = 4 ∨ m = 5 ∨ m = 6 ∨ m = 7 ∨ m = 8 ∨ m = 9 ∨ m = 10 ∨ m = 11 ∨ m = 12 ∨ m = 13 ∨ m = 14 ∨ m = 15 ∨ m = 16 ∨ m = 17 := by omega
 rcases this with rfl | rfl | rfl | rfl | rfl | rfl | rfl | rfl | rfl | rfl | rfl | rfl | rfl | rfl | rfl | rfl | rfl | rfl <;> rfl
theorem runB_at (m : Nat) (h0 : 1 ≤ m) (h : m < 5) : (#[.string ⟨#[]⟩, .string ⟨#[110, 101, 103]⟩, .string ⟨#[110, 111, 116]⟩, .string ⟨#[105, 110, 116]⟩, .string ⟨#[102, 108, 111, 97, 116]⟩] : Array Value)[m]? = some (.string (unB (m : Int))) := by
 have : m = 0 ∨ m = 1 ∨ m = 2 ∨ m = 3 ∨ m = 4 := by omega
 rcases this with rfl | rfl | rfl | rfl | rfl
 ·omega
 all_goals rfl
theorem rbiB_at (m : Nat) (h0 : 1 ≤ m) (h : m < 12) : (#[.string ⟨#[]⟩, .string ⟨#[43]⟩, .string ⟨#[45]⟩, .string ⟨#[42]⟩, .string ⟨#[47]⟩, .string ⟨#[37]⟩, .string ⟨#[61, 61]⟩, .string ⟨#[33, 61]⟩, .string ⟨#[60]⟩, .string ⟨#[60, 61]⟩, .string ⟨#[62]⟩, .string ⟨#[62, 61]⟩] : Array Value)[m]? = some (.string (biB (m : Int))) := by
 have : m = 0 ∨ m = 1 ∨ m = 2 ∨ m = 3 ∨ m = 4 ∨ m = 5 ∨ m = 6 ∨ m = 7 ∨ m = 8 ∨ m = 9 ∨ m = 10 ∨ m = 11 := by omega
 rcases this with rfl | rfl | rfl | rfl | rfl | rfl | rfl | rfl | rfl | rfl | rfl | rfl
 ·omega
 all_goals rfl
theorem unB_size (m : Nat) (h0 : 1 ≤ m) (h : m < 5) : (unB (m : Int)).size ≤ 10 := by
 have := (unB_at (m - 1) (by omega)).2
 rwa [show ((m - 1 : Nat) : Int) + 1 = m by omega] at this
theorem biB_size (m : Nat) (h0 : 1 ≤ m) (h : m < 12) : (biB (m : Int)).size ≤ 10 := by
 have := (biB_at (m - 1) (by omega)).2
 rwa [show ((m - 1 : Nat) : Int) + 1 = m by omega] at this
theorem width_ev (m : Nat) (h0 : 2 ≤ m) (h : m < 18) : qAw.f 3 (m : Int) = some (wdI (m : Int)) := by
 have : ∀ m : Nat, m < 18 → 2 ≤ m → qAw.f 3 (m : Int) = some (wdI (m : Int)) := by decide +kernel
 exact this m h h0
theorem qCA {W : World} {O : Obj} {g i : Nat} {v : Value} (h : W.cell? ⟨g, i, none⟩ = some v) : (W.alloc O).cell? ⟨g, i, none⟩ = some v := al4 O h
theorem rtext_ok (op n t b : Int) (hok : okI op n t b = true) (hu : U64 b) (w : World) : Calls Tryz.prog 26 #[.agg #[.int .i64 op, .int .i64 n, .int .i64 t, .int .u64 b]] w fun e w' => e = .returned (.string (qBR op n t b)) ∧ Below w.heap.size w w' := by
 obtain ⟨h1, h2, h6, h7, hn0, hn1⟩ := qDk hok
 have hR := fun w => qCE op n t b hu w
 unfold insV at hR
 rw [hok] at hR
 have HR := am hR
 have HTX : qAi (qBR op n t b = _) := ⟨by unfold qBR; rw [if_pos hok]⟩
 obtain ⟨ks, hks⟩ := (rshow_ev t b hu).rounds
 obtain ⟨kd, hkd⟩ := (rdec_ev n (by omega) (by omega)).rounds
 have HSH := am hks
 have HIT := am hkd
 have HNB := am (show -9223372036854775808 ≤ n ∧ n ≤ 9223372036854775807 from ⟨by omega, by omega⟩)
 have HN := am (And.intro h1 (And.intro h2 (And.intro h6 (And.intro h7 hn0))))
 clear hR hok hu h1 h2 h6 h7 hn0 hn1 hks hkd
 go_enter Tryz.func26, Tryz.ntmps26
 go_upto_region 4 with (go_at_call 23; refine (HR.out _).mono ?_; rintro e w1 ⟨rfl, hb1⟩)
 have hB1 : Below w.heap.size w w1 := ((Below.refl _ _).alloc (Nat.le_refl _) _).trans (hb1.mono (by simp))
 have c0 : w1.cell? ⟨w.heap.size, 0, none⟩ = some (.int .i64 op) := (hb1.cell (p := ⟨w.heap.size, 0, none⟩) (by simp)).trans (by rw [World.cell?_alloc_at _ _ _ _ rfl]; rfl)
 have c1 : w1.cell? ⟨w.heap.size, 1, none⟩ = some (.int .i64 n) := (hb1.cell (p := ⟨w.heap.size, 1, none⟩) (by simp)).trans (by rw [World.cell?_alloc_at _ _ _ _ rfl]; rfl)
 have c2 : w1.cell? ⟨w.heap.size, 2, none⟩ = some (.int .i64 t) := (hb1.cell (p := ⟨w.heap.size, 2, none⟩) (by simp)).trans (by rw [World.cell?_alloc_at _ _ _ _ rfl]; rfl)
 have c3 : w1.cell? ⟨w.heap.size, 3, none⟩ = some (.int .u64 b) := (hb1.cell (p := ⟨w.heap.size, 3, none⟩) (by simp)).trans (by rw [World.cell?_alloc_at _ _ _ _ rfl]; rfl)
 obtain ⟨N, hN⟩ : ∃ N, N = w.heap.size := ⟨_, rfl⟩
 rw [← hN] at c0 c1 c2 c3 ⊢
 clear hb1 HR
 have hop1 := HN.out.1
 have hop2 := HN.out.2.1
 obtain ⟨m, rfl⟩ := Int.eq_ofNat_of_zero_le (show 0 ≤ op by omega)
 have hm18 : m < 18 := by omega
 have hmi : (m : Int) < 18 := by omega
 have hm0 : 0 ≤ (m : Int) := by omega
 obtain ⟨g, hg⟩ : ∃ g, g = w1.heap.size := ⟨_, rfl⟩
 obtain ⟨W2, hW2⟩ : ∃ W2, W2 = w1.alloc (.cells #[.string ⟨#[]⟩, .string ⟨#[112, 117, 115, 104]⟩, .string ⟨#[103, 101, 116]⟩, .string ⟨#[112, 117, 116]⟩, .string ⟨#[108, 111, 97, 100]⟩, .string ⟨#[115, 116, 111, 114, 101]⟩, .string ⟨#[117, 110]⟩, .string ⟨#[98, 105, 110]⟩, .string ⟨#[106, 117, 109, 112]⟩, .string ⟨#[117, 110, 108, 101, 115, 115]⟩, .string ⟨#[99, 97, 108, 108]⟩, .string ⟨#[114, 101, 116, 117, 114, 110]⟩, .string ⟨#[115, 104, 111, 119]⟩, .string ⟨#[102, 97, 105, 108]⟩, .string ⟨#[105, 110, 112, 117, 116]⟩, .string ⟨#[116, 114, 121]⟩, .string ⟨#[117, 110, 116, 114, 121]⟩, .string ⟨#[100, 114, 111, 112]⟩] 107) := ⟨_, rfl⟩
 have hrow : W2.cell? ⟨g, m, none⟩ = some (.string (nmB (m : Int))) := by rw [hW2, hg, World.cell?_alloc_at _ _ _ _ rfl]; exact nmB_at m hm18
 have e0 : W2.cell? ⟨N, 0, none⟩ = some (.int .i64 (m : Int)) := by rw [hW2]; exact qCA c0
 have e1 : W2.cell? ⟨N, 1, none⟩ = some (.int .i64 n) := by rw [hW2]; exact qCA c1
 have e2 : W2.cell? ⟨N, 2, none⟩ = some (.int .i64 t) := by rw [hW2]; exact qCA c2
 have e3 : W2.cell? ⟨N, 3, none⟩ = some (.int .u64 b) := by rw [hW2]; exact qCA c3
 have HBW : qAi (Below w.heap.size w W2) := ⟨by rw [hW2]; exact hB1.alloc hB1.size _⟩
 rw [← hW2, ← hg]
 have hNW : N < W2.heap.size := World.block_lt_of_cell? _ _ e0
 have hNn := hN
 clear hW2 hg c0 c1 c2 c3 hB1 hN
 have hsz := qCD (m : Int)
 obtain ⟨nm, hnm⟩ : ∃ nm, nm = nmB (m : Int) := ⟨_, rfl⟩
 have HTX2 := HTX.out
 have HNN := am hNn
 rw [← hnm] at hrow hsz HTX2
 clear HTX hNn
 by_cases o1 : (m : Int) = 1
 ·have hm1 : m = 1 := by omega
  rw [if_pos o1, ← o1, ← hnm] at HTX2
  obtain ⟨sb, hsb⟩ : ∃ sb, sb = qCp t b := ⟨_, rfl⟩
  have hss := qCG t b
  rw [← hsb] at HSH HTX2 hss
  have hz1 : nm.size + 1 ≤ 9223372036854775807 := by omega
  have hz2 : (9223372036854775807 < nm.size + 1) = False := eq_false (by omega)
  have hz3 : nm.size + 1 + sb.size ≤ 9223372036854775807 := by omega
  have hz4 : (9223372036854775807 < nm.size + 1 + sb.size) = False := eq_false (by omega)
  have HE := am HTX2
  have cb : ((m : Int) == 1) = true := beq_iff_eq.mpr o1
  clear HTX2 hsb hss hsz HIT HN hnm o1 hop1 hop2
  clear hm1
  go_wp2_with (go_at_call 52; refine (qBa.calls ks t b sb _ HSH.out).mono ?_; rintro e w4 ⟨rfl, hb4⟩)
  go_ret
  exact ⟨by rw [HE.out]; rfl, HBW.out.trans (hb4.mono HBW.out.size)⟩
 have cb1 : ((m : Int) == 1) = false := beq_eq_false_iff_ne.mpr o1
 rw [if_neg o1] at HTX2
 by_cases o6 : (m : Int) = 6
 ·have cb : ((m : Int) == 6) = true := beq_iff_eq.mpr o6
  rw [if_pos o6, ← o6, ← hnm] at HTX2
  obtain ⟨k1, k2⟩ := HN.out.2.2.1 o6
  obtain ⟨j, rfl⟩ := Int.eq_ofNat_of_zero_le (show 0 ≤ n by omega)
  have hj0 : 1 ≤ j := by omega
  have hj : j < 5 := by omega
  have hji : (j : Int) < 5 := by omega
  have hj00 : 0 ≤ (j : Int) := by omega
  have hub := runB_at j hj0 hj
  have hss := unB_size j hj0 hj
  obtain ⟨sb, hsb⟩ : ∃ sb, sb = unB (j : Int) := ⟨_, rfl⟩
  rw [← hsb] at HTX2 hub hss
  have hz1 : nm.size + 1 ≤ 9223372036854775807 := by omega
  have hz2 : (9223372036854775807 < nm.size + 1) = False := eq_false (by omega)
  have hz3 : nm.size + 1 + sb.size ≤ 9223372036854775807 := by omega
  have hz4 : (9223372036854775807 < nm.size + 1 + sb.size) = False := eq_false (by omega)
  have HE := am HTX2
  have HUB := am hub
  clear HTX2 hsb hss hsz HIT HSH HN hnm o1 o6 k1 k2 hop1 hop2 hub hj0 hj
  go_upto_region 9 with (fail)
  have hnew : (W2.alloc (.cells #[.string ⟨#[]⟩, .string ⟨#[110, 101, 103]⟩, .string ⟨#[110, 111, 116]⟩, .string ⟨#[105, 110, 116]⟩, .string ⟨#[102, 108, 111, 97, 116]⟩] 108)).cell? ⟨W2.heap.size, j, none⟩ = some (.string sb) := by rw [World.cell?_alloc_at _ _ _ _ rfl]; exact HUB.out
  have f1 : (W2.alloc (.cells #[.string ⟨#[]⟩, .string ⟨#[110, 101, 103]⟩, .string ⟨#[110, 111, 116]⟩, .string ⟨#[105, 110, 116]⟩, .string ⟨#[102, 108, 111, 97, 116]⟩] 108)).cell? ⟨N, 1, none⟩ = some (.int .i64 (j : Int)) := qCA e1
  obtain ⟨W3, hW3⟩ : ∃ W3, W3 = W2.alloc (.cells #[.string ⟨#[]⟩, .string ⟨#[110, 101, 103]⟩, .string ⟨#[110, 111, 116]⟩, .string ⟨#[105, 110, 116]⟩, .string ⟨#[102, 108, 111, 97, 116]⟩] 108) := ⟨_, rfl⟩
  have HB3 : qAi (Below w.heap.size w W3) := ⟨by rw [hW3]; exact HBW.out.alloc HBW.out.size _⟩
  rw [← hW3] at hnew f1 ⊢
  clear hW3
  go_wp2_with fail
  go_ret
  exact ⟨by rw [HE.out]; rfl, HB3.out⟩
 have cb6 : ((m : Int) == 6) = false := beq_eq_false_iff_ne.mpr o6
 rw [if_neg o6] at HTX2
 by_cases o7 : (m : Int) = 7
 ·have cb : ((m : Int) == 7) = true := beq_iff_eq.mpr o7
  rw [if_pos o7, ← o7, ← hnm] at HTX2
  obtain ⟨k1, k2⟩ := HN.out.2.2.2.1 o7
  obtain ⟨j, rfl⟩ := Int.eq_ofNat_of_zero_le (show 0 ≤ n by omega)
  have hj0 : 1 ≤ j := by omega
  have hj : j < 12 := by omega
  have hji : (j : Int) < 12 := by omega
  have hj00 : 0 ≤ (j : Int) := by omega
  have hub := rbiB_at j hj0 hj
  have hss := biB_size j hj0 hj
  obtain ⟨sb, hsb⟩ : ∃ sb, sb = biB (j : Int) := ⟨_, rfl⟩
  rw [← hsb] at HTX2 hub hss
  have hz1 : nm.size + 1 ≤ 9223372036854775807 := by omega
  have hz2 : (9223372036854775807 < nm.size + 1) = False := eq_false (by omega)
  have hz3 : nm.size + 1 + sb.size ≤ 9223372036854775807 := by omega
  have hz4 : (9223372036854775807 < nm.size + 1 + sb.size) = False := eq_false (by omega)
  have HE := am HTX2
  have HUB := am hub
  clear HTX2 hsb hss hsz HIT HSH HN hnm o1 o6 o7 k1 k2 hop1 hop2 hub hj0 hj
  go_upto_region 12 with (fail)
  have hnew : (W2.alloc (.cells #[.string ⟨#[]⟩, .string ⟨#[43]⟩, .string ⟨#[45]⟩, .string ⟨#[42]⟩, .string ⟨#[47]⟩, .string ⟨#[37]⟩, .string ⟨#[61, 61]⟩, .string ⟨#[33, 61]⟩, .string ⟨#[60]⟩, .string ⟨#[60, 61]⟩, .string ⟨#[62]⟩, .string ⟨#[62, 61]⟩] 109)).cell? ⟨W2.heap.size, j, none⟩ = some (.string sb) := by rw [World.cell?_alloc_at _ _ _ _ rfl]; exact HUB.out
  have f1 : (W2.alloc (.cells #[.string ⟨#[]⟩, .string ⟨#[43]⟩, .string ⟨#[45]⟩, .string ⟨#[42]⟩, .string ⟨#[47]⟩, .string ⟨#[37]⟩, .string ⟨#[61, 61]⟩, .string ⟨#[33, 61]⟩, .string ⟨#[60]⟩, .string ⟨#[60, 61]⟩, .string ⟨#[62]⟩, .string ⟨#[62, 61]⟩] 109)).cell? ⟨N, 1, none⟩ = some (.int .i64 (j : Int)) := qCA e1
  obtain ⟨W3, hW3⟩ : ∃ W3, W3 = W2.alloc (.cells #[.string ⟨#[]⟩, .string ⟨#[43]⟩, .string ⟨#[45]⟩, .string ⟨#[42]⟩, .string ⟨#[47]⟩, .string ⟨#[37]⟩, .string ⟨#[61, 61]⟩, .string ⟨#[33, 61]⟩, .string ⟨#[60]⟩, .string ⟨#[60, 61]⟩, .string ⟨#[62]⟩, .string ⟨#[62, 61]⟩] 109) := ⟨_, rfl⟩
  have HB3 : qAi (Below w.heap.size w W3) := ⟨by rw [hW3]; exact HBW.out.alloc HBW.out.size _⟩
  rw [← hW3] at hnew f1 ⊢
  clear hW3
  go_wp2_with fail
  go_ret
  exact ⟨by rw [HE.out]; rfl, HB3.out⟩
 have cb7 : ((m : Int) == 7) = false := beq_eq_false_iff_ne.mpr o7
 rw [if_neg o7] at HTX2
 obtain ⟨wd, hwd⟩ : ∃ wd, wd = wdI (m : Int) := ⟨_, rfl⟩
 have hwf := width_ev m (by omega) hm18
 rw [← hwd] at hwf HTX2
 have HWF := am hwf
 by_cases ow : 0 < wd
 rotate_left
 ·have cbw := decide_eq_false ow
  rw [if_neg ow] at HTX2
  have HE := am HTX2
  clear HTX2 hsz HSH HN hnm o1 o6 o7 hop1 hop2 hwf hwd ow
  go_wp2_with (go_at_call 51; refine (qAw.calls 3 (m : Int) wd _ HWF.out).mono ?_; rintro e w4 ⟨rfl, ⟨nd, rfl⟩⟩)
  go_ret
  exact ⟨by rw [HE.out]; rfl, qAa HBW.out nd⟩
 have cbw := decide_eq_true ow
 rw [if_pos ow] at HTX2
 have hss := qB6 n HNB.out.1 HNB.out.2
 obtain ⟨sb, hsb⟩ : ∃ sb, sb = itoB n := ⟨_, rfl⟩
 rw [← hsb] at HTX2 HIT hss
 have hz1 : nm.size + 1 ≤ 9223372036854775807 := by omega
 have hz2 : (9223372036854775807 < nm.size + 1) = False := eq_false (by omega)
 have hz3 : nm.size + 1 + sb.size ≤ 9223372036854775807 := by omega
 have hz4 : (9223372036854775807 < nm.size + 1 + sb.size) = False := eq_false (by omega)
 have HE := am HTX2
 clear HTX2 hsb hss hsz HSH HN hnm o1 o6 o7 hop1 hop2 hwf hwd ow
 go_wp2_with (first | (go_at_call 51; refine (qAw.calls 3 (m : Int) wd _ HWF.out).mono ?_; rintro e w4 ⟨rfl, ⟨nd, rfl⟩⟩) | (go_at_call 53; refine (qAh.calls kd n sb _ HIT.out).mono ?_; rintro e w5 ⟨rfl, hb5⟩))
 go_ret
 exact ⟨by rw [HE.out]; rfl, (qAa HBW.out nd).trans (hb5.mono HBW.out.size)⟩
end Flt
namespace Flt
theorem textI_no {op n t b : Int} (h : okI op n t b = false) : qBR op n t b = ⟨#[]⟩ := by unfold qBR; rw [if_neg (by simp [h])]
theorem text_no (op n t b : Int) (hok : okI op n t b = false) (hu : U64 b) (w : World) : Calls Tryz.prog 20 #[.agg #[.int .i64 op, .int .i64 n, .int .i64 t, .int .u64 b]] w fun e w' => e = .returned (.string (qBR op n t b)) ∧ Below w.heap.size w w' := by
 rw [textI_no hok]
 have hR := fun w => qBY op n t b hu w
 unfold insV at hR
 rw [hok] at hR
 have HR := am hR
 clear hR hok hu
 go_enter Tryz.func20, Tryz.ntmps20
 go_wp2_with (go_at_call 18; refine (HR.out _).mono ?_; rintro e w1 ⟨rfl, hb1⟩)
 go_ret
 exact ⟨rfl, ((Below.refl _ _).alloc (Nat.le_refl _) _).trans (hb1.mono (by simp))⟩
theorem rtext_no (op n t b : Int) (hok : okI op n t b = false) (hu : U64 b) (w : World) : Calls Tryz.prog 26 #[.agg #[.int .i64 op, .int .i64 n, .int .i64 t, .int .u64 b]] w fun e w' => e = .returned (.string (qBR op n t b)) ∧ Below w.heap.size w w' := by
 rw [textI_no hok]
 have hR := fun w => qCE op n t b hu w
 unfold insV at hR
 rw [hok] at hR
 have HR := am hR
 clear hR hok hu
 go_enter Tryz.func26, Tryz.ntmps26
 go_wp2_with (go_at_call 23; refine (HR.out _).mono ?_; rintro e w1 ⟨rfl, hb1⟩)
 go_ret
 exact ⟨rfl, ((Below.refl _ _).alloc (Nat.le_refl _) _).trans (hb1.mono (by simp))⟩
end Flt
open Flt
def qCf.f (a0_0 : Int) (a0_1 : Int) (a0_2 : Int) (a0_3 : Int) : Option ByteArray := if 0 ≤ a0_3 ∧ a0_3 < 18446744073709551616 then some (qBR a0_0 a0_1 a0_2 a0_3) else none
theorem qCf.calls (a0_0 : Int) (a0_1 : Int) (a0_2 : Int) (a0_3 : Int) (r : ByteArray) (w : World) (h : qCf.f a0_0 a0_1 a0_2 a0_3 = some r) (hT : Tb w) :
  Calls Tryz.prog 20 #[.agg #[.int .i64 a0_0, .int .i64 a0_1, .int .i64 a0_2, .int .u64 a0_3]] w fun e w' => e = .returned (.string r) ∧ Below w.heap.size w w' := by
 unfold qCf.f at h
 split at h
 ·rename_i hu
  injection h with h
  subst h
  cases hok : okI a0_0 a0_1 a0_2 a0_3 with
  | true => exact text_ok a0_0 a0_1 a0_2 a0_3 hok hu w hT
  | false => exact text_no a0_0 a0_1 a0_2 a0_3 hok hu w
 ·cases h
def qBk.f (a0_0 : Int) (a0_1 : Int) (a0_2 : Int) (a0_3 : Int) : Option ByteArray := if 0 ≤ a0_3 ∧ a0_3 < 18446744073709551616 then some (qBR a0_0 a0_1 a0_2 a0_3) else none
theorem qBk.calls (a0_0 : Int) (a0_1 : Int) (a0_2 : Int) (a0_3 : Int) (r : ByteArray) (w : World) (h : qBk.f a0_0 a0_1 a0_2 a0_3 = some r) :
  Calls Tryz.prog 26 #[.agg #[.int .i64 a0_0, .int .i64 a0_1, .int .i64 a0_2, .int .u64 a0_3]] w fun e w' => e = .returned (.string r) ∧ Below w.heap.size w w' := by
 unfold qBk.f at h
 split at h
 ·rename_i hu
  injection h with h
  subst h
  cases hok : okI a0_0 a0_1 a0_2 a0_3 with
  | true => exact rtext_ok a0_0 a0_1 a0_2 a0_3 hok hu w
  | false => exact rtext_no a0_0 a0_1 a0_2 a0_3 hok hu w
 ·cases h
end Q
end
end Go.Proofs.YtfddibbignedkaaGreatDoor
