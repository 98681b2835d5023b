/- The contract of types.Text at an item that is a function: the text that it hands back; what was there before stays. -/
import Derived.Test.YtakchlfojeefaaaDoorTy1
import Derived.Test.YtakchlfojeefaaaDoorShelf
import Derived.Test.YtakchlfojeefaaaDoorBase
import Derived.Deep.RegionHeld3
namespace Go.Proofs.YtakchlfojeefaaaDoor.Txt
open Go.RowKit Ty1 Base

theorem infoStr : (Tryd.prog.info? 9).map (fun i => (i.zero, i.size, i.bytes)) = some (some (.string ⟨#[]⟩), 1, 16) := by kernel_rfl

/-- strings.Join of a row of texts that the call itself made. -/
theorem join_own (v : Value) (n : Nat) (xs : List ByteArray) (sep : ByteArray) (base : Nat) (w : World) (hown : w.ownsRow base 9 1 v n (xs.map Value.string)) (hn : xs.length ≤ 1000000)
    (hlen : (Lib.join (xs.map (·.data.toList)) sep.data.toList).length ≤ 140737488355328) :
    Calls Tryd.prog 13 #[v, .string sep] w fun e w' => e = .returned (.string ⟨(Lib.join (xs.map (·.data.toList)) sep.data.toList).toArray⟩) ∧ Below w.heap.size w w' := by
  obtain ⟨hl, h⟩ := hown
  have hl' : xs.length = n := by simpa using hl
  rcases h with ⟨rfl, rfl⟩ | ⟨g, cap, cur, rfl, hb, hg, hc, hm, hs, ht⟩
  · have hx : xs = [] := List.length_eq_zero_iff.mp hl'
    subst hx
    exact (Tryd.strings_Join_none none 0 sep w).mono fun e w' ⟨he, hw⟩ => ⟨he, hw ▸ Below.refl _ _⟩
  · subst hl'
    refine Tryd.strings_Join g 0 cap xs sep w ?_ (Array.getElem?_eq_some_iff.1 hg).1 (by omega) hc hlen
    intro j x hx
    have hrow : w.ownsRow base 9 1 (.slice (some ⟨g, 0, none⟩) xs.length cap) xs.length (xs.map Value.string) := ⟨hl, .inr ⟨g, cap, cur, rfl, hb, hg, hc, hm, hs, ht⟩⟩
    have hcell := hrow.cells rfl j (.string x) (by simp [hx])
    have hadd : (⟨g, 0, none⟩ : Addr).add j = ⟨g, j, none⟩ := by unfold Addr.add; split <;> simp_all
    rw [hadd] at hcell
    simpa using hcell

/-- What stands in the row of names behind k rounds. -/
def nms (ps : List Int) (k : Nat) : List Value := ((ps.take k).map nameB).map Value.string
theorem nms_zero (ps : List Int) : nms ps 0 = [] := rfl
theorem nms_succ (ps : List Int) (k : Nat) (hk : k < ps.length) : nms ps (k + 1) = nms ps k ++ [.string (nameB (ps.getD k 0))] := by
  unfold nms
  rw [map_take_succ _ ps k 0 hk, List.map_append]; rfl

/-- The parameters of a function, as Text joins them. -/
def joined (ps : List Int) : List UInt8 := Lib.join ((ps.map nameB).map (·.data.toList)) [44, 32]

/-- The text of a function. -/
def textFn (nm : ByteArray) (ty : Int) (ps : List Int) : ByteArray :=
  if 1 ≤ ty ∧ ty ≤ 3 then ⟨#[102, 110, 32]⟩ ++ nm ++ ⟨#[40]⟩ ++ ⟨(joined ps).toArray⟩ ++ ⟨#[41]⟩ ++ (⟨#[58, 32]⟩ ++ nameB ty)
  else ⟨#[102, 110, 32]⟩ ++ nm ++ ⟨#[40]⟩ ++ ⟨(joined ps).toArray⟩ ++ ⟨#[41]⟩

set_option maxHeartbeats 1000000 in
set_option maxRecDepth 100000 in
theorem text_fn (nm : ByteArray) (ty bits : Int) (b off c : Nat) (ps : List Int) (w : World) (hb : b < w.heap.size)
    (hc : ∀ j, j < ps.length → w.cell? ⟨b, off + j, none⟩ = some (.int .i64 (ps.getD j 0))) (hl : ps.length ≤ 1000000) (hj : (joined ps).length ≤ 100000000) (hnm : nm.size ≤ 100000000) :
    Calls Tryd.prog 9 #[.agg #[.int .i64 3, .string nm, .int .i64 ty, .int .u64 bits, .slice (some ⟨b, off, none⟩) ps.length c]] w fun e w' => e = .returned (.string (textFn nm ty ps)) ∧ Below w.heap.size w w' := by
  obtain ⟨i0, hi, hz0, hz1, hz2⟩ := info_parts infoStr
  go_enter Tryd.func9, Tryd.ntmps9
  go_wp2_with fail
  obtain ⟨W1, hW1⟩ : ∃ W1, W1 = w.alloc (.cells #[.int .i64 3, .string nm, .int .i64 ty, .int .u64 bits, .slice (some ⟨b, off, none⟩) ps.length c] 36) := ⟨_, rfl⟩
  have hc1 : ∀ j, j < ps.length → W1.cell? ⟨b, off + j, none⟩ = some (.int .i64 (ps.getD j 0)) := fun j hj => by
    rw [hW1, World.cell?_alloc_past _ _ _ hb]; exact hc j hj
  have hs1 : W1.heap.size = w.heap.size + 1 := by rw [hW1]; simp
  have hf1 : W1.cell? ⟨w.heap.size, 1, none⟩ = some (.string nm) := by rw [hW1, World.cell?_alloc_at _ _ _ _ rfl]; rfl
  have hf2 : W1.cell? ⟨w.heap.size, 2, none⟩ = some (.int .i64 ty) := by rw [hW1, World.cell?_alloc_at _ _ _ _ rfl]; rfl
  have hB1 : Below w.heap.size w W1 := by rw [hW1]; exact (Below.refl _ _).alloc (Nat.le_refl _) _
  rw [← hW1]
  have HS := hid hs1
  have HC := hid hc
  have HC1 := hid hc1
  have HF1 := hid hf1
  have HF2 := hid hf2
  clear hs1 hW1 hc hc1 hf1 hf2
  go_loopw [3, 32] (fun v i wr => ∃ k : Nat, k ≤ ps.length ∧ i = .int .i64 k ∧ wr.ownsRow W1.heap.size 9 1 v k (nms ps k) ∧ Below W1.heap.size W1 wr) (fun _ i _ => ps.length - (intOf i).toNat)
  case atStart => exact ⟨0, Nat.zero_le _, rfl, World.ownsRow_nil _ _ _ _, Below.refl _ _⟩
  case round =>
    obtain ⟨k, hk, rfl, hown, hbel⟩ := hrel
    by_cases hlt : k < ps.length
    · obtain ⟨x, hx⟩ : ∃ x, x = ps.getD k 0 := ⟨_, rfl⟩
      have hcell : wr.cell? ⟨b, off + k, none⟩ = some (.int .i64 x) := by
        rw [hbel.cell (p := ⟨b, off + k, none⟩) (by show b < _; rw [HS.out]; omega), hx]; exact HC1.out k hlt
      have HX := hid hx
      clear hx
      go_wp2_with (first | (go_at_call 6; refine (name_any _ _).mono ?_; rintro e w' ⟨rfl, rfl⟩) | (at_builtin; refine wpList_append_own _ rfl _ _ 43 rfl W1.heap.size 9 i0 (.string ⟨#[]⟩) 1 16 Tryd.underlying43 hi hz0 hz1 hz2 rfl (by decide) _ _ _ rfl (hown.alloc _) ⟨wr.heap.size, 0, none⟩ 1 1 [.string (nameB x)] rfl rfl ?c1 ?c2 ?c3 ?c4 ?c5 ?_))
      case c1 => exact cell_one_new _ _ _
      case c2 => simp [Value.oneCell']
      case c3 => unfold maxLen; omega
      case c4 => omega
      case c5 => simp; have := hbel.size; omega
      intro v' w1 hown' hgrow _
      have hown2 : w1.ownsRow W1.heap.size 9 1 v' (k + 1) (nms ps (k + 1)) := by rw [nms_succ ps k hlt, ← HX.out]; exact hown'
      have hbel2 : Below W1.heap.size W1 w1 := (hbel.alloc hbel.size _).grown hgrow (by simp; have := hbel.size; omega) (fun j hj => (hown.lt j hj).1)
      clear hown' hgrow hown hbel hcell
      go_wp2
      go_roundw
      case rel => exact ⟨k + 1, by omega, by go_num, hown2, hbel2⟩
      case measure => simp [intOf]; omega
    · have hkk : k = ps.length := by omega
      subst hkk
      have hsz := hbel.size
      have hg1 : wr.cell? ⟨w.heap.size, 1, none⟩ = some (.string nm) := by rw [hbel.cell (p := ⟨w.heap.size, 1, none⟩) (by show w.heap.size < _; rw [HS.out]; omega)]; exact HF1.out
      have hg2 : wr.cell? ⟨w.heap.size, 2, none⟩ = some (.int .i64 ty) := by rw [hbel.cell (p := ⟨w.heap.size, 2, none⟩) (by show w.heap.size < _; rw [HS.out]; omega)]; exact HF2.out
      have hrow : wr.ownsRow W1.heap.size 9 1 u3 ps.length ((ps.map nameB).map Value.string) := by
        have h := hown
        unfold nms at h
        rw [List.take_length] at h
        exact h
      clear hown
      have hlen : (ps.map nameB).length ≤ 1000000 := by simpa using hl
      have hjl : (Lib.join ((ps.map nameB).map (·.data.toList)) (⟨#[44, 32]⟩ : ByteArray).data.toList).length ≤ 140737488355328 := Nat.le_trans hj (by omega)
      obtain ⟨x1, hx1⟩ : ∃ x, x = (⟨#[102, 110, 32]⟩ : ByteArray) ++ nm := ⟨_, rfl⟩
      obtain ⟨x2, hx2⟩ : ∃ x, x = x1 ++ (⟨#[40]⟩ : ByteArray) := ⟨_, rfl⟩
      obtain ⟨jj, hjj⟩ : ∃ x : ByteArray, x = ⟨(joined ps).toArray⟩ := ⟨_, rfl⟩
      obtain ⟨x3, hx3⟩ : ∃ x, x = x2 ++ jj := ⟨_, rfl⟩
      obtain ⟨x4, hx4⟩ : ∃ x, x = x3 ++ (⟨#[41]⟩ : ByteArray) := ⟨_, rfl⟩
      have z1 : x1.size = 3 + nm.size := by rw [hx1, ByteArray.size_append]; rfl
      have z2 : x2.size = x1.size + 1 := by rw [hx2, ByteArray.size_append]; rfl
      have zj : jj.size = (joined ps).length := by rw [hjj]; simp [ByteArray.size]
      have z3 : x3.size = x2.size + jj.size := by rw [hx3, ByteArray.size_append]
      have z4 : x4.size = x3.size + 1 := by rw [hx4, ByteArray.size_append]; rfl
      have s1 : ∀ w, (Op.stringOp .add (⟨#[102, 110, 32]⟩ : ByteArray) nm).run Tryd.prog w = .ok (.string x1) w := fun w => by
        rw [run_string_add_sum w _ _ (by show 3 + nm.size ≤ _; omega), hx1]
      have s2 : ∀ w, (Op.stringOp .add x1 (⟨#[40]⟩ : ByteArray)).run Tryd.prog w = .ok (.string x2) w := fun w => by
        rw [run_string_add_sum w _ _ (by show x1.size + 1 ≤ _; omega), hx2]
      have s3 : ∀ w, (Op.stringOp .add x2 jj).run Tryd.prog w = .ok (.string x3) w := fun w => by
        rw [run_string_add_sum w _ _ (by omega), hx3]
      have s4 : ∀ w, (Op.stringOp .add x3 (⟨#[41]⟩ : ByteArray)).run Tryd.prog w = .ok (.string x4) w := fun w => by
        rw [run_string_add_sum w _ _ (by show x3.size + 1 ≤ _; omega), hx4]
      have HJ : Hid (∀ W : World, W.ownsRow W1.heap.size 9 1 u3 ps.length ((ps.map nameB).map Value.string) → Calls Tryd.prog 13 #[u3, .string ⟨#[44, 32]⟩] W fun e w' => e = .returned (.string jj) ∧ Below W.heap.size W w') := hid fun W h => by
        rw [hjj]; exact join_own _ _ (ps.map nameB) ⟨#[44, 32]⟩ W1.heap.size W h hlen hjl
      have HX : Hid (x4 = (⟨#[102, 110, 32]⟩ : ByteArray) ++ nm ++ ⟨#[40]⟩ ++ ⟨(joined ps).toArray⟩ ++ ⟨#[41]⟩) := hid (by rw [hx4, hx3, hx2, hx1, hjj])
      have HZ := hid (show x4.size ≤ 400000000 by omega)
      have HR := hid hrow
      clear hx1 hx2 hx3 hx4 hjj z1 z2 z3 z4 zj hjl hlen hj hnm hrow
      go_wp2_with fail
      go_region_held3 (fun w' => w'.cell? ⟨w.heap.size, 1, none⟩ = some (.string nm) ∧ w'.cell? ⟨w.heap.size, 2, none⟩ = some (.int .i64 ty))
        (first | go_keep | exact ⟨(hbj.cell (p := ⟨w.heap.size, 1, none⟩) (by simp; have := HS.out; omega)).trans (by simpa using hg1), (hbj.cell (p := ⟨w.heap.size, 2, none⟩) (by simp; have := HS.out; omega)).trans (by simpa using hg2)⟩)
        (first | (go_at_call 13; refine (HJ.out _ ?_).mono ?_; (exact HR.out); rintro e w1 ⟨rfl, hbj⟩))
      obtain ⟨hh1, hh2⟩ := (‹_ ∧ _› : w1.cell? ⟨w.heap.size, 1, none⟩ = some (.string nm) ∧ w1.cell? ⟨w.heap.size, 2, none⟩ = some (.int .i64 ty))
      have hBB : Below w.heap.size w w1 := (hB1.trans (hbel.mono (by have := HS.out; omega))).trans (hbj.mono (by simp; have := HS.out; omega) |> fun h => ⟨h.os, h.tape, h.output, h.size, h.block⟩)
      by_cases hv : 1 ≤ ty ∧ ty ≤ 3
      · obtain ⟨v1, v2⟩ := hv
        obtain ⟨y, hy⟩ : ∃ x, x = (⟨#[58, 32]⟩ : ByteArray) ++ nameB ty := ⟨_, rfl⟩
        obtain ⟨x5, hx5⟩ : ∃ x, x = x4 ++ y := ⟨_, rfl⟩
        have zn : (nameB ty).size ≤ 5 := by unfold nameB; split <;> (try split) <;> (try split) <;> decide
        have zy : y.size = 2 + (nameB ty).size := by rw [hy, ByteArray.size_append]; rfl
        have s5 : ∀ w, (Op.stringOp .add (⟨#[58, 32]⟩ : ByteArray) (nameB ty)).run Tryd.prog w = .ok (.string y) w := fun w => by
          rw [run_string_add_sum w _ _ (by show 2 + (nameB ty).size ≤ _; omega), hy]
        have s6 : ∀ w, (Op.stringOp .add x4 y).run Tryd.prog w = .ok (.string x5) w := fun w => by
          rw [run_string_add_sum w _ _ (by have := HZ.out; omega), hx5]
        have hfin : textFn nm ty ps = x5 := by
          unfold textFn
          rw [if_pos ⟨v1, v2⟩, hx5, HX.out, hy]
        have HFIN := hid hfin
        clear hfin hy hx5 zn zy s1 s2 s3 s4
        go_wp2_with (first | (go_at_call 10; refine (valued_yes _ _ v1 v2).mono ?_; rintro e w' ⟨rfl, rfl⟩) | (go_at_call 6; refine (name_any _ _).mono ?_; rintro e w' ⟨rfl, rfl⟩))
        go_ret
        exact ⟨by rw [HFIN.out]; rfl, hBB⟩
      · have hfin : textFn nm ty ps = x4 := by
          unfold textFn
          rw [if_neg hv, HX.out]
        have HFIN := hid hfin
        have hv' : ty < 1 ∨ 3 < ty := by omega
        clear hfin hv s1 s2 s3 s4
        go_wp2_with (first | (go_at_call 10; refine (valued_no _ _ hv').mono ?_; rintro e w' ⟨rfl, rfl⟩))
        go_ret
        exact ⟨by rw [HFIN.out]; rfl, hBB⟩
end Go.Proofs.YtakchlfojeefaaaDoor.Txt
