/- The contract of foundrylaw08.live: true; what was there before stays. -/
import Derived.Test.YtakchlfojeefaaaDoorText
import Derived.Test.YtakchlfojeefaaaDoorTy2
namespace Go.Proofs.YtakchlfojeefaaaDoor.Live08
open Go.RowKit Ty1 Ty2 Base Txt

theorem right_bool2 (w : World) : Calls Tryd.prog 8 #[.agg #[.int .i64 3, .int .u64 2]] w fun e w' => e = .returned (.bool false) ∧ Below w.heap.size w w' := by
  go_enter Tryd.func8, Tryd.ntmps8
  go_wp2
  go_ret
  exact ⟨rfl, (Below.refl _ _).alloc (Nat.le_refl _) _⟩

theorem text_live (b : Nat) (w : World) (hb : b < w.heap.size) (h0 : w.cell? ⟨b, 0, none⟩ = some (.int .i64 1)) (h1 : w.cell? ⟨b, 1, none⟩ = some (.int .i64 3)) :
    Calls Tryd.prog 9 #[.agg #[.int .i64 3, .string ⟨#[102]⟩, .int .i64 0, .int .u64 0, .slice (some ⟨b, 0, none⟩) 2 2]] w fun e w' => e = .returned (.string ⟨#[102, 110, 32, 102, 40, 105, 110, 116, 44, 32, 98, 111, 111, 108, 41]⟩) ∧ Below w.heap.size w w' := by
  have ht : textFn ⟨#[102]⟩ 0 [1, 3] = ⟨#[102, 110, 32, 102, 40, 105, 110, 116, 44, 32, 98, 111, 111, 108, 41]⟩ := by decide +kernel
  have h := text_fn ⟨#[102]⟩ 0 0 b 0 2 [1, 3] w hb (fun j hj => by
    match j, hj with
    | 0, _ => exact h0
    | 1, _ => exact h1) (by decide) (by decide +kernel) (by decide)
  rw [ht] at h
  exact h

set_option maxHeartbeats 1000000 in
set_option maxRecDepth 100000 in
theorem live_any (w : World) : Calls Tryd.prog 4 #[] w fun e w' => e = .returned (.bool true) ∧ Below w.heap.size w w' := by
  have hu : unary 3 2 = (1, 0) := by decide
  have hb : binary 5 2 2 = (0, 22) := by decide
  have cu : ∀ w, Calls Tryd.prog 7 #[.int .i64 3, .int .i64 2] w fun e w' => e = .returned (.tuple #[.int .i64 1, .int .i64 0]) ∧ w = w' := fun w => by
    have h := unary_any 3 2 w; rw [hu] at h; exact h
  have cb : ∀ w, Calls Tryd.prog 5 #[.int .i64 5, .int .i64 2, .int .i64 2] w fun e w' => e = .returned (.tuple #[.int .i64 0, .int .i64 22]) ∧ w = w' := fun w => by
    have h := binary_any 5 2 2 w; rw [hb] at h; exact h
  have CU := hid cu
  have CB := hid cb
  clear hu hb cu cb
  go_enter Tryd.func4, Tryd.ntmps4
  go_wp2_with (first | (go_at_call 7; refine (CU.out _).mono ?_; rintro e w' ⟨rfl, rfl⟩) | (go_at_call 5; refine (CB.out _).mono ?_; rintro e w' ⟨rfl, rfl⟩) | (go_at_call 6; refine (name_3 _).mono ?_; rintro e w' ⟨rfl, rfl⟩) | (go_at_call 8; refine (right_bool2 _).mono ?_; rintro e w1 ⟨rfl, hb1⟩))
  refine (text_live _ _ (by simp) (World.cell?_alloc_at _ _ _ _ rfl) (World.cell?_alloc_at _ _ _ _ rfl)).mono ?_
  rintro e w2 ⟨rfl, hb2⟩
  go_wp2
  go_ret
  exact ⟨rfl, hb1.trans (((Below.refl _ _).alloc (Nat.le_refl _) _).mono hb1.size |>.trans (hb2.mono (by simp; have := hb1.size; omega)))⟩
end Go.Proofs.YtakchlfojeefaaaDoor.Live08
