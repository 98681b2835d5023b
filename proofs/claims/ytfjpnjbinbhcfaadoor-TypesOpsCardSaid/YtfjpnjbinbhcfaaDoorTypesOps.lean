/- The walk of foundrylaw08.TypesOps: it returns true, whatever the operator and the types. -/
import Derived.Test.YtfjpnjbinbhcfaaDoorLive08
import Derived.Test.YtfjpnjbinbhcfaaDoorTy3
namespace Go.Proofs.YtfjpnjbinbhcfaaDoor.Ops
open Go.RowKit Ty1 Ty2 Ty3 Base Live08

set_option maxHeartbeats 1000000 in
set_option maxRecDepth 100000 in
theorem ops_any (op a b : Int) (w : World) : Calls Tryd.prog 3 #[.int .i64 op, .int .i64 a, .int .i64 b] w fun e w' => e = .returned (.bool true) ∧ Below w.heap.size w w' := by
  obtain ⟨u, hu⟩ : ∃ u, u = unary op a := ⟨_, rfl⟩
  obtain ⟨v, hv⟩ : ∃ v, v = binary op a b := ⟨_, rfl⟩
  obtain ⟨u1, u2⟩ := u
  obtain ⟨v1, v2⟩ := v
  have cu : ∀ w, Calls Tryd.prog 4 #[.int .i64 op, .int .i64 a] w fun e w' => e = .returned (.tuple #[.int .i64 u1, .int .i64 u2]) ∧ w = w' := fun w => by
    have h := unary_any op a w; rw [← hu] at h; exact h
  have cru : ∀ w, Calls Tryd.prog 5 #[.int .i64 op, .int .i64 a] w fun e w' => e = .returned (.tuple #[.int .i64 u1, .int .i64 u2]) ∧ w = w' := fun w => by
    have h := runary_any op a w; rw [← hu] at h; exact h
  have cb : ∀ w, Calls Tryd.prog 6 #[.int .i64 op, .int .i64 a, .int .i64 b] w fun e w' => e = .returned (.tuple #[.int .i64 v1, .int .i64 v2]) ∧ w = w' := fun w => by
    have h := binary_any op a b w; rw [← hv] at h; exact h
  have crb : ∀ w, Calls Tryd.prog 7 #[.int .i64 op, .int .i64 a, .int .i64 b] w fun e w' => e = .returned (.tuple #[.int .i64 v1, .int .i64 v2]) ∧ w = w' := fun w => by
    have h := rbinary_any op a b w; rw [← hv] at h; exact h
  have CU := hid cu
  have CRU := hid cru
  have CB := hid cb
  have CRB := hid crb
  clear cu cru cb crb hu hv
  go_enter Tryd.func3, Tryd.ntmps3
  go_wp2_with (first | (go_at_call 4; refine (CU.out _).mono ?_; rintro e w' ⟨rfl, rfl⟩) | (go_at_call 5; refine (CRU.out _).mono ?_; rintro e w' ⟨rfl, rfl⟩) | (go_at_call 6; refine (CB.out _).mono ?_; rintro e w' ⟨rfl, rfl⟩) | (go_at_call 7; refine (CRB.out _).mono ?_; rintro e w' ⟨rfl, rfl⟩) | (go_at_call 8; refine (live_any _).mono ?_; rintro e w1 ⟨rfl, hb1⟩))
  go_ret
  exact ⟨rfl, hb1⟩
end Go.Proofs.YtfjpnjbinbhcfaaDoor.Ops
