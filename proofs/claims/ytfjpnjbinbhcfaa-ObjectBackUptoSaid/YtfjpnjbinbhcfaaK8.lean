/- There and back; unlike objects have unlike bytes. Part 8 of 8. -/
import Derived.Test.YtfjpnjbinbhcfaaK7
import Derived.Test.YtfjpnjbinbhcfaaRows
import Derived.WalkKit
import Derived.ProofKit
import Derived.OpenShut
import Derived.JoinedCond
import Derived.Below
set_option maxHeartbeats 8000000
set_option maxRecDepth 100000
set_option linter.unusedVariables false
set_option linter.unusedSimpArgs false
namespace Go.Proofs.Ytfjpnjbinbhcfaa
section
namespace objectBack
open Go.ChangeShapes Go.WideShapes Go.ChangeAt Go.RowKit
theorem own : ownKnob Try.prog.godebug = none := by kernel_rfl
theorem laidOut : laidOutB Try.prog = true := by kernel_rfl
theorem lifted (os : Os) (started : os.Started) (H : Type) (enc : TypeId × Value → H) (F : Stop.Interp) :
  ReturnsInHanded {} Try.checked os 4 .any ((Rows.OpenSpec.upto Rows.objectBackSpec).pre6 enc Try.prog Try.f4 Rows.objectBackUptoRow.domain false) (((Rows.OpenSpec.upto Rows.objectBackSpec).at F).post enc Try.prog Try.f4 false true false false) := by
 refine returnsInHanded_of_cond (C := Try.checked) (s := Rows.OpenSpec.upto Rows.objectBackSpec) (k := Rows.uptoSmall) rfl own started (by kernel_rfl) Try.func4
  (OpenSpec.witness (enc := enc) (C := Try.checked) (s := Rows.OpenSpec.upto Rows.objectBackSpec) (k := Rows.uptoSmall) rfl false ⟨#[], #[.agg #[.string ⟨#[]⟩, .slice none 0 0, .slice none 0 0, .slice none 0 0], .agg #[.string ⟨#[]⟩, .slice none 0 0, .slice none 0 0, .slice none 0 0]], []⟩ 8 (by kernel_rfl) (by kernel_rfl) (by kernel_rfl)
    (x := ([.agg [.lit (.string []), .nil, .nil, .nil], .agg [.lit (.string []), .nil, .nil, .nil]], [], [])) (by kernel_rfl) rfl (by kernel_rfl)) ?_
 intro W base args ds gs before hval0 hW hcnd hk0 _
 have hval : ∀ (j : Nat) t v, Try.f4.params[j]? = some t → args[j]? = some v → Value.okWide Try.prog W .any base t v := hval0
 have hW' := hW
 obtain ⟨p, q, hA0, hV, rfl, hfz, hnd⟩ := hW
 have hA : DataW.TrodAll enc Try.prog W 0 (fun _ => true) true Try.f4.params.toList args.toList ds p := hA0
 rw [Try.params4] at hA hval
 obtain ⟨v0, vs0, d0, ds0, p0, q0, hargs, rfl, rfl, h0, r0⟩ := trodAll_cons hA
 obtain ⟨v1, vs1, d1, ds1, p1, q1, hargs1, rfl, rfl, h1, r1⟩ := trodAll_cons r0
 obtain ⟨rfl, rfl, rfl⟩ := trodAll_nil r1
 obtain rfl : args = #[v0, v1] := by cases args; simp_all
 obtain ⟨rfl, rfl⟩ := trodVars_none hV
 have hk : Rows.uptoBulkAll ([d0, d1] ++ []) ≤ 1048576 := of_decide_eq_true hk0
 simp only [List.append_nil, Rows.uptoBulkAll] at hk
 have k0 := h0
 have k1 := h1
 have lt0 : ∀ x ∈ p0, x.block < W.heap.size := by obtain ⟨m, hm⟩ := k0; exact DataW.trod_lt m _ _ _ hm
 have lt1 : ∀ x ∈ p1, x.block < W.heap.size := by obtain ⟨m, hm⟩ := k1; exact DataW.trod_lt m _ _ _ hm
 obtain ⟨cs, rfl, hsz⟩ := okWide_struct Try.underlying39 (hval 0 39 v0 rfl rfl)
 obtain ⟨es, rfl, hsz1⟩ := okWide_struct Try.underlying39 (hval 1 39 v1 rfl rfl)
 obtain ⟨fuel, hf⟩ := h0
 obtain ⟨x, hK, hG⟩ := Q.opens_foundryref15_Object W 1048576 H enc 0 (fun _ => true) true fuel _ _ hf (by show Rows.uptoBulk d0 ≤ _; omega)
 obtain ⟨A1, c1, A2, c2, A3, c3, he, l1, g1, l2, g2, l3, g3⟩ := Q.k39_open hK
 obtain rfl : cs = #[.string x.f0, .slice A1 x.f1.length c1, .slice A2 x.f2.length c2, .slice A3 x.f3.length c3] := Array.ext' he
 obtain ⟨fuel1, hf1⟩ := h1
 obtain ⟨y, hK1, hG1⟩ := Q.opens_foundryref15_Object W 1048576 H enc 0 (fun _ => true) true fuel1 _ _ hf1 (by show Rows.uptoBulk d1 ≤ _; omega)
 obtain ⟨B1, e1, B2, e2, B3, e3, he1, m1, n1, m2, n2, m3, n3⟩ := Q.k39_open hK1
 obtain rfl : es = #[.string y.f0, .slice B1 y.f1.length e1, .slice B2 y.f2.length e2, .slice B3 y.f3.length e3] := Array.ext' he1
 obtain ⟨k, hkk⟩ := (Q.back_ev x.f0 x.f1 x.f2 x.f3 hG y.f0 y.f1 y.f2 y.f3 hG1).rounds
 clear hA0 hval0 hf hK hf1 hK1
 refine (Q.foundrylaw15_ObjectBack.calls k x.f0 A1 c1 x.f1 A2 c2 x.f2 A3 c3 x.f3 y.f0 B1 e1 y.f1 B2 e2 y.f2 B3 e3 y.f3 true W g1 l1 g2 l2 g3 l3 n1 m1 n2 m2 n3 m3 hkk).mono fun e W' ⟨he', bel⟩ => ?_
 subst he'
 exact ⟨_, rfl, _, _, _, [], _, [], hW', trodAll_mk1 (shut_bool Try.underlying4 _), (trodAll_cons_mk (Below.trod laidOut (by kernel_rfl) (of_decide_eq_true (by kernel_rfl)) k0 bel lt0) (trodAll_cons_mk (Below.trod laidOut (by kernel_rfl) (of_decide_eq_true (by kernel_rfl)) k1 bel lt1) trodAll_mk0)), rfl, bel.frame _, fun h => by cases h⟩
theorem over : Rows.objectBackUptoRow.holds Try.pinned (Rows.OpenSpec.upto Rows.objectBackSpec) :=
 OpenClaim.holds_of_cond 4 Try.f4 rfl rfl rfl rfl rfl rfl rfl ⟨rfl, rfl, rfl, rfl, rfl⟩ rfl rfl rfl rfl rfl (by kernel_rfl) Try.func4 (by kernel_rfl)
  (of_decide_eq_true (by kernel_rfl)) (by unfold Func.isWrapper; first | (rw [if_pos (by decide +kernel)]; kernel_rfl) | (rw [if_neg (by decide +kernel)]; exact ⟨rfl, rfl⟩))
  (fun os started H enc _ F => lifted os started H enc F)
theorem proved : Rows.ObjectBackUptoSaid := over
end objectBack

theorem objectBack_holds : Rows.ObjectBackUptoSaid := objectBack.proved
end
end Go.Proofs.Ytfjpnjbinbhcfaa
