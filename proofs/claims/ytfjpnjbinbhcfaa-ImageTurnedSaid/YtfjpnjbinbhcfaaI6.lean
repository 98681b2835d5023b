/- The law of turned images, with all it stands on. Part 6 of 6. -/
import Derived.Test.YtfjpnjbinbhcfaaI5
import Derived.Laws.BitsAllLaws
import Derived.SizedLaws
import Derived.ChangeSlices
import Derived.Test.YtfjpnjbinbhcfaaRows
import Derived.WalkKit
import Derived.ProofKit
import Derived.OpenShut
import Derived.ShutString
import Derived.ChangeOld
import Derived.Below
set_option maxHeartbeats 8000000
set_option maxRecDepth 100000
set_option linter.unusedVariables false
set_option linter.unusedSimpArgs false
namespace Go.Proofs.Ytfjpnjbinbhcfaa
section
namespace Q
open Go.RowKit YA YC YB
attribute [local go_sem] qAR min2_int qBd min_two max_three min_three max_four min_four
mutual
def foundrylaw17_ImageTurned.j0 : Nat → List Int → Int → Int → Int → Bool → Option (Bool)
 | 0, _, _, _, _, _ => none
 | k + 1, x0, x1, x2, x3, eo => if eo = true then ((qA3.f k).bind fun bg => (some bg)) else ((some (([] : List Int) : List Int)).bind fun bK => (if bK.length + x0.length < 140737488355328 then ((some (bK ++ x0 : List Int)).bind fun az => (if az.length < 140737488355328 then ((qAi.f k (az ++ [x3])).bind fun ad => (if ad.2.2.2 = 0 then (foundrylaw17_ImageTurned.j1 k x0 x1 x2 ad.2.2.2 true) else (if x1 < 0 then (foundrylaw17_ImageTurned.j1 k x0 x1 x2 ad.2.2.2 true) else (foundrylaw17_ImageTurned.j1 k x0 x1 x2 ad.2.2.2 (decide (x1 ≥ (x0.length : Int))))))) else (none))) else (none)))
def foundrylaw17_ImageTurned.j1 : Nat → List Int → Int → Int → Int → Bool → Option (Bool)
 | 0, _, _, _, _, _ => none
 | k + 1, x0, x1, x2, en, ep => if ep = true then (some (en != 0)) else (if 0 ≤ x1 then (if x1 ≤ (x0.length : Int) then ((qAi.f k (x0.take (x1 : Int).toNat)).bind fun bl => ((some (([] : List Int) : List Int)).bind fun ar => (if ar.length + x0.length < 140737488355328 then ((some (ar ++ x0 : List Int)).bind fun aU => (if x1 < (aU.length : Int) then ((qAi.f k (aU.set (x1 : Int).toNat (Go.bits .xor .u8 (rd aU x1) x2))).bind fun aq => (if bl.2.2.2 = 53 then (if x2 = 0 then (some true) else (some (aq.2.2.2 == 53))) else (some false))) else (none))) else (none)))) else (none)) else (none))
end
def foundrylaw17_ImageTurned.f (k : Nat) (l0 : List Int) (a1 : Int) (a2 : Int) (a3 : Int) : Option (Bool) := (qAi.f k l0).bind fun bk => (if bk.2.2.2 = 0 then ((qA3.f k).bind fun bN => (foundrylaw17_ImageTurned.j0 k l0 a1 a2 a3 (!bN))) else (foundrylaw17_ImageTurned.j0 k l0 a1 a2 a3 true))
theorem foundrylaw17_ImageTurned.calls (k : Nat) (A0 : Option Addr) (c0 : Nat) (l0 : List Int) (a1 : Int) (a2 : Int) (a3 : Int) (r : Bool) (w : World) (hr0 : Kd.C (Kd.int .u8) w A0 l0.length l0) (hc0 : l0.length ≤ c0) (h : foundrylaw17_ImageTurned.f k l0 a1 a2 a3 = some r) :
  Calls Try.prog 5 #[.slice A0 l0.length c0, .int .i64 a1, .int .u8 a2, .int .u8 a3] w fun e w' => e = .returned (.bool r) ∧ Below w.heap.size w w' := by
 have hu47 := Try.underlying47
 have cI := am hr0
 have dF := am hc0
 clear hr0 hc0
 have HB := am (Below.refl w.heap.size w)
 have H : ((qAi.f k l0).bind fun bk => (if bk.2.2.2 = 0 then ((qA3.f k).bind fun bN => (foundrylaw17_ImageTurned.j0 k l0 a1 a2 a3 (!bN))) else (foundrylaw17_ImageTurned.j0 k l0 a1 a2 a3 true))) = some r := h
 clear h
 replace H := bm H
 obtain ⟨⟨aV, aX, aa, b5⟩, ds, H⟩ := H
 replace H : (if b5 = 0 then ((qA3.f k).bind fun bN => (foundrylaw17_ImageTurned.j0 k l0 a1 a2 a3 (!bN))) else (foundrylaw17_ImageTurned.j0 k l0 a1 a2 a3 true)) = some r := H
 have A5 := am ds
 clear ds
 have d6 := am H
 clear H
 go_enter Try.func5, Try.ntmps5
 go_upto_region 2 with (first | ((with_reducible refine qAu (f := 13) rfl ?_); refine qAL (some 18) rfl rfl Try.func13 (by kernel_rfl) rfl #[.slice A0 l0.length c0] rfl (by (try simp only [List.map_toArray, List.map_cons, List.map_nil]); first | done | rfl | (simp only [List.length_drop, List.length_take]; rfl)) ?_; (with_reducible refine (qAi.calls k _ _ l0 aV aX aa b5 _ ?side1 ?side2 A5.o).mono ?_); (case side1 => repeat (first | exact cI.o | (with_reducible refine Kd.C_alloc ?_ _) | (with_reducible refine Kd.C_drewN ?_ _) | (with_reducible refine Kd.C_drew ?_))); (case side2 => exact dF.o); rintro e w7 ⟨ee, ef, rfl, ao, ap, hb⟩; refine ⟨_, rfl, ?_⟩; have n0_ := am (Kd.R_lower ao (qAo (by repeat (first | (with_reducible first | exact HB.o | apply qAf | apply qAc | apply qAh) | exact HB.o)))); have n1_ := am (Kd.S_lower ap (qAo (by repeat (first | (with_reducible first | exact HB.o | apply qAf | apply qAc | apply qAh) | exact HB.o)))); have n2_ := am (qAx (by repeat (first | (with_reducible first | exact HB.o | apply qAf | apply qAc | apply qAh) | exact HB.o)) hb); clear HB; have av := n0_; have aw := n1_; have HB := n2_; clear n0_ n1_ n2_) | ((with_reducible refine qAQ (N := 9) rfl ?_); (try (refine qAN (by rfl) ?_; dsimp only)); refine qAS ?hg (N := 9) ?hd (cs := #[.slice none 0 0, .slice none 0 0, .int .i64 0]) (t := 47) ?hr ?_; (case hd => rfl); (case hg => rfl); (case hr => first | (go_simp; done) | (go_simp; rfl)); intro aM hg w8 hbox hb; have n0_ := am (Kd.R_below (by (with_reducible repeat (first | apply Kd.R_alloc | apply Kd.R_drewN | apply Kd.R_drew)); exact av.o) hb); have n1_ := am (Kd.S_below (by (with_reducible repeat (first | apply Kd.S_alloc | apply Kd.S_drewN | apply Kd.S_drew)); exact aw.o) hb); have n2_ := am (qAx (by repeat (first | (with_reducible first | exact HB.o | apply qAf | apply qAc | apply qAh) | exact HB.o)) hb); have n3_ := am (hbox); have n4_ := am ((by rw [hg]; exact (qAo (by repeat (first | (with_reducible first | exact HB.o | apply qAf | apply qAc | apply qAh) | exact HB.o))) : w.heap.size ≤ aM)); have n5_ := am ((by rw [hg]; exact (qAo (by repeat (first | (with_reducible first | exact HB.o | apply qAf | apply qAc | apply qAh) | exact HB.o))) : w.heap.size ≤ aM)); clear av; clear aw; clear HB; have av := n0_; have aw := n1_; have HB := n2_; have aG := n3_; have dt := n4_; have aK := n5_; clear n0_ n1_ n2_ n3_ n4_ n5_; clear hb hbox hg; obtain ⟨af, ag, eb⟩ := Kd.R_slice av.o; subst eb; obtain ⟨b6, b7, b8⟩ := c3_ w8 aG.o; obtain ⟨b9, ba, bb⟩ := z3_ aG.o; obtain ⟨a5, a6, d9⟩ := Kd.S_slice aw.o; subst d9))
 (try simp only [Act.put, List.setIfInBounds_toArray, List.set_cons_zero, List.set_cons_succ])
 go_cut [26] (fun ec wc => ∃ (kq : Nat) (bc : Bool), ec = .bool bc ∧ qAk (foundrylaw17_ImageTurned.j0 kq l0 a1 a2 a3 bc = some r) ∧ qAk (kq ≤ k) ∧ qAk (Kd.R k69 69 wc w.heap.size (fun _ => True) (.slice af aV.length ag) aV) ∧ qAk (Kd.S k77 77 wc w.heap.size (fun _ => True) (.slice a5 aX.length a6) aX) ∧ qAk (wc.heap[aM]? = some (.cells #[(.slice af aV.length ag), (.slice a5 aX.length a6), .int .i64 aa] 47 (0, 0))) ∧ qAk (Below w.heap.size w wc))
 case first =>
  have H := d6.o
  clear d6
  by_cases bw : b5 = 0
  rotate_left
  ·rw [if_neg bw] at H
   have bG : (b5 == 0) = false := bf bw
   have bo : (b5 != 0) = true := bne_iff_ne.mpr bw
   (first | rw [bG] | (simp only [qBz, i32_w]; rw [bG]) | skip)
   have H' := am H
   clear H
   go_wp2
   go_meet
   case rel => exact ⟨_, (true), (by first | rfl | (simp; done) | (simp [*]; done)), H', ⟨by first | omega | exact Nat.le_refl _⟩, ⟨by (with_reducible repeat (first | apply Kd.R_alloc | apply Kd.R_drewN | apply Kd.R_drew)); exact Kd.R_mono (Kd.R_far (p := ⟨aM, 2, none⟩) (Kd.R_far (p := ⟨aM, 1, none⟩) (Kd.R_far (p := ⟨aM, 0, none⟩) (Kd.R_types av.o aG.o (by decide)) (fun _ hk => hk.2) (.slice af aV.length ag)) (fun _ hk => hk.2) (.slice a5 aX.length a6)) (fun _ hk => hk.2) (.int .i64 aa)) (fun _ hk => trivial)⟩, ⟨by (with_reducible repeat (first | apply Kd.S_alloc | apply Kd.S_drewN | apply Kd.S_drew)); exact Kd.S_mono (Kd.S_far (p := ⟨aM, 2, none⟩) (Kd.S_far (p := ⟨aM, 1, none⟩) (Kd.S_far (p := ⟨aM, 0, none⟩) (Kd.S_types aw.o aG.o (by decide)) (fun _ hk => hk.2) (.slice af aV.length ag)) (fun _ hk => hk.2) (.slice a5 aX.length a6)) (fun _ hk => hk.2) (.int .i64 aa)) (fun _ hk => trivial)⟩, ⟨by (with_reducible repeat (first | refine qAe ?_ _ | refine qAg ?_ | refine qAd ?_ _)); refine qAz (cs := #[.slice af aV.length ag, .slice a5 aX.length a6, .int .i64 0]) ?_ 2 _ rfl; (with_reducible repeat (first | refine qAe ?_ _ | refine qAg ?_ | refine qAd ?_ _)); refine qAz (cs := #[.slice af aV.length ag, .slice none 0 0, .int .i64 0]) ?_ 1 _ rfl; (with_reducible repeat (first | refine qAe ?_ _ | refine qAg ?_ | refine qAd ?_ _)); refine qAz (cs := #[.slice none 0 0, .slice none 0 0, .int .i64 0]) ?_ 0 _ rfl; (with_reducible repeat (first | refine qAe ?_ _ | refine qAg ?_ | refine qAd ?_ _)); exact aG.o⟩, ⟨by repeat (first | (with_reducible first | exact HB.o | apply qAf | apply qAc | apply qAh | refine qAb ?_ aK.o) | exact HB.o)⟩⟩
  rw [if_pos bw] at H
  have bG : (b5 == 0) = true := beq_iff_eq.mpr bw
  have bo : (b5 != 0) = false := bn bw
  clear bw
  (first | rw [bG] | (simp only [qBz, i32_w]; rw [bG]) | skip)
  replace H := bm H
  obtain ⟨bN, cg, H⟩ := H
  replace H : (foundrylaw17_ImageTurned.j0 k l0 a1 a2 a3 (!bN)) = some r := H
  have eR := am cg
  clear cg
  have H' := am H
  clear H
  go_wp2_with (first | (go_at_call 14; (with_reducible refine (qA3.calls k  bN _ eR.o).mono ?_); rintro e es ⟨rfl, hb⟩; have n0_ := am (Kd.R_below (by (with_reducible repeat (first | apply Kd.R_alloc | apply Kd.R_drewN | apply Kd.R_drew)); exact (Kd.R_mono (Kd.R_far (p := ⟨aM, 2, none⟩) (Kd.R_far (p := ⟨aM, 1, none⟩) (Kd.R_far (p := ⟨aM, 0, none⟩) (Kd.R_types av.o aG.o (by decide)) (fun _ hk => hk.2) (.slice af aV.length ag)) (fun _ hk => hk.2) (.slice a5 aX.length a6)) (fun _ hk => hk.2) (.int .i64 aa)) (fun _ h_ => h_.1))) hb); have n1_ := am (Kd.S_below (by (with_reducible repeat (first | apply Kd.S_alloc | apply Kd.S_drewN | apply Kd.S_drew)); exact (Kd.S_mono (Kd.S_far (p := ⟨aM, 2, none⟩) (Kd.S_far (p := ⟨aM, 1, none⟩) (Kd.S_far (p := ⟨aM, 0, none⟩) (Kd.S_types aw.o aG.o (by decide)) (fun _ hk => hk.2) (.slice af aV.length ag)) (fun _ hk => hk.2) (.slice a5 aX.length a6)) (fun _ hk => hk.2) (.int .i64 aa)) (fun _ h_ => h_.1))) hb); have n2_ := am (qAn (g := aM) (o := .cells #[.slice af aV.length ag, .slice a5 aX.length a6, .int .i64 aa] 47 (0, 0)) (by (with_reducible repeat (first | refine qAe ?_ _ | refine qAg ?_ | refine qAd ?_ _)); refine qAz (cs := #[.slice af aV.length ag, .slice a5 aX.length a6, .int .i64 0]) ?_ 2 _ rfl; (with_reducible repeat (first | refine qAe ?_ _ | refine qAg ?_ | refine qAd ?_ _)); refine qAz (cs := #[.slice af aV.length ag, .slice none 0 0, .int .i64 0]) ?_ 1 _ rfl; (with_reducible repeat (first | refine qAe ?_ _ | refine qAg ?_ | refine qAd ?_ _)); refine qAz (cs := #[.slice none 0 0, .slice none 0 0, .int .i64 0]) ?_ 0 _ rfl; (with_reducible repeat (first | refine qAe ?_ _ | refine qAg ?_ | refine qAd ?_ _)); exact aG.o) hb); have n3_ := am (qAx (by repeat (first | (with_reducible first | exact HB.o | apply qAf | apply qAc | apply qAh | refine qAb ?_ aK.o) | exact HB.o)) hb); clear av; clear aw; clear aG; clear HB; have av := n0_; have aw := n1_; have aG := n2_; have HB := n3_; clear n0_ n1_ n2_ n3_))
  go_meet
  case rel => exact ⟨_, (!bN), (by first | rfl | (simp; done) | (simp [*]; done)), H', ⟨by first | omega | exact Nat.le_refl _⟩, ⟨by (with_reducible repeat (first | apply Kd.R_alloc | apply Kd.R_drewN | apply Kd.R_drew)); exact av.o⟩, ⟨by (with_reducible repeat (first | apply Kd.S_alloc | apply Kd.S_drewN | apply Kd.S_drew)); exact aw.o⟩, ⟨by (with_reducible repeat (first | refine qAe ?_ _ | refine qAg ?_ | refine qAd ?_ _)); exact aG.o⟩, ⟨by repeat (first | (with_reducible first | exact HB.o | apply qAf | apply qAc | apply qAh | refine qAb ?_ aK.o) | exact HB.o)⟩⟩
 case rest =>
  clear d6
  obtain ⟨kq, bc, rfl, HA, d7, aA, aC, aG, HB⟩ := hcut
  cases kq with
  | zero => exact absurd HA.o (by simp [foundrylaw17_ImageTurned.j0])
  | succ bH =>
   have H := HA.o
   clear HA
   simp only [foundrylaw17_ImageTurned.j0] at H
   by_cases cp : bc = true
   ·subst cp
    replace H : ((qA3.f bH).bind fun bg => (some bg)) = some r := by rw [if_pos rfl] at H; exact H
    replace H := bm H
    obtain ⟨bg, ch, H⟩ := H
    replace H : (some bg) = some r := H
    have eS := am ch
    clear ch
    obtain rfl := Option.some.inj H
    go_wp2_with (first | ((with_reducible refine qAu (f := 14) rfl ?_); refine qAL (some 27) rfl rfl Try.func14 (by kernel_rfl) rfl #[] rfl (by (try simp only [List.map_toArray, List.map_cons, List.map_nil]); first | done | rfl | (simp only [List.length_drop, List.length_take]; rfl)) ?_; (with_reducible refine (qA3.calls bH  bg _ eS.o).mono ?_); rintro e et ⟨rfl, hb⟩; refine ⟨_, rfl, ?_⟩; have n0_ := am (Kd.R_below (by (with_reducible repeat (first | apply Kd.R_alloc | apply Kd.R_drewN | apply Kd.R_drew)); exact aA.o) hb); have n1_ := am (Kd.S_below (by (with_reducible repeat (first | apply Kd.S_alloc | apply Kd.S_drewN | apply Kd.S_drew)); exact aC.o) hb); have n2_ := am (qAn (g := aM) (o := .cells #[.slice af aV.length ag, .slice a5 aX.length a6, .int .i64 aa] 47 (0, 0)) (by (with_reducible repeat (first | refine qAe ?_ _ | refine qAg ?_ | refine qAd ?_ _)); exact aG.o) hb); have n3_ := am (qAx (by repeat (first | (with_reducible first | exact HB.o | apply qAf | apply qAc | apply qAh | refine qAb ?_ aK.o) | exact HB.o)) hb); clear aA; clear aC; clear aG; clear HB; have aA := n0_; have aC := n1_; have aG := n2_; have HB := n3_; clear n0_ n1_ n2_ n3_))
    go_ret
    exact ⟨by first | rfl | (simp [errW_none, errW_some] <;> rfl) | (simp [*, errW_none, errW_some] <;> rfl), by repeat (first | (with_reducible first | exact HB.o | apply qAf | apply qAc | apply qAh | refine qAb ?_ aK.o) | exact HB.o)⟩
   replace cp := Bool.eq_false_iff.mpr cp
   subst cp
   replace H : ((some (([] : List Int) : List Int)).bind fun bK => (if bK.length + l0.length < 140737488355328 then ((some (bK ++ l0 : List Int)).bind fun az => (if az.length < 140737488355328 then ((qAi.f bH (az ++ [a3])).bind fun ad => (if ad.2.2.2 = 0 then (foundrylaw17_ImageTurned.j1 bH l0 a1 a2 ad.2.2.2 true) else (if a1 < 0 then (foundrylaw17_ImageTurned.j1 bH l0 a1 a2 ad.2.2.2 true) else (foundrylaw17_ImageTurned.j1 bH l0 a1 a2 ad.2.2.2 (decide (a1 ≥ (l0.length : Int))))))) else (none))) else (none))) = some r := by rw [if_neg (show ¬ (false = true) by decide)] at H; exact H
   obtain ⟨bK, bZ⟩ : ∃ y_ : List Int, y_ = (([] : List Int)) := ⟨_, rfl⟩
   replace H : (if bK.length + l0.length < 140737488355328 then ((some (bK ++ l0 : List Int)).bind fun az => (if az.length < 140737488355328 then ((qAi.f bH (az ++ [a3])).bind fun ad => (if ad.2.2.2 = 0 then (foundrylaw17_ImageTurned.j1 bH l0 a1 a2 ad.2.2.2 true) else (if a1 < 0 then (foundrylaw17_ImageTurned.j1 bH l0 a1 a2 ad.2.2.2 true) else (foundrylaw17_ImageTurned.j1 bH l0 a1 a2 ad.2.2.2 (decide (a1 ≥ (l0.length : Int))))))) else (none))) else (none)) = some r := by first | (rw [bZ]; with_reducible exact H) | (have H2_ := (Option.bind_some _ _).symm.trans H; rw [bZ]; with_reducible exact H2_) | (have H2_ := (Option.bind_some _ _).symm.trans H; with_reducible exact H2_) | with_reducible exact H | (rw [bZ]; exact H) | exact H
   have cJ := am bZ
   clear bZ
   obtain ⟨cq, H⟩ := gd H
   have cl := am cq
   clear cq
   obtain ⟨az, b0⟩ : ∃ y_ : List Int, y_ = (bK ++ l0) := ⟨_, rfl⟩
   replace H : (if az.length < 140737488355328 then ((qAi.f bH (az ++ [a3])).bind fun ad => (if ad.2.2.2 = 0 then (foundrylaw17_ImageTurned.j1 bH l0 a1 a2 ad.2.2.2 true) else (if a1 < 0 then (foundrylaw17_ImageTurned.j1 bH l0 a1 a2 ad.2.2.2 true) else (foundrylaw17_ImageTurned.j1 bH l0 a1 a2 ad.2.2.2 (decide (a1 ≥ (l0.length : Int))))))) else (none)) = some r := by first | (rw [b0]; with_reducible exact H) | (have H2_ := (Option.bind_some _ _).symm.trans H; rw [b0]; with_reducible exact H2_) | (have H2_ := (Option.bind_some _ _).symm.trans H; with_reducible exact H2_) | with_reducible exact H | (rw [b0]; exact H) | exact H
   have cn := am b0
   clear b0
   obtain ⟨cr, H⟩ := gd H
   have cm := am cr
   clear cr
   obtain ⟨cf, b1⟩ : ∃ y_ : List Int, y_ = (az ++ [a3]) := ⟨_, rfl⟩
   replace H : ((qAi.f bH cf).bind fun ad => (if ad.2.2.2 = 0 then (foundrylaw17_ImageTurned.j1 bH l0 a1 a2 ad.2.2.2 true) else (if a1 < 0 then (foundrylaw17_ImageTurned.j1 bH l0 a1 a2 ad.2.2.2 true) else (foundrylaw17_ImageTurned.j1 bH l0 a1 a2 ad.2.2.2 (decide (a1 ≥ (l0.length : Int))))))) = some r := by first | (rw [b1]; with_reducible exact H) | (have H2_ := (Option.bind_some _ _).symm.trans H; rw [b1]; with_reducible exact H2_) | (have H2_ := (Option.bind_some _ _).symm.trans H; with_reducible exact H2_) | with_reducible exact H | (rw [b1]; exact H) | exact H
   have co := am b1
   clear b1
   replace H := bm H
   obtain ⟨⟨aY, a7, ab, bD⟩, ci, H⟩ := H
   replace H : (if bD = 0 then (foundrylaw17_ImageTurned.j1 bH l0 a1 a2 bD true) else (if a1 < 0 then (foundrylaw17_ImageTurned.j1 bH l0 a1 a2 bD true) else (foundrylaw17_ImageTurned.j1 bH l0 a1 a2 bD (decide (a1 ≥ (l0.length : Int)))))) = some r := H
   have eT := am ci
   clear ci
   have cR := am H
   clear H
   go_upto_region 5 with (first | ((with_reducible refine qAQ (N := 29) rfl ?_); (try (refine qAN (by rfl) ?_; dsimp only)); refine Kd.R_lit (Kd.int .u8) _ 5 ?hg (N := 29) ?hd (xs := ([] : List Int)) (inner := []) (ok := fun _ => True) (okp := fun _ => True) ?hr ?hp (fun _ hk => hk) trivial (Below.refl _ _) (Nat.le_refl _) (by simp) ?_; (case hd => rfl); (case hg => rfl); (case hr => first | (go_simp; done) | (go_simp; rfl)); (case hp => exact (Reps.none _ _)); intro dm eu ho23 hb hg_ hnew_; clear hg_ hnew_; (first | rw [← cJ.o] at ho23 | (simp only [Int.reduceToNat] at ho23; rw [← cJ.o] at ho23)); have n0_ := am (Kd.R_below (by (with_reducible repeat (first | apply Kd.R_alloc | apply Kd.R_drewN | apply Kd.R_drew)); exact aA.o) hb); have n1_ := am (Kd.S_below (by (with_reducible repeat (first | apply Kd.S_alloc | apply Kd.S_drewN | apply Kd.S_drew)); exact aC.o) hb); have n2_ := am (Kd.R_lower ho23 (qAo (by repeat (first | (with_reducible first | exact HB.o | apply qAf | apply qAc | apply qAh | refine qAb ?_ aK.o) | exact HB.o)))); have n3_ := am (qAn (g := aM) (o := .cells #[.slice af aV.length ag, .slice a5 aX.length a6, .int .i64 aa] 47 (0, 0)) (by (with_reducible repeat (first | refine qAe ?_ _ | refine qAg ?_ | refine qAd ?_ _)); exact aG.o) hb); have n4_ := am (qAx (by repeat (first | (with_reducible first | exact HB.o | apply qAf | apply qAc | apply qAh | refine qAb ?_ aK.o) | exact HB.o)) hb); clear aA; clear aC; clear aG; clear HB; have aA := n0_; have aC := n1_; have bR := n2_; have aG := n3_; have HB := n4_; clear n0_ n1_ n2_ n3_ n4_; clear hb ho23) | ((with_reducible refine qBj (b := .append) (xs := #[.tmp 29, .tmp 30]) rfl ?_); (try (refine qAN (by rfl) ?_; dsimp only)); at_builtin; refine Kd.R_append_rows (Kd.int .u8) (w0 := w) w.heap.size rfl (.tmp 29) (.tmp 30) 22 5 (.int .u8 0) 1 rfl Try.underlying22 info5 rfl (by decide) (by omega) dm bK l0 _ _ _ (fun _ => True) (fun _ => False) rfl rfl ?aO ?aR (fun _ _ h => h) (fun _ h => h.elim) ?aF ?aB ?aS ?aL ?_; (case aR => repeat (first | exact (Kd.C_below cI.o HB.o) | (with_reducible refine Kd.C_alloc ?_ _) | (with_reducible refine Kd.C_drewN ?_ _) | (with_reducible refine Kd.C_drew ?_))); (case aB => exact (by repeat (first | (with_reducible first | exact HB.o | apply qAf | apply qAc | apply qAh | refine qAb ?_ aK.o) | exact HB.o))); (case aF => exact (fun _ _ => trivial)); (case aO => exact (by (with_reducible repeat (first | apply Kd.R_alloc | apply Kd.R_drewN | apply Kd.R_drew)); exact bR.o)); (case aS => exact (qAo (by repeat (first | (with_reducible first | exact HB.o | apply qAf | apply qAc | apply qAh | refine qAb ?_ aK.o) | exact HB.o)))); (case aL => have := cl.o; omega); intro dn ev ho hb hg bz; rw [← cn.o] at ho; have n0_ := am (Kd.R_over' (by (with_reducible repeat (first | apply Kd.R_alloc | apply Kd.R_drewN | apply Kd.R_drew)); exact aA.o) (Kd.R_typed (by (with_reducible repeat (first | apply Kd.R_alloc | apply Kd.R_drewN | apply Kd.R_drew)); exact bR.o)) (by decide) hg); have n1_ := am (Kd.S_over' (by (with_reducible repeat (first | apply Kd.S_alloc | apply Kd.S_drewN | apply Kd.S_drew)); exact aC.o) (Kd.R_typed (by (with_reducible repeat (first | apply Kd.R_alloc | apply Kd.R_drewN | apply Kd.R_drew)); exact bR.o)) (by decide) hg); have n2_ := am (qAD (g := aM) (o := .cells #[.slice af aV.length ag, .slice a5 aX.length a6, .int .i64 aa] 47 (0, 0)) (by (with_reducible repeat (first | refine qAe ?_ _ | refine qAg ?_ | refine qAd ?_ _)); exact aG.o) hg (Kd.R_ne bR.o aG.o (by decide))); have n3_ := am (hb); have n4_ := am (ho); clear aA; clear aC; clear aG; clear HB; clear bR; have aA := n0_; have aC := n1_; have aG := n2_; have HB := n3_; have bS := n4_; clear n0_ n1_ n2_ n3_ n4_; clear ho hb hg bz) | ((with_reducible refine qBj (b := .append) (xs := #[.tmp 31, .tmp 33]) rfl ?_); (try (refine qAN (by rfl) ?_; dsimp only)); at_builtin; refine Kd.R_append (Kd.int .u8) (w0 := w) w.heap.size rfl (.tmp 31) (.tmp 33) 22 5 (.int .u8 0) 1 rfl Try.underlying22 info5 rfl (by decide) (by omega) dn az a3 [.int .u8 a3] (fun _ => True) (fun _ => False) rfl rfl ?aP (fun _ hk => hk.elim) ?aF ?aO ?aB ?aS ?aL ?_; (case aP => exact rfl); (case aB => exact (by repeat (first | (with_reducible first | exact HB.o | apply qAf | apply qAc | apply qAh | refine qAb ?_ aK.o) | exact HB.o))); (case aF => exact (fun _ _ => trivial)); (case aO => exact (by (with_reducible repeat (first | apply Kd.R_alloc | apply Kd.R_drewN | apply Kd.R_drew)); exact bS.o)); (case aS => exact (qAo (by repeat (first | (with_reducible first | exact HB.o | apply qAf | apply qAc | apply qAh | refine qAb ?_ aK.o) | exact HB.o)))); (case aL => have := cm.o; omega); intro eg ew ho hb hg bz; rw [← co.o] at ho; have n0_ := am (Kd.R_over' (by (with_reducible repeat (first | apply Kd.R_alloc | apply Kd.R_drewN | apply Kd.R_drew)); exact aA.o) (Kd.R_typed (by (with_reducible repeat (first | apply Kd.R_alloc | apply Kd.R_drewN | apply Kd.R_drew)); exact bS.o)) (by decide) hg); have n1_ := am (Kd.S_over' (by (with_reducible repeat (first | apply Kd.S_alloc | apply Kd.S_drewN | apply Kd.S_drew)); exact aC.o) (Kd.R_typed (by (with_reducible repeat (first | apply Kd.R_alloc | apply Kd.R_drewN | apply Kd.R_drew)); exact bS.o)) (by decide) hg); have n2_ := am (qAD (g := aM) (o := .cells #[.slice af aV.length ag, .slice a5 aX.length a6, .int .i64 aa] 47 (0, 0)) (by (with_reducible repeat (first | refine qAe ?_ _ | refine qAg ?_ | refine qAd ?_ _)); exact aG.o) hg (Kd.R_ne bS.o aG.o (by decide))); have n3_ := am (hb); have n4_ := am (ho); clear aA; clear aC; clear aG; clear HB; clear bS; have aA := n0_; have aC := n1_; have aG := n2_; have HB := n3_; have ax := n4_; clear n0_ n1_ n2_ n3_ n4_; clear ho hb hg bz; obtain ⟨d5, d8, da⟩ := Kd.R_slice ax.o; subst da) | ((with_reducible refine qAu (f := 13) rfl ?_); refine qAL (some 35) rfl rfl Try.func13 (by kernel_rfl) rfl #[.slice d5 cf.length d8] rfl (by (try simp only [List.map_toArray, List.map_cons, List.map_nil]); first | done | rfl | (simp only [List.length_drop, List.length_take]; rfl)) ?_; (with_reducible refine (qAi.calls bH _ _ cf aY a7 ab bD _ ?side1 ?side2 eT.o).mono ?_); (case side1 => repeat (first | exact (Kd.R_reads' ax.o).2.2 | (with_reducible refine Kd.C_alloc ?_ _) | (with_reducible refine Kd.C_drewN ?_ _) | (with_reducible refine Kd.C_drew ?_))); (case side2 => exact (Kd.R_reads' ax.o).2.1); rintro e ex ⟨eh, ei, rfl, ao, ap, hb⟩; refine ⟨_, rfl, ?_⟩; have n0_ := am (Kd.R_elder' (by (with_reducible repeat (first | apply Kd.R_alloc | apply Kd.R_drewN | apply Kd.R_drew)); exact aA.o) (Kd.R_base ao) hb); have n1_ := am (Kd.S_elder' (by (with_reducible repeat (first | apply Kd.S_alloc | apply Kd.S_drewN | apply Kd.S_drew)); exact aC.o) (Kd.S_base ap) hb); have n2_ := am (Kd.R_below (by (with_reducible repeat (first | apply Kd.R_alloc | apply Kd.R_drewN | apply Kd.R_drew)); exact ax.o) hb); have n3_ := am (Kd.R_lower (Kd.R_new' ao (Kd.R_lt (by (with_reducible repeat (first | apply Kd.R_alloc | apply Kd.R_drewN | apply Kd.R_drew)); exact aA.o))) (qAo (by repeat (first | (with_reducible first | exact HB.o | apply qAf | apply qAc | apply qAh | refine qAb ?_ aK.o) | exact HB.o)))); have n4_ := am (Kd.S_lower (Kd.S_new' ap (Kd.S_lt (by (with_reducible repeat (first | apply Kd.S_alloc | apply Kd.S_drewN | apply Kd.S_drew)); exact aC.o))) (qAo (by repeat (first | (with_reducible first | exact HB.o | apply qAf | apply qAc | apply qAh | refine qAb ?_ aK.o) | exact HB.o)))); have n5_ := am (qAn (g := aM) (o := .cells #[.slice af aV.length ag, .slice a5 aX.length a6, .int .i64 aa] 47 (0, 0)) (by (with_reducible repeat (first | refine qAe ?_ _ | refine qAg ?_ | refine qAd ?_ _)); exact aG.o) hb); have n6_ := am (qAx (by repeat (first | (with_reducible first | exact HB.o | apply qAf | apply qAc | apply qAh | refine qAb ?_ aK.o) | exact HB.o)) hb); clear aA; clear aC; clear ax; clear aG; clear HB; have aA := n0_; have aC := n1_; have ax := n2_; have bE := n3_; have bF := n4_; have aG := n5_; have HB := n6_; clear n0_ n1_ n2_ n3_ n4_ n5_ n6_) | ((with_reducible refine qAQ (N := 11) rfl ?_); (try (refine qAN (by rfl) ?_; dsimp only)); refine qAS ?hg (N := 11) ?hd (cs := #[.slice none 0 0, .slice none 0 0, .int .i64 0]) (t := 47) ?hr ?_; (case hd => rfl); (case hg => rfl); (case hr => first | (go_simp; done) | (go_simp; rfl)); intro aJ hg ej hbox hb; have n0_ := am (Kd.R_below (by (with_reducible repeat (first | apply Kd.R_alloc | apply Kd.R_drewN | apply Kd.R_drew)); exact aA.o) hb); have n1_ := am (Kd.S_below (by (with_reducible repeat (first | apply Kd.S_alloc | apply Kd.S_drewN | apply Kd.S_drew)); exact aC.o) hb); have n2_ := am (Kd.R_below (by (with_reducible repeat (first | apply Kd.R_alloc | apply Kd.R_drewN | apply Kd.R_drew)); exact ax.o) hb); have n3_ := am (Kd.R_below (by (with_reducible repeat (first | apply Kd.R_alloc | apply Kd.R_drewN | apply Kd.R_drew)); exact bE.o) hb); have n4_ := am (Kd.S_below (by (with_reducible repeat (first | apply Kd.S_alloc | apply Kd.S_drewN | apply Kd.S_drew)); exact bF.o) hb); have n5_ := am (qAn (g := aM) (o := .cells #[.slice af aV.length ag, .slice a5 aX.length a6, .int .i64 aa] 47 (0, 0)) (by (with_reducible repeat (first | refine qAe ?_ _ | refine qAg ?_ | refine qAd ?_ _)); exact aG.o) hb); have n6_ := am (qAx (by repeat (first | (with_reducible first | exact HB.o | apply qAf | apply qAc | apply qAh | refine qAb ?_ aK.o) | exact HB.o)) hb); have n7_ := am (hbox); have n8_ := am ((by rw [hg]; exact (qAo (by repeat (first | (with_reducible first | exact HB.o | apply qAf | apply qAc | apply qAh | refine qAb ?_ aK.o) | exact HB.o))) : w.heap.size ≤ aJ)); have n9_ := am ((by rw [hg]; exact (qAo (by repeat (first | (with_reducible first | exact HB.o | apply qAf | apply qAc | apply qAh | refine qAb ?_ aK.o) | exact HB.o))) : w.heap.size ≤ aJ)); have n10_ := am ((by rw [hg]; exact Nat.ne_of_lt (qA2 (g := aM) (o := .cells #[.slice af aV.length ag, .slice a5 aX.length a6, .int .i64 aa] 47 (0, 0)) (by (with_reducible repeat (first | refine qAe ?_ _ | refine qAg ?_ | refine qAd ?_ _)); exact aG.o)) : aM ≠ aJ)); have n11_ := am ((by rw [hg]; exact Nat.ne_of_gt (qA2 (g := aM) (o := .cells #[.slice af aV.length ag, .slice a5 aX.length a6, .int .i64 aa] 47 (0, 0)) (by (with_reducible repeat (first | refine qAe ?_ _ | refine qAg ?_ | refine qAd ?_ _)); exact aG.o)) : aJ ≠ aM)); clear aA; clear aC; clear ax; clear bE; clear bF; clear aG; clear HB; have aA := n0_; have aC := n1_; have ax := n2_; have bE := n3_; have bF := n4_; have aG := n5_; have HB := n6_; have aH := n7_; have du := n8_; have aT := n9_; have ac := n10_; have bd := n11_; clear n0_ n1_ n2_ n3_ n4_ n5_ n6_ n7_ n8_ n9_ n10_ n11_; clear hb hbox hg; obtain ⟨aZ, a4, db⟩ := Kd.R_slice bE.o; subst db; have eA := bd.o; have eH := ac.o; obtain ⟨cA, cB, cC⟩ := c3_ ej aH.o; obtain ⟨cD, cE, cF⟩ := z3_ aH.o; obtain ⟨a8, a9, dc⟩ := Kd.S_slice bF.o; subst dc))
   (try simp only [Act.put, List.setIfInBounds_toArray, List.set_cons_zero, List.set_cons_succ])
   go_cut [49] (fun ed wc => ∃ (kq : Nat) (bO : Bool), ed = .bool bO ∧ qAk (foundrylaw17_ImageTurned.j1 kq l0 a1 a2 bD bO = some r) ∧ qAk (kq ≤ bH) ∧ qAk (Kd.R k69 69 wc w.heap.size (fun k_ => some k_ ≠ ((.slice aZ aY.length a4) : Value).ownBlock) (.slice af aV.length ag) aV) ∧ qAk (Kd.S k77 77 wc w.heap.size (fun k_ => some k_ ≠ ((.slice a8 a7.length a9) : Value).ownBlock) (.slice a5 aX.length a6) aX) ∧ qAk (Kd.R k69 69 wc w.heap.size (fun k_ => some k_ ≠ ((.slice af aV.length ag) : Value).ownBlock) (.slice aZ aY.length a4) aY) ∧ qAk (Kd.S k77 77 wc w.heap.size (fun k_ => some k_ ≠ ((.slice a5 aX.length a6) : Value).ownBlock) (.slice a8 a7.length a9) a7) ∧ qAk (wc.heap[aM]? = some (.cells #[(.slice af aV.length ag), (.slice a5 aX.length a6), .int .i64 aa] 47 (0, 0))) ∧ qAk (wc.heap[aJ]? = some (.cells #[(.slice aZ aY.length a4), (.slice a8 a7.length a9), .int .i64 ab] 47 (0, 0))) ∧ qAk (Below w.heap.size w wc))
   case first =>
    have H := cR.o
    clear cR
    by_cases cL : bD = 0
    ·rw [if_pos cL] at H
     have bM : (bD == 0) = true := beq_iff_eq.mpr cL
     have cM : (bD != 0) = false := bn cL
     clear cL
     (first | rw [bM] | (simp only [qBz, i32_w]; rw [bM]) | skip)
     have H' := am H
     clear H
     go_wp2
     go_meet
     case rel => exact ⟨_, (true), (by first | rfl | (simp; done) | (simp [*]; done)), H', ⟨by have := d7.o; first | omega | exact Nat.le_refl _⟩, ⟨by (with_reducible repeat (first | apply Kd.R_alloc | apply Kd.R_drewN | apply Kd.R_drew)); exact Kd.R_mono (Kd.R_far (p := ⟨aJ, 2, none⟩) (Kd.R_far (p := ⟨aJ, 1, none⟩) (Kd.R_far (p := ⟨aJ, 0, none⟩) (Kd.R_types aA.o aH.o (by decide)) (fun _ hk => hk.2) (.slice aZ aY.length a4)) (fun _ hk => hk.2) (.slice a8 a7.length a9)) (fun _ hk => hk.2) (.int .i64 ab)) (fun _ hk => hk.1.2)⟩, ⟨by (with_reducible repeat (first | apply Kd.S_alloc | apply Kd.S_drewN | apply Kd.S_drew)); exact Kd.S_mono (Kd.S_far (p := ⟨aJ, 2, none⟩) (Kd.S_far (p := ⟨aJ, 1, none⟩) (Kd.S_far (p := ⟨aJ, 0, none⟩) (Kd.S_types aC.o aH.o (by decide)) (fun _ hk => hk.2) (.slice aZ aY.length a4)) (fun _ hk => hk.2) (.slice a8 a7.length a9)) (fun _ hk => hk.2) (.int .i64 ab)) (fun _ hk => hk.1.2)⟩, ⟨by (with_reducible repeat (first | apply Kd.R_alloc | apply Kd.R_drewN | apply Kd.R_drew)); exact Kd.R_mono (Kd.R_far (p := ⟨aJ, 2, none⟩) (Kd.R_far (p := ⟨aJ, 1, none⟩) (Kd.R_far (p := ⟨aJ, 0, none⟩) (Kd.R_types bE.o aH.o (by decide)) (fun _ hk => hk.2) (.slice aZ aY.length a4)) (fun _ hk => hk.2) (.slice a8 a7.length a9)) (fun _ hk => hk.2) (.int .i64 ab)) (fun _ hk => hk.1.2)⟩, ⟨by (with_reducible repeat (first | apply Kd.S_alloc | apply Kd.S_drewN | apply Kd.S_drew)); exact Kd.S_mono (Kd.S_far (p := ⟨aJ, 2, none⟩) (Kd.S_far (p := ⟨aJ, 1, none⟩) (Kd.S_far (p := ⟨aJ, 0, none⟩) (Kd.S_types bF.o aH.o (by decide)) (fun _ hk => hk.2) (.slice aZ aY.length a4)) (fun _ hk => hk.2) (.slice a8 a7.length a9)) (fun _ hk => hk.2) (.int .i64 ab)) (fun _ hk => hk.1.2)⟩, ⟨by (with_reducible repeat (first | refine qAe ?_ _ | refine qAg ?_ | refine qAd ?_ _)); refine qA5 ?_ ac.o _; (with_reducible repeat (first | refine qAe ?_ _ | refine qAg ?_ | refine qAd ?_ _)); refine qA5 ?_ ac.o _; (with_reducible repeat (first | refine qAe ?_ _ | refine qAg ?_ | refine qAd ?_ _)); refine qA5 ?_ ac.o _; (with_reducible repeat (first | refine qAe ?_ _ | refine qAg ?_ | refine qAd ?_ _)); exact aG.o⟩, ⟨by (with_reducible repeat (first | refine qAe ?_ _ | refine qAg ?_ | refine qAd ?_ _)); refine qAz (cs := #[.slice aZ aY.length a4, .slice a8 a7.length a9, .int .i64 0]) ?_ 2 _ rfl; (with_reducible repeat (first | refine qAe ?_ _ | refine qAg ?_ | refine qAd ?_ _)); refine qAz (cs := #[.slice aZ aY.length a4, .slice none 0 0, .int .i64 0]) ?_ 1 _ rfl; (with_reducible repeat (first | refine qAe ?_ _ | refine qAg ?_ | refine qAd ?_ _)); refine qAz (cs := #[.slice none 0 0, .slice none 0 0, .int .i64 0]) ?_ 0 _ rfl; (with_reducible repeat (first | refine qAe ?_ _ | refine qAg ?_ | refine qAd ?_ _)); exact aH.o⟩, ⟨by repeat (first | (with_reducible first | exact HB.o | apply qAf | apply qAc | apply qAh | refine qAb ?_ aK.o | refine qAb ?_ aT.o) | exact HB.o)⟩⟩
    rw [if_neg cL] at H
    have bM : (bD == 0) = false := bf cL
    have cM : (bD != 0) = true := bne_iff_ne.mpr cL
    (first | rw [bM] | (simp only [qBz, i32_w]; rw [bM]) | skip)
    by_cases cV : a1 < 0
    ·rw [if_pos cV] at H
     replace cV := d1 cV
     have H' := am H
     clear H
     go_wp2
     go_meet
     case rel => exact ⟨_, (true), (by first | rfl | (simp; done) | (simp [*]; done)), H', ⟨by have := d7.o; first | omega | exact Nat.le_refl _⟩, ⟨by (with_reducible repeat (first | apply Kd.R_alloc | apply Kd.R_drewN | apply Kd.R_drew)); exact Kd.R_mono (Kd.R_far (p := ⟨aJ, 2, none⟩) (Kd.R_far (p := ⟨aJ, 1, none⟩) (Kd.R_far (p := ⟨aJ, 0, none⟩) (Kd.R_types aA.o aH.o (by decide)) (fun _ hk => hk.2) (.slice aZ aY.length a4)) (fun _ hk => hk.2) (.slice a8 a7.length a9)) (fun _ hk => hk.2) (.int .i64 ab)) (fun _ hk => hk.1.2)⟩, ⟨by (with_reducible repeat (first | apply Kd.S_alloc | apply Kd.S_drewN | apply Kd.S_drew)); exact Kd.S_mono (Kd.S_far (p := ⟨aJ, 2, none⟩) (Kd.S_far (p := ⟨aJ, 1, none⟩) (Kd.S_far (p := ⟨aJ, 0, none⟩) (Kd.S_types aC.o aH.o (by decide)) (fun _ hk => hk.2) (.slice aZ aY.length a4)) (fun _ hk => hk.2) (.slice a8 a7.length a9)) (fun _ hk => hk.2) (.int .i64 ab)) (fun _ hk => hk.1.2)⟩, ⟨by (with_reducible repeat (first | apply Kd.R_alloc | apply Kd.R_drewN | apply Kd.R_drew)); exact Kd.R_mono (Kd.R_far (p := ⟨aJ, 2, none⟩) (Kd.R_far (p := ⟨aJ, 1, none⟩) (Kd.R_far (p := ⟨aJ, 0, none⟩) (Kd.R_types bE.o aH.o (by decide)) (fun _ hk => hk.2) (.slice aZ aY.length a4)) (fun _ hk => hk.2) (.slice a8 a7.length a9)) (fun _ hk => hk.2) (.int .i64 ab)) (fun _ hk => hk.1.2)⟩, ⟨by (with_reducible repeat (first | apply Kd.S_alloc | apply Kd.S_drewN | apply Kd.S_drew)); exact Kd.S_mono (Kd.S_far (p := ⟨aJ, 2, none⟩) (Kd.S_far (p := ⟨aJ, 1, none⟩) (Kd.S_far (p := ⟨aJ, 0, none⟩) (Kd.S_types bF.o aH.o (by decide)) (fun _ hk => hk.2) (.slice aZ aY.length a4)) (fun _ hk => hk.2) (.slice a8 a7.length a9)) (fun _ hk => hk.2) (.int .i64 ab)) (fun _ hk => hk.1.2)⟩, ⟨by (with_reducible repeat (first | refine qAe ?_ _ | refine qAg ?_ | refine qAd ?_ _)); refine qA5 ?_ ac.o _; (with_reducible repeat (first | refine qAe ?_ _ | refine qAg ?_ | refine qAd ?_ _)); refine qA5 ?_ ac.o _; (with_reducible repeat (first | refine qAe ?_ _ | refine qAg ?_ | refine qAd ?_ _)); refine qA5 ?_ ac.o _; (with_reducible repeat (first | refine qAe ?_ _ | refine qAg ?_ | refine qAd ?_ _)); exact aG.o⟩, ⟨by (with_reducible repeat (first | refine qAe ?_ _ | refine qAg ?_ | refine qAd ?_ _)); refine qAz (cs := #[.slice aZ aY.length a4, .slice a8 a7.length a9, .int .i64 0]) ?_ 2 _ rfl; (with_reducible repeat (first | refine qAe ?_ _ | refine qAg ?_ | refine qAd ?_ _)); refine qAz (cs := #[.slice aZ aY.length a4, .slice none 0 0, .int .i64 0]) ?_ 1 _ rfl; (with_reducible repeat (first | refine qAe ?_ _ | refine qAg ?_ | refine qAd ?_ _)); refine qAz (cs := #[.slice none 0 0, .slice none 0 0, .int .i64 0]) ?_ 0 _ rfl; (with_reducible repeat (first | refine qAe ?_ _ | refine qAg ?_ | refine qAd ?_ _)); exact aH.o⟩, ⟨by repeat (first | (with_reducible first | exact HB.o | apply qAf | apply qAc | apply qAh | refine qAb ?_ aK.o | refine qAb ?_ aT.o) | exact HB.o)⟩⟩
    rw [if_neg cV] at H
    replace cV := d0 cV
    have H' := am H
    clear H
    go_wp2
    go_meet
    case rel => exact ⟨_, (decide (a1 ≥ (l0.length : Int))), (by first | rfl | (simp; done) | (simp [*]; done)), H', ⟨by have := d7.o; first | omega | exact Nat.le_refl _⟩, ⟨by (with_reducible repeat (first | apply Kd.R_alloc | apply Kd.R_drewN | apply Kd.R_drew)); exact Kd.R_mono (Kd.R_far (p := ⟨aJ, 2, none⟩) (Kd.R_far (p := ⟨aJ, 1, none⟩) (Kd.R_far (p := ⟨aJ, 0, none⟩) (Kd.R_types aA.o aH.o (by decide)) (fun _ hk => hk.2) (.slice aZ aY.length a4)) (fun _ hk => hk.2) (.slice a8 a7.length a9)) (fun _ hk => hk.2) (.int .i64 ab)) (fun _ hk => hk.1.2)⟩, ⟨by (with_reducible repeat (first | apply Kd.S_alloc | apply Kd.S_drewN | apply Kd.S_drew)); exact Kd.S_mono (Kd.S_far (p := ⟨aJ, 2, none⟩) (Kd.S_far (p := ⟨aJ, 1, none⟩) (Kd.S_far (p := ⟨aJ, 0, none⟩) (Kd.S_types aC.o aH.o (by decide)) (fun _ hk => hk.2) (.slice aZ aY.length a4)) (fun _ hk => hk.2) (.slice a8 a7.length a9)) (fun _ hk => hk.2) (.int .i64 ab)) (fun _ hk => hk.1.2)⟩, ⟨by (with_reducible repeat (first | apply Kd.R_alloc | apply Kd.R_drewN | apply Kd.R_drew)); exact Kd.R_mono (Kd.R_far (p := ⟨aJ, 2, none⟩) (Kd.R_far (p := ⟨aJ, 1, none⟩) (Kd.R_far (p := ⟨aJ, 0, none⟩) (Kd.R_types bE.o aH.o (by decide)) (fun _ hk => hk.2) (.slice aZ aY.length a4)) (fun _ hk => hk.2) (.slice a8 a7.length a9)) (fun _ hk => hk.2) (.int .i64 ab)) (fun _ hk => hk.1.2)⟩, ⟨by (with_reducible repeat (first | apply Kd.S_alloc | apply Kd.S_drewN | apply Kd.S_drew)); exact Kd.S_mono (Kd.S_far (p := ⟨aJ, 2, none⟩) (Kd.S_far (p := ⟨aJ, 1, none⟩) (Kd.S_far (p := ⟨aJ, 0, none⟩) (Kd.S_types bF.o aH.o (by decide)) (fun _ hk => hk.2) (.slice aZ aY.length a4)) (fun _ hk => hk.2) (.slice a8 a7.length a9)) (fun _ hk => hk.2) (.int .i64 ab)) (fun _ hk => hk.1.2)⟩, ⟨by (with_reducible repeat (first | refine qAe ?_ _ | refine qAg ?_ | refine qAd ?_ _)); refine qA5 ?_ ac.o _; (with_reducible repeat (first | refine qAe ?_ _ | refine qAg ?_ | refine qAd ?_ _)); refine qA5 ?_ ac.o _; (with_reducible repeat (first | refine qAe ?_ _ | refine qAg ?_ | refine qAd ?_ _)); refine qA5 ?_ ac.o _; (with_reducible repeat (first | refine qAe ?_ _ | refine qAg ?_ | refine qAd ?_ _)); exact aG.o⟩, ⟨by (with_reducible repeat (first | refine qAe ?_ _ | refine qAg ?_ | refine qAd ?_ _)); refine qAz (cs := #[.slice aZ aY.length a4, .slice a8 a7.length a9, .int .i64 0]) ?_ 2 _ rfl; (with_reducible repeat (first | refine qAe ?_ _ | refine qAg ?_ | refine qAd ?_ _)); refine qAz (cs := #[.slice aZ aY.length a4, .slice none 0 0, .int .i64 0]) ?_ 1 _ rfl; (with_reducible repeat (first | refine qAe ?_ _ | refine qAg ?_ | refine qAd ?_ _)); refine qAz (cs := #[.slice none 0 0, .slice none 0 0, .int .i64 0]) ?_ 0 _ rfl; (with_reducible repeat (first | refine qAe ?_ _ | refine qAg ?_ | refine qAd ?_ _)); exact aH.o⟩, ⟨by repeat (first | (with_reducible first | exact HB.o | apply qAf | apply qAc | apply qAh | refine qAb ?_ aK.o | refine qAb ?_ aT.o) | exact HB.o)⟩⟩
   case rest =>
    clear cR
    obtain ⟨kq, bO, rfl, HA, e3, aA, aC, aD, aE, aG, aH, HB⟩ := hcut
    cases kq with
    | zero => exact absurd HA.o (by simp [foundrylaw17_ImageTurned.j1])
    | succ bC =>
     have H := HA.o
     clear HA
     simp only [foundrylaw17_ImageTurned.j1] at H
     by_cases dG : bO = true
     ·subst dG
      replace H : (some (bD != 0)) = some r := by rw [if_pos rfl] at H; exact H
      obtain rfl := Option.some.inj H
      go_wp2
      go_ret
      exact ⟨by first | rfl | (simp [errW_none, errW_some] <;> rfl) | (simp [*, errW_none, errW_some] <;> rfl), by repeat (first | (with_reducible first | exact HB.o | apply qAf | apply qAc | apply qAh | refine qAb ?_ aK.o | refine qAb ?_ aT.o) | exact HB.o)⟩
     replace dG := Bool.eq_false_iff.mpr dG
     subst dG
     replace H : (if 0 ≤ a1 then (if a1 ≤ (l0.length : Int) then ((qAi.f bC (l0.take (a1 : Int).toNat)).bind fun bl => ((some (([] : List Int) : List Int)).bind fun ar => (if ar.length + l0.length < 140737488355328 then ((some (ar ++ l0 : List Int)).bind fun aU => (if a1 < (aU.length : Int) then ((qAi.f bC (aU.set (a1 : Int).toNat (Go.bits .xor .u8 (rd aU a1) a2))).bind fun aq => (if bl.2.2.2 = 53 then (if a2 = 0 then (some true) else (some (aq.2.2.2 == 53))) else (some false))) else (none))) else (none)))) else (none)) else (none)) = some r := by rw [if_neg (show ¬ (false = true) by decide)] at H; exact H
     obtain ⟨ct, H⟩ := gd H
     have dv := eq_true ct
     replace ct := d1 ct
     obtain ⟨cu, H⟩ := gd H
     have dx := eq_true cu
     replace cu := d1 cu
     replace H := bm H
     obtain ⟨⟨cY, cZ, ca, bA⟩, cj, H⟩ := H
     replace H : ((some (([] : List Int) : List Int)).bind fun ar => (if ar.length + l0.length < 140737488355328 then ((some (ar ++ l0 : List Int)).bind fun aU => (if a1 < (aU.length : Int) then ((qAi.f bC (aU.set (a1 : Int).toNat (Go.bits .xor .u8 (rd aU a1) a2))).bind fun aq => (if bA = 53 then (if a2 = 0 then (some true) else (some (aq.2.2.2 == 53))) else (some false))) else (none))) else (none))) = some r := H
     have d3 := am cj
     clear cj
     obtain ⟨ar, b2⟩ : ∃ y_ : List Int, y_ = (([] : List Int)) := ⟨_, rfl⟩
     replace H : (if ar.length + l0.length < 140737488355328 then ((some (ar ++ l0 : List Int)).bind fun aU => (if a1 < (aU.length : Int) then ((qAi.f bC (aU.set (a1 : Int).toNat (Go.bits .xor .u8 (rd aU a1) a2))).bind fun aq => (if bA = 53 then (if a2 = 0 then (some true) else (some (aq.2.2.2 == 53))) else (some false))) else (none))) else (none)) = some r := by first | (rw [b2]; with_reducible exact H) | (have H2_ := (Option.bind_some _ _).symm.trans H; rw [b2]; with_reducible exact H2_) | (have H2_ := (Option.bind_some _ _).symm.trans H; with_reducible exact H2_) | with_reducible exact H | (rw [b2]; exact H) | exact H
     have bL := am b2
     clear b2
     obtain ⟨dH, H⟩ := gd H
     have bh := am dH
     clear dH
     obtain ⟨aU, b3⟩ : ∃ y_ : List Int, y_ = (ar ++ l0) := ⟨_, rfl⟩
     replace H : (if a1 < (aU.length : Int) then ((qAi.f bC (aU.set (a1 : Int).toNat (Go.bits .xor .u8 (rd aU a1) a2))).bind fun aq => (if bA = 53 then (if a2 = 0 then (some true) else (some (aq.2.2.2 == 53))) else (some false))) else (none)) = some r := by first | (rw [b3]; with_reducible exact H) | (have H2_ := (Option.bind_some _ _).symm.trans H; rw [b3]; with_reducible exact H2_) | (have H2_ := (Option.bind_some _ _).symm.trans H; with_reducible exact H2_) | with_reducible exact H | (rw [b3]; exact H) | exact H
     have bi := am b3
     clear b3
     obtain ⟨dI, H⟩ := gd H
     replace dI := d1 dI
     obtain ⟨au, b4⟩ : ∃ y_ : List Int, y_ = (aU.set (a1 : Int).toNat (Go.bits .xor .u8 (rd aU a1) a2)) := ⟨_, rfl⟩
     replace H : ((qAi.f bC au).bind fun aq => (if bA = 53 then (if a2 = 0 then (some true) else (some (aq.2.2.2 == 53))) else (some false))) = some r := by first | (rw [b4]; with_reducible exact H) | (have H2_ := (Option.bind_some _ _).symm.trans H; rw [b4]; with_reducible exact H2_) | (have H2_ := (Option.bind_some _ _).symm.trans H; with_reducible exact H2_) | with_reducible exact H | (rw [b4]; exact H) | exact H
     have bj := am b4
     clear b4
     replace H := bm H
     obtain ⟨⟨cc, cd, ce, cG⟩, ck, H⟩ := H
     replace H : (if bA = 53 then (if a2 = 0 then (some true) else (some (cG == 53))) else (some false)) = some r := H
     have d4 := am ck
     clear ck
     by_cases cW : bA = 53
     rotate_left
     ·rw [if_neg cW] at H
      have cv : (bA == 53) = false := bf cW
      have cw : (bA != 53) = true := bne_iff_ne.mpr cW
      obtain rfl := Option.some.inj H
      obtain ⟨i075, cQ, _, hsz75, _⟩ := info_parts info5
      obtain ⟨hcut75, hA75, hC75⟩ := qCj (P := Try.prog) (Value.int .u8) 0 22 5 .i64 Try.underlying22 cQ hsz75 A0 c0 l0 a1 (of_decide_eq_true (by first | (with_reducible assumption) | assumption)) (of_decide_eq_true (by first | (with_reducible assumption) | assumption)) dF.o
      have bT := am (Kd.C_of_reads (h1 := fun _ => rfl) (hA75 _ (Kd.reads_of_C cI.o)))
      have bQ := am hC75
      clear hA75 hC75 cQ hsz75
      go_wp2_with (first | ((with_reducible refine qAu (f := 13) rfl ?_); refine qAL (some 56) rfl rfl Try.func13 (by kernel_rfl) rfl #[.slice A0 (l0.take (a1 : Int).toNat).length c0] rfl (by (try simp only [List.map_toArray, List.map_cons, List.map_nil]); first | done | (rw [show (l0.take (a1 : Int).toNat).length = a1.toNat from (by rw [List.length_take]; have h_ : (a1 : Int) ≤ (l0.length : Int) := of_decide_eq_true (by first | (with_reducible assumption) | assumption); omega)] <;> rfl) | rfl | (simp only [List.length_drop, List.length_take]; rfl)) ?_; (with_reducible refine (qAi.calls bC _ _ (l0.take (a1 : Int).toNat) cY cZ ca bA _ ?side1 ?side2 d3.o).mono ?_); (case side1 => repeat (first | exact (Kd.C_below bT.o HB.o) | (with_reducible refine Kd.C_alloc ?_ _) | (with_reducible refine Kd.C_drewN ?_ _) | (with_reducible refine Kd.C_drew ?_))); (case side2 => exact bQ.o); rintro e fE ⟨dA, dB, rfl, ao, ap, hb⟩; refine ⟨_, rfl, ?_⟩; have n0_ := am (Kd.R_elder' (by (with_reducible repeat (first | apply Kd.R_alloc | apply Kd.R_drewN | apply Kd.R_drew)); exact aA.o) (Kd.R_base ao) hb); have n1_ := am (Kd.S_elder' (by (with_reducible repeat (first | apply Kd.S_alloc | apply Kd.S_drewN | apply Kd.S_drew)); exact aC.o) (Kd.S_base ap) hb); have n2_ := am (Kd.R_elder' (by (with_reducible repeat (first | apply Kd.R_alloc | apply Kd.R_drewN | apply Kd.R_drew)); exact aD.o) (Kd.R_base ao) hb); have n3_ := am (Kd.S_elder' (by (with_reducible repeat (first | apply Kd.S_alloc | apply Kd.S_drewN | apply Kd.S_drew)); exact aE.o) (Kd.S_base ap) hb); have n4_ := am (Kd.R_lower (Kd.R_new' (Kd.R_new' ao (Kd.R_lt (by (with_reducible repeat (first | apply Kd.R_alloc | apply Kd.R_drewN | apply Kd.R_drew)); exact aA.o))) (Kd.R_lt (by (with_reducible repeat (first | apply Kd.R_alloc | apply Kd.R_drewN | apply Kd.R_drew)); exact aD.o))) (qAo (by repeat (first | (with_reducible first | exact HB.o | apply qAf | apply qAc | apply qAh | refine qAb ?_ aK.o | refine qAb ?_ aT.o) | exact HB.o)))); have n5_ := am (Kd.S_lower (Kd.S_new' (Kd.S_new' ap (Kd.S_lt (by (with_reducible repeat (first | apply Kd.S_alloc | apply Kd.S_drewN | apply Kd.S_drew)); exact aC.o))) (Kd.S_lt (by (with_reducible repeat (first | apply Kd.S_alloc | apply Kd.S_drewN | apply Kd.S_drew)); exact aE.o))) (qAo (by repeat (first | (with_reducible first | exact HB.o | apply qAf | apply qAc | apply qAh | refine qAb ?_ aK.o | refine qAb ?_ aT.o) | exact HB.o)))); have n6_ := am (qAn (g := aM) (o := .cells #[.slice af aV.length ag, .slice a5 aX.length a6, .int .i64 aa] 47 (0, 0)) (by (with_reducible repeat (first | refine qAe ?_ _ | refine qAg ?_ | refine qAd ?_ _)); exact aG.o) hb); have n7_ := am (qAn (g := aJ) (o := .cells #[.slice aZ aY.length a4, .slice a8 a7.length a9, .int .i64 ab] 47 (0, 0)) (by (with_reducible repeat (first | refine qAe ?_ _ | refine qAg ?_ | refine qAd ?_ _)); exact aH.o) hb); have n8_ := am (qAx (by repeat (first | (with_reducible first | exact HB.o | apply qAf | apply qAc | apply qAh | refine qAb ?_ aK.o | refine qAb ?_ aT.o) | exact HB.o)) hb); clear aA; clear aC; clear aD; clear aE; clear aG; clear aH; clear HB; have aA := n0_; have aC := n1_; have aD := n2_; have aE := n3_; have aN := n4_; have aQ := n5_; have aG := n6_; have aH := n7_; have HB := n8_; clear n0_ n1_ n2_ n3_ n4_ n5_ n6_ n7_ n8_) | ((with_reducible refine qAQ (N := 59) rfl ?_); (try (refine qAN (by rfl) ?_; dsimp only)); refine Kd.R_lit (Kd.int .u8) _ 5 ?hg (N := 59) ?hd (xs := ([] : List Int)) (inner := []) (ok := fun _ => True) (okp := fun _ => True) ?hr ?hp (fun _ hk => hk) trivial (Below.refl _ _) (Nat.le_refl _) (by simp) ?_; (case hd => rfl); (case hg => rfl); (case hr => first | (go_simp; done) | (go_simp; rfl)); (case hp => exact (Reps.none _ _)); intro bu fF ho78 hb hg_ hnew_; clear hg_ hnew_; (first | rw [← bL.o] at ho78 | (simp only [Int.reduceToNat] at ho78; rw [← bL.o] at ho78)); have n0_ := am (Kd.R_below (by (with_reducible repeat (first | apply Kd.R_alloc | apply Kd.R_drewN | apply Kd.R_drew)); exact aA.o) hb); have n1_ := am (Kd.S_below (by (with_reducible repeat (first | apply Kd.S_alloc | apply Kd.S_drewN | apply Kd.S_drew)); exact aC.o) hb); have n2_ := am (Kd.R_below (by (with_reducible repeat (first | apply Kd.R_alloc | apply Kd.R_drewN | apply Kd.R_drew)); exact aD.o) hb); have n3_ := am (Kd.S_below (by (with_reducible repeat (first | apply Kd.S_alloc | apply Kd.S_drewN | apply Kd.S_drew)); exact aE.o) hb); have n4_ := am (Kd.R_below (by (with_reducible repeat (first | apply Kd.R_alloc | apply Kd.R_drewN | apply Kd.R_drew)); exact aN.o) hb); have n5_ := am (Kd.S_below (by (with_reducible repeat (first | apply Kd.S_alloc | apply Kd.S_drewN | apply Kd.S_drew)); exact aQ.o) hb); have n6_ := am (Kd.R_lower ho78 (qAo (by repeat (first | (with_reducible first | exact HB.o | apply qAf | apply qAc | apply qAh | refine qAb ?_ aK.o | refine qAb ?_ aT.o) | exact HB.o)))); have n7_ := am (qAn (g := aM) (o := .cells #[.slice af aV.length ag, .slice a5 aX.length a6, .int .i64 aa] 47 (0, 0)) (by (with_reducible repeat (first | refine qAe ?_ _ | refine qAg ?_ | refine qAd ?_ _)); exact aG.o) hb); have n8_ := am (qAn (g := aJ) (o := .cells #[.slice aZ aY.length a4, .slice a8 a7.length a9, .int .i64 ab] 47 (0, 0)) (by (with_reducible repeat (first | refine qAe ?_ _ | refine qAg ?_ | refine qAd ?_ _)); exact aH.o) hb); have n9_ := am (qAx (by repeat (first | (with_reducible first | exact HB.o | apply qAf | apply qAc | apply qAh | refine qAb ?_ aK.o | refine qAb ?_ aT.o) | exact HB.o)) hb); clear aA; clear aC; clear aD; clear aE; clear aN; clear aQ; clear aG; clear aH; clear HB; have aA := n0_; have aC := n1_; have aD := n2_; have aE := n3_; have aN := n4_; have aQ := n5_; have aW := n6_; have aG := n7_; have aH := n8_; have HB := n9_; clear n0_ n1_ n2_ n3_ n4_ n5_ n6_ n7_ n8_ n9_; clear hb ho78) | ((with_reducible refine qBj (b := .append) (xs := #[.tmp 59, .tmp 60]) rfl ?_); (try (refine qAN (by rfl) ?_; dsimp only)); at_builtin; refine Kd.R_append_rows (Kd.int .u8) (w0 := w) w.heap.size rfl (.tmp 59) (.tmp 60) 22 5 (.int .u8 0) 1 rfl Try.underlying22 info5 rfl (by decide) (by omega) bu ar l0 _ _ _ (fun _ => True) (fun _ => False) rfl rfl ?aO ?aR (fun _ _ h => h) (fun _ h => h.elim) ?aF ?aB ?aS ?aL ?_; (case aR => repeat (first | exact (Kd.C_below cI.o HB.o) | (with_reducible refine Kd.C_alloc ?_ _) | (with_reducible refine Kd.C_drewN ?_ _) | (with_reducible refine Kd.C_drew ?_))); (case aB => exact (by repeat (first | (with_reducible first | exact HB.o | apply qAf | apply qAc | apply qAh | refine qAb ?_ aK.o | refine qAb ?_ aT.o) | exact HB.o))); (case aF => exact (fun _ _ => trivial)); (case aO => exact (by (with_reducible repeat (first | apply Kd.R_alloc | apply Kd.R_drewN | apply Kd.R_drew)); exact aW.o)); (case aS => exact (qAo (by repeat (first | (with_reducible first | exact HB.o | apply qAf | apply qAc | apply qAh | refine qAb ?_ aK.o | refine qAb ?_ aT.o) | exact HB.o)))); (case aL => have := bh.o; omega); intro dC eQ ho hb hg bz; rw [← bi.o] at ho; have n0_ := am (Kd.R_over' (by (with_reducible repeat (first | apply Kd.R_alloc | apply Kd.R_drewN | apply Kd.R_drew)); exact aA.o) (Kd.R_typed (by (with_reducible repeat (first | apply Kd.R_alloc | apply Kd.R_drewN | apply Kd.R_drew)); exact aW.o)) (by decide) hg); have n1_ := am (Kd.S_over' (by (with_reducible repeat (first | apply Kd.S_alloc | apply Kd.S_drewN | apply Kd.S_drew)); exact aC.o) (Kd.R_typed (by (with_reducible repeat (first | apply Kd.R_alloc | apply Kd.R_drewN | apply Kd.R_drew)); exact aW.o)) (by decide) hg); have n2_ := am (Kd.R_over' (by (with_reducible repeat (first | apply Kd.R_alloc | apply Kd.R_drewN | apply Kd.R_drew)); exact aD.o) (Kd.R_typed (by (with_reducible repeat (first | apply Kd.R_alloc | apply Kd.R_drewN | apply Kd.R_drew)); exact aW.o)) (by decide) hg); have n3_ := am (Kd.S_over' (by (with_reducible repeat (first | apply Kd.S_alloc | apply Kd.S_drewN | apply Kd.S_drew)); exact aE.o) (Kd.R_typed (by (with_reducible repeat (first | apply Kd.R_alloc | apply Kd.R_drewN | apply Kd.R_drew)); exact aW.o)) (by decide) hg); have n4_ := am (qAD (g := aM) (o := .cells #[.slice af aV.length ag, .slice a5 aX.length a6, .int .i64 aa] 47 (0, 0)) (by (with_reducible repeat (first | refine qAe ?_ _ | refine qAg ?_ | refine qAd ?_ _)); exact aG.o) hg (Kd.R_ne aW.o aG.o (by decide))); have n5_ := am (qAD (g := aJ) (o := .cells #[.slice aZ aY.length a4, .slice a8 a7.length a9, .int .i64 ab] 47 (0, 0)) (by (with_reducible repeat (first | refine qAe ?_ _ | refine qAg ?_ | refine qAd ?_ _)); exact aH.o) hg (Kd.R_ne aW.o aH.o (by decide))); have n6_ := am (Kd.R_over' (by (with_reducible repeat (first | apply Kd.R_alloc | apply Kd.R_drewN | apply Kd.R_drew)); exact aN.o) (Kd.R_typed (by (with_reducible repeat (first | apply Kd.R_alloc | apply Kd.R_drewN | apply Kd.R_drew)); exact aW.o)) (by decide) hg); have n7_ := am (Kd.S_over' (by (with_reducible repeat (first | apply Kd.S_alloc | apply Kd.S_drewN | apply Kd.S_drew)); exact aQ.o) (Kd.R_typed (by (with_reducible repeat (first | apply Kd.R_alloc | apply Kd.R_drewN | apply Kd.R_drew)); exact aW.o)) (by decide) hg); have n8_ := am (hb); have n9_ := am (ho); clear aA; clear aC; clear aD; clear aE; clear aG; clear aH; clear aN; clear aQ; clear HB; clear aW; have aA := n0_; have aC := n1_; have aD := n2_; have aE := n3_; have aG := n4_; have aH := n5_; have aN := n6_; have aQ := n7_; have HB := n8_; have aI := n9_; clear n0_ n1_ n2_ n3_ n4_ n5_ n6_ n7_ n8_ n9_; clear ho hb hg bz; obtain ⟨e0, bW, dj⟩ := Kd.R_slice aI.o; subst dj; have bI : 0 ≤ (a1 : Int) := of_decide_eq_true (by first | (with_reducible assumption) | assumption); have bJ : a1 < (aU.length : Int) := of_decide_eq_true (by first | (with_reducible assumption) | assumption); obtain ⟨cK, bp, ay⟩ := Kd.at_int (Kd.R_reads' aI.o).2.2 a1 bI bJ; cases bp; replace bI := eq_true bI; replace bJ := eq_true bJ; have br : 0 ≤ (a1 : Int) := of_decide_eq_true (by first | (with_reducible assumption) | assumption); have bs : (a1 : Int) < ((aU.length : Int) : Int) := of_decide_eq_true (by first | (with_reducible assumption) | assumption); obtain ⟨go41, cz, bX, bY, gl41, cl41, HG41⟩ := Kd.R_form aI.o (by omega); (first | cases bX | (injection bX with ea_ en_ ec_; (first | subst ea_ | (injection ea_ with ea_; subst ea_)); subst ec_; clear en_)); have GB41 := am bY; have GG41 := am HG41; clear bY gl41 HG41; (first | simp only [qCn] at ay | skip); obtain ⟨bq, hf41_0⟩ := Kd.R_celln 0 aI.o (a1 : Int) br bs; replace br := eq_true br; replace bs := eq_true bs; obtain ⟨hy81_, hz81_⟩ := Kd.R_celln 0 aI.o (a1 : Int) (of_decide_eq_true (by first | (with_reducible assumption) | assumption)) (of_decide_eq_true (by first | (with_reducible assumption) | assumption)); have cU := Kd.R_putg aI.o (a1 : Int) (Go.bits .xor .u8 (rd aU a1) a2)) | ((with_reducible refine qBC (t := 5) (p := 70) rfl ?_); refine qB4 (t := 5) (p := 70) (v := ?vo_w82) (w1 := (eQ.setCell ⟨go41, (a1 : Int).toNat, none⟩ (.int .u8 (Go.bits .xor .u8 (rd aU a1) a2)))) ?hg ?ho ?hn ?hr ?_; (case ho => rfl); (case hg => rfl); (case hn => rfl); (case hr => first | (go_simp; done) | (go_simp; rfl)); intro dr hw; have hg : eQ.grownBy dr (some go41) := (by rw [hw]; exact cU.2); have hp_ : Kd.R (Kd.int .u8) 5 dr w.heap.size (fun _ => True) (.slice (some ⟨go41, 0, none⟩) aU.length bW) au := (by rw [hw, bj.o]; exact cU.1); clear cU; have n0_ := am (Kd.R_over' (v := (.slice (some ⟨go41, 0, none⟩) aU.length bW)) (by (with_reducible repeat (first | apply Kd.R_alloc | apply Kd.R_drewN | apply Kd.R_drew)); exact aA.o) (Kd.R_typed aI.o) (by decide) hg); have n1_ := am (Kd.S_over' (v := (.slice (some ⟨go41, 0, none⟩) aU.length bW)) (by (with_reducible repeat (first | apply Kd.S_alloc | apply Kd.S_drewN | apply Kd.S_drew)); exact aC.o) (Kd.R_typed aI.o) (by decide) hg); have n2_ := am (Kd.R_over' (v := (.slice (some ⟨go41, 0, none⟩) aU.length bW)) (by (with_reducible repeat (first | apply Kd.R_alloc | apply Kd.R_drewN | apply Kd.R_drew)); exact aD.o) (Kd.R_typed aI.o) (by decide) hg); have n3_ := am (Kd.S_over' (v := (.slice (some ⟨go41, 0, none⟩) aU.length bW)) (by (with_reducible repeat (first | apply Kd.S_alloc | apply Kd.S_drewN | apply Kd.S_drew)); exact aE.o) (Kd.R_typed aI.o) (by decide) hg); have n4_ := am (qAD (g := aM) (o := .cells #[.slice af aV.length ag, .slice a5 aX.length a6, .int .i64 aa] 47 (0, 0)) (by (with_reducible repeat (first | refine qAe ?_ _ | refine qAg ?_ | refine qAd ?_ _)); exact aG.o) hg (Kd.R_ne aI.o aG.o (by decide))); have n5_ := am (qAD (g := aJ) (o := .cells #[.slice aZ aY.length a4, .slice a8 a7.length a9, .int .i64 ab] 47 (0, 0)) (by (with_reducible repeat (first | refine qAe ?_ _ | refine qAg ?_ | refine qAd ?_ _)); exact aH.o) hg (Kd.R_ne aI.o aH.o (by decide))); have n6_ := am (Kd.R_over' (v := (.slice (some ⟨go41, 0, none⟩) aU.length bW)) (by (with_reducible repeat (first | apply Kd.R_alloc | apply Kd.R_drewN | apply Kd.R_drew)); exact aN.o) (Kd.R_typed aI.o) (by decide) hg); have n7_ := am (Kd.S_over' (v := (.slice (some ⟨go41, 0, none⟩) aU.length bW)) (by (with_reducible repeat (first | apply Kd.S_alloc | apply Kd.S_drewN | apply Kd.S_drew)); exact aQ.o) (Kd.R_typed aI.o) (by decide) hg); have n8_ := am (hp_); have n9_ := am ((by rw [hw]; exact qAb (HB.o) GB41.o : Below w.heap.size w dr)); clear aA; clear aC; clear aD; clear aE; clear aG; clear aH; clear aN; clear aQ; clear aI; clear HB; have aA := n0_; have aC := n1_; have aD := n2_; have aE := n3_; have aG := n4_; have aH := n5_; have aN := n6_; have aQ := n7_; have aI := n8_; have HB := n9_; clear n0_ n1_ n2_ n3_ n4_ n5_ n6_ n7_ n8_ n9_; clear hg hw hp_) | ((with_reducible refine qAu (f := 13) rfl ?_); refine qAL (some 73) rfl rfl Try.func13 (by kernel_rfl) rfl #[.slice (some ⟨go41, 0, none⟩) au.length bW] rfl (by (try simp only [List.map_toArray, List.map_cons, List.map_nil]); first | done | (rw [show au.length = aU.length from (Kd.R_reads' aI.o).1.symm] <;> rfl) | rfl | (simp only [List.length_drop, List.length_take]; rfl)) ?_; (with_reducible refine (qAi.calls bC _ _ au cc cd ce cG _ ?side1 ?side2 d4.o).mono ?_); (case side1 => repeat (first | exact (Kd.R_reads' aI.o).2.2 | (with_reducible refine Kd.C_alloc ?_ _) | (with_reducible refine Kd.C_drewN ?_ _) | (with_reducible refine Kd.C_drew ?_))); (case side2 => rw [show au.length = aU.length from (Kd.R_reads' aI.o).1.symm]; exact (Kd.R_reads' aI.o).2.1); rintro e fG ⟨dD, dE, rfl, ao, ap, hb⟩; refine ⟨_, rfl, ?_⟩; have n0_ := am (Kd.R_elder' (by (with_reducible repeat (first | apply Kd.R_alloc | apply Kd.R_drewN | apply Kd.R_drew)); exact aA.o) (Kd.R_base ao) hb); have n1_ := am (Kd.S_elder' (by (with_reducible repeat (first | apply Kd.S_alloc | apply Kd.S_drewN | apply Kd.S_drew)); exact aC.o) (Kd.S_base ap) hb); have n2_ := am (Kd.R_elder' (by (with_reducible repeat (first | apply Kd.R_alloc | apply Kd.R_drewN | apply Kd.R_drew)); exact aD.o) (Kd.R_base ao) hb); have n3_ := am (Kd.S_elder' (by (with_reducible repeat (first | apply Kd.S_alloc | apply Kd.S_drewN | apply Kd.S_drew)); exact aE.o) (Kd.S_base ap) hb); have n4_ := am (Kd.R_elder' (by (with_reducible repeat (first | apply Kd.R_alloc | apply Kd.R_drewN | apply Kd.R_drew)); exact aN.o) (Kd.R_base ao) hb); have n5_ := am (Kd.S_elder' (by (with_reducible repeat (first | apply Kd.S_alloc | apply Kd.S_drewN | apply Kd.S_drew)); exact aQ.o) (Kd.S_base ap) hb); have n6_ := am (Kd.R_below (by (with_reducible repeat (first | apply Kd.R_alloc | apply Kd.R_drewN | apply Kd.R_drew)); exact aI.o) hb); have n7_ := am (Kd.R_lower (Kd.R_new' (Kd.R_new' (Kd.R_new' ao (Kd.R_lt (by (with_reducible repeat (first | apply Kd.R_alloc | apply Kd.R_drewN | apply Kd.R_drew)); exact aA.o))) (Kd.R_lt (by (with_reducible repeat (first | apply Kd.R_alloc | apply Kd.R_drewN | apply Kd.R_drew)); exact aD.o))) (Kd.R_lt (by (with_reducible repeat (first | apply Kd.R_alloc | apply Kd.R_drewN | apply Kd.R_drew)); exact aN.o))) (qAo (by repeat (first | (with_reducible first | exact HB.o | apply qAf | apply qAc | apply qAh | refine qAb ?_ aK.o | refine qAb ?_ aT.o) | exact HB.o)))); have n8_ := am (Kd.S_lower (Kd.S_new' (Kd.S_new' (Kd.S_new' ap (Kd.S_lt (by (with_reducible repeat (first | apply Kd.S_alloc | apply Kd.S_drewN | apply Kd.S_drew)); exact aC.o))) (Kd.S_lt (by (with_reducible repeat (first | apply Kd.S_alloc | apply Kd.S_drewN | apply Kd.S_drew)); exact aE.o))) (Kd.S_lt (by (with_reducible repeat (first | apply Kd.S_alloc | apply Kd.S_drewN | apply Kd.S_drew)); exact aQ.o))) (qAo (by repeat (first | (with_reducible first | exact HB.o | apply qAf | apply qAc | apply qAh | refine qAb ?_ aK.o | refine qAb ?_ aT.o) | exact HB.o)))); have n9_ := am (qAn (g := aM) (o := .cells #[.slice af aV.length ag, .slice a5 aX.length a6, .int .i64 aa] 47 (0, 0)) (by (with_reducible repeat (first | refine qAe ?_ _ | refine qAg ?_ | refine qAd ?_ _)); exact aG.o) hb); have n10_ := am (qAn (g := aJ) (o := .cells #[.slice aZ aY.length a4, .slice a8 a7.length a9, .int .i64 ab] 47 (0, 0)) (by (with_reducible repeat (first | refine qAe ?_ _ | refine qAg ?_ | refine qAd ?_ _)); exact aH.o) hb); have n11_ := am (qAx (by repeat (first | (with_reducible first | exact HB.o | apply qAf | apply qAc | apply qAh | refine qAb ?_ aK.o | refine qAb ?_ aT.o) | exact HB.o)) hb); clear aA; clear aC; clear aD; clear aE; clear aN; clear aQ; clear aI; clear aG; clear aH; clear HB; have aA := n0_; have aC := n1_; have aD := n2_; have aE := n3_; have aN := n4_; have aQ := n5_; have aI := n6_; have ah := n7_; have ai := n8_; have aG := n9_; have aH := n10_; have HB := n11_; clear n0_ n1_ n2_ n3_ n4_ n5_ n6_ n7_ n8_ n9_ n10_ n11_) | ((with_reducible refine qAQ (N := 14) rfl ?_); (try (refine qAN (by rfl) ?_; dsimp only)); refine qAS ?hg (N := 14) ?hd (cs := #[.slice none 0 0, .slice none 0 0, .int .i64 0]) (t := 47) ?hr ?_; (case hd => rfl); (case hg => rfl); (case hr => first | (go_simp; done) | (go_simp; rfl)); intro ae hg em hbox hb; have n0_ := am (Kd.R_below (by (with_reducible repeat (first | apply Kd.R_alloc | apply Kd.R_drewN | apply Kd.R_drew)); exact aA.o) hb); have n1_ := am (Kd.S_below (by (with_reducible repeat (first | apply Kd.S_alloc | apply Kd.S_drewN | apply Kd.S_drew)); exact aC.o) hb); have n2_ := am (Kd.R_below (by (with_reducible repeat (first | apply Kd.R_alloc | apply Kd.R_drewN | apply Kd.R_drew)); exact aD.o) hb); have n3_ := am (Kd.S_below (by (with_reducible repeat (first | apply Kd.S_alloc | apply Kd.S_drewN | apply Kd.S_drew)); exact aE.o) hb); have n4_ := am (Kd.R_below (by (with_reducible repeat (first | apply Kd.R_alloc | apply Kd.R_drewN | apply Kd.R_drew)); exact aN.o) hb); have n5_ := am (Kd.S_below (by (with_reducible repeat (first | apply Kd.S_alloc | apply Kd.S_drewN | apply Kd.S_drew)); exact aQ.o) hb); have n6_ := am (Kd.R_below (by (with_reducible repeat (first | apply Kd.R_alloc | apply Kd.R_drewN | apply Kd.R_drew)); exact aI.o) hb); have n7_ := am (Kd.R_below (by (with_reducible repeat (first | apply Kd.R_alloc | apply Kd.R_drewN | apply Kd.R_drew)); exact ah.o) hb); have n8_ := am (Kd.S_below (by (with_reducible repeat (first | apply Kd.S_alloc | apply Kd.S_drewN | apply Kd.S_drew)); exact ai.o) hb); have n9_ := am (qAn (g := aM) (o := .cells #[.slice af aV.length ag, .slice a5 aX.length a6, .int .i64 aa] 47 (0, 0)) (by (with_reducible repeat (first | refine qAe ?_ _ | refine qAg ?_ | refine qAd ?_ _)); exact aG.o) hb); have n10_ := am (qAn (g := aJ) (o := .cells #[.slice aZ aY.length a4, .slice a8 a7.length a9, .int .i64 ab] 47 (0, 0)) (by (with_reducible repeat (first | refine qAe ?_ _ | refine qAg ?_ | refine qAd ?_ _)); exact aH.o) hb); have n11_ := am (qAx (by repeat (first | (with_reducible first | exact HB.o | apply qAf | apply qAc | apply qAh | refine qAb ?_ aK.o | refine qAb ?_ aT.o) | exact HB.o)) hb); have n12_ := am (hbox); have n13_ := am ((by rw [hg]; exact (qAo (by repeat (first | (with_reducible first | exact HB.o | apply qAf | apply qAc | apply qAh | refine qAb ?_ aK.o | refine qAb ?_ aT.o) | exact HB.o))) : w.heap.size ≤ ae)); have n14_ := am ((by rw [hg]; exact (qAo (by repeat (first | (with_reducible first | exact HB.o | apply qAf | apply qAc | apply qAh | refine qAb ?_ aK.o | refine qAb ?_ aT.o) | exact HB.o))) : w.heap.size ≤ ae)); have n15_ := am ((by rw [hg]; exact Nat.ne_of_lt (qA2 (g := aM) (o := .cells #[.slice af aV.length ag, .slice a5 aX.length a6, .int .i64 aa] 47 (0, 0)) (by (with_reducible repeat (first | refine qAe ?_ _ | refine qAg ?_ | refine qAd ?_ _)); exact aG.o)) : aM ≠ ae)); have n16_ := am ((by rw [hg]; exact Nat.ne_of_gt (qA2 (g := aM) (o := .cells #[.slice af aV.length ag, .slice a5 aX.length a6, .int .i64 aa] 47 (0, 0)) (by (with_reducible repeat (first | refine qAe ?_ _ | refine qAg ?_ | refine qAd ?_ _)); exact aG.o)) : ae ≠ aM)); have n17_ := am ((by rw [hg]; exact Nat.ne_of_lt (qA2 (g := aJ) (o := .cells #[.slice aZ aY.length a4, .slice a8 a7.length a9, .int .i64 ab] 47 (0, 0)) (by (with_reducible repeat (first | refine qAe ?_ _ | refine qAg ?_ | refine qAd ?_ _)); exact aH.o)) : aJ ≠ ae)); have n18_ := am ((by rw [hg]; exact Nat.ne_of_gt (qA2 (g := aJ) (o := .cells #[.slice aZ aY.length a4, .slice a8 a7.length a9, .int .i64 ab] 47 (0, 0)) (by (with_reducible repeat (first | refine qAe ?_ _ | refine qAg ?_ | refine qAd ?_ _)); exact aH.o)) : ae ≠ aJ)); clear aA; clear aC; clear aD; clear aE; clear aN; clear aQ; clear aI; clear ah; clear ai; clear aG; clear aH; clear HB; have aA := n0_; have aC := n1_; have aD := n2_; have aE := n3_; have aN := n4_; have aQ := n5_; have aI := n6_; have ah := n7_; have ai := n8_; have aG := n9_; have aH := n10_; have HB := n11_; have bB := n12_; have cH := n13_; have bP := n14_; have aj := n15_; have al := n16_; have ak := n17_; have an := n18_; clear n0_ n1_ n2_ n3_ n4_ n5_ n6_ n7_ n8_ n9_ n10_ n11_ n12_ n13_ n14_ n15_ n16_ n17_ n18_; clear hb hbox hg; obtain ⟨e1, e9, dk⟩ := Kd.R_slice ah.o; subst dk; have eF := al.o; have eM := aj.o; have eG := an.o; have eN := ak.o; obtain ⟨dP, dQ, dR⟩ := c3_ em bB.o; obtain ⟨dY, dZ, d2⟩ := z3_ bB.o; obtain ⟨e2, ea, dl⟩ := Kd.S_slice ai.o; subst dl))
      go_ret
      exact ⟨by first | rfl | (simp [errW_none, errW_some] <;> rfl) | (simp [*, errW_none, errW_some] <;> rfl), by repeat (first | (with_reducible first | exact HB.o | apply qAf | apply qAc | apply qAh | refine qAb ?_ aK.o | refine qAb ?_ aT.o | refine qAb ?_ bP.o) | exact HB.o)⟩
     rw [if_pos cW] at H
     have cv : (bA == 53) = true := beq_iff_eq.mpr cW
     have cw : (bA != 53) = false := bn cW
     clear cW
     by_cases cX : a2 = 0
     rotate_left
     ·rw [if_neg cX] at H
      have cx : (a2 == 0) = false := bf cX
      have cy : (a2 != 0) = true := bne_iff_ne.mpr cX
      obtain rfl := Option.some.inj H
      obtain ⟨i060, cP, _, hsz60, _⟩ := info_parts info5
      obtain ⟨hcut60, hA60, hC60⟩ := qCj (P := Try.prog) (Value.int .u8) 0 22 5 .i64 Try.underlying22 cP hsz60 A0 c0 l0 a1 (of_decide_eq_true (by first | (with_reducible assumption) | assumption)) (of_decide_eq_true (by first | (with_reducible assumption) | assumption)) dF.o
      have bT := am (Kd.C_of_reads (h1 := fun _ => rfl) (hA60 _ (Kd.reads_of_C cI.o)))
      have bQ := am hC60
      clear hA60 hC60 cP hsz60
      go_wp2_with (first | ((with_reducible refine qAu (f := 13) rfl ?_); refine qAL (some 56) rfl rfl Try.func13 (by kernel_rfl) rfl #[.slice A0 (l0.take (a1 : Int).toNat).length c0] rfl (by (try simp only [List.map_toArray, List.map_cons, List.map_nil]); first | done | (rw [show (l0.take (a1 : Int).toNat).length = a1.toNat from (by rw [List.length_take]; have h_ : (a1 : Int) ≤ (l0.length : Int) := of_decide_eq_true (by first | (with_reducible assumption) | assumption); omega)] <;> rfl) | rfl | (simp only [List.length_drop, List.length_take]; rfl)) ?_; (with_reducible refine (qAi.calls bC _ _ (l0.take (a1 : Int).toNat) cY cZ ca bA _ ?side1 ?side2 d3.o).mono ?_); (case side1 => repeat (first | exact (Kd.C_below bT.o HB.o) | (with_reducible refine Kd.C_alloc ?_ _) | (with_reducible refine Kd.C_drewN ?_ _) | (with_reducible refine Kd.C_drew ?_))); (case side2 => exact bQ.o); rintro e fB ⟨dA, dB, rfl, ao, ap, hb⟩; refine ⟨_, rfl, ?_⟩; have n0_ := am (Kd.R_elder' (by (with_reducible repeat (first | apply Kd.R_alloc | apply Kd.R_drewN | apply Kd.R_drew)); exact aA.o) (Kd.R_base ao) hb); have n1_ := am (Kd.S_elder' (by (with_reducible repeat (first | apply Kd.S_alloc | apply Kd.S_drewN | apply Kd.S_drew)); exact aC.o) (Kd.S_base ap) hb); have n2_ := am (Kd.R_elder' (by (with_reducible repeat (first | apply Kd.R_alloc | apply Kd.R_drewN | apply Kd.R_drew)); exact aD.o) (Kd.R_base ao) hb); have n3_ := am (Kd.S_elder' (by (with_reducible repeat (first | apply Kd.S_alloc | apply Kd.S_drewN | apply Kd.S_drew)); exact aE.o) (Kd.S_base ap) hb); have n4_ := am (Kd.R_lower (Kd.R_new' (Kd.R_new' ao (Kd.R_lt (by (with_reducible repeat (first | apply Kd.R_alloc | apply Kd.R_drewN | apply Kd.R_drew)); exact aA.o))) (Kd.R_lt (by (with_reducible repeat (first | apply Kd.R_alloc | apply Kd.R_drewN | apply Kd.R_drew)); exact aD.o))) (qAo (by repeat (first | (with_reducible first | exact HB.o | apply qAf | apply qAc | apply qAh | refine qAb ?_ aK.o | refine qAb ?_ aT.o) | exact HB.o)))); have n5_ := am (Kd.S_lower (Kd.S_new' (Kd.S_new' ap (Kd.S_lt (by (with_reducible repeat (first | apply Kd.S_alloc | apply Kd.S_drewN | apply Kd.S_drew)); exact aC.o))) (Kd.S_lt (by (with_reducible repeat (first | apply Kd.S_alloc | apply Kd.S_drewN | apply Kd.S_drew)); exact aE.o))) (qAo (by repeat (first | (with_reducible first | exact HB.o | apply qAf | apply qAc | apply qAh | refine qAb ?_ aK.o | refine qAb ?_ aT.o) | exact HB.o)))); have n6_ := am (qAn (g := aM) (o := .cells #[.slice af aV.length ag, .slice a5 aX.length a6, .int .i64 aa] 47 (0, 0)) (by (with_reducible repeat (first | refine qAe ?_ _ | refine qAg ?_ | refine qAd ?_ _)); exact aG.o) hb); have n7_ := am (qAn (g := aJ) (o := .cells #[.slice aZ aY.length a4, .slice a8 a7.length a9, .int .i64 ab] 47 (0, 0)) (by (with_reducible repeat (first | refine qAe ?_ _ | refine qAg ?_ | refine qAd ?_ _)); exact aH.o) hb); have n8_ := am (qAx (by repeat (first | (with_reducible first | exact HB.o | apply qAf | apply qAc | apply qAh | refine qAb ?_ aK.o | refine qAb ?_ aT.o) | exact HB.o)) hb); clear aA; clear aC; clear aD; clear aE; clear aG; clear aH; clear HB; have aA := n0_; have aC := n1_; have aD := n2_; have aE := n3_; have aN := n4_; have aQ := n5_; have aG := n6_; have aH := n7_; have HB := n8_; clear n0_ n1_ n2_ n3_ n4_ n5_ n6_ n7_ n8_) | ((with_reducible refine qAQ (N := 59) rfl ?_); (try (refine qAN (by rfl) ?_; dsimp only)); refine Kd.R_lit (Kd.int .u8) _ 5 ?hg (N := 59) ?hd (xs := ([] : List Int)) (inner := []) (ok := fun _ => True) (okp := fun _ => True) ?hr ?hp (fun _ hk => hk) trivial (Below.refl _ _) (Nat.le_refl _) (by simp) ?_; (case hd => rfl); (case hg => rfl); (case hr => first | (go_simp; done) | (go_simp; rfl)); (case hp => exact (Reps.none _ _)); intro bu fC ho63 hb hg_ hnew_; clear hg_ hnew_; (first | rw [← bL.o] at ho63 | (simp only [Int.reduceToNat] at ho63; rw [← bL.o] at ho63)); have n0_ := am (Kd.R_below (by (with_reducible repeat (first | apply Kd.R_alloc | apply Kd.R_drewN | apply Kd.R_drew)); exact aA.o) hb); have n1_ := am (Kd.S_below (by (with_reducible repeat (first | apply Kd.S_alloc | apply Kd.S_drewN | apply Kd.S_drew)); exact aC.o) hb); have n2_ := am (Kd.R_below (by (with_reducible repeat (first | apply Kd.R_alloc | apply Kd.R_drewN | apply Kd.R_drew)); exact aD.o) hb); have n3_ := am (Kd.S_below (by (with_reducible repeat (first | apply Kd.S_alloc | apply Kd.S_drewN | apply Kd.S_drew)); exact aE.o) hb); have n4_ := am (Kd.R_below (by (with_reducible repeat (first | apply Kd.R_alloc | apply Kd.R_drewN | apply Kd.R_drew)); exact aN.o) hb); have n5_ := am (Kd.S_below (by (with_reducible repeat (first | apply Kd.S_alloc | apply Kd.S_drewN | apply Kd.S_drew)); exact aQ.o) hb); have n6_ := am (Kd.R_lower ho63 (qAo (by repeat (first | (with_reducible first | exact HB.o | apply qAf | apply qAc | apply qAh | refine qAb ?_ aK.o | refine qAb ?_ aT.o) | exact HB.o)))); have n7_ := am (qAn (g := aM) (o := .cells #[.slice af aV.length ag, .slice a5 aX.length a6, .int .i64 aa] 47 (0, 0)) (by (with_reducible repeat (first | refine qAe ?_ _ | refine qAg ?_ | refine qAd ?_ _)); exact aG.o) hb); have n8_ := am (qAn (g := aJ) (o := .cells #[.slice aZ aY.length a4, .slice a8 a7.length a9, .int .i64 ab] 47 (0, 0)) (by (with_reducible repeat (first | refine qAe ?_ _ | refine qAg ?_ | refine qAd ?_ _)); exact aH.o) hb); have n9_ := am (qAx (by repeat (first | (with_reducible first | exact HB.o | apply qAf | apply qAc | apply qAh | refine qAb ?_ aK.o | refine qAb ?_ aT.o) | exact HB.o)) hb); clear aA; clear aC; clear aD; clear aE; clear aN; clear aQ; clear aG; clear aH; clear HB; have aA := n0_; have aC := n1_; have aD := n2_; have aE := n3_; have aN := n4_; have aQ := n5_; have aW := n6_; have aG := n7_; have aH := n8_; have HB := n9_; clear n0_ n1_ n2_ n3_ n4_ n5_ n6_ n7_ n8_ n9_; clear hb ho63) | ((with_reducible refine qBj (b := .append) (xs := #[.tmp 59, .tmp 60]) rfl ?_); (try (refine qAN (by rfl) ?_; dsimp only)); at_builtin; refine Kd.R_append_rows (Kd.int .u8) (w0 := w) w.heap.size rfl (.tmp 59) (.tmp 60) 22 5 (.int .u8 0) 1 rfl Try.underlying22 info5 rfl (by decide) (by omega) bu ar l0 _ _ _ (fun _ => True) (fun _ => False) rfl rfl ?aO ?aR (fun _ _ h => h) (fun _ h => h.elim) ?aF ?aB ?aS ?aL ?_; (case aR => repeat (first | exact (Kd.C_below cI.o HB.o) | (with_reducible refine Kd.C_alloc ?_ _) | (with_reducible refine Kd.C_drewN ?_ _) | (with_reducible refine Kd.C_drew ?_))); (case aB => exact (by repeat (first | (with_reducible first | exact HB.o | apply qAf | apply qAc | apply qAh | refine qAb ?_ aK.o | refine qAb ?_ aT.o) | exact HB.o))); (case aF => exact (fun _ _ => trivial)); (case aO => exact (by (with_reducible repeat (first | apply Kd.R_alloc | apply Kd.R_drewN | apply Kd.R_drew)); exact aW.o)); (case aS => exact (qAo (by repeat (first | (with_reducible first | exact HB.o | apply qAf | apply qAc | apply qAh | refine qAb ?_ aK.o | refine qAb ?_ aT.o) | exact HB.o)))); (case aL => have := bh.o; omega); intro dC eP ho hb hg bz; rw [← bi.o] at ho; have n0_ := am (Kd.R_over' (by (with_reducible repeat (first | apply Kd.R_alloc | apply Kd.R_drewN | apply Kd.R_drew)); exact aA.o) (Kd.R_typed (by (with_reducible repeat (first | apply Kd.R_alloc | apply Kd.R_drewN | apply Kd.R_drew)); exact aW.o)) (by decide) hg); have n1_ := am (Kd.S_over' (by (with_reducible repeat (first | apply Kd.S_alloc | apply Kd.S_drewN | apply Kd.S_drew)); exact aC.o) (Kd.R_typed (by (with_reducible repeat (first | apply Kd.R_alloc | apply Kd.R_drewN | apply Kd.R_drew)); exact aW.o)) (by decide) hg); have n2_ := am (Kd.R_over' (by (with_reducible repeat (first | apply Kd.R_alloc | apply Kd.R_drewN | apply Kd.R_drew)); exact aD.o) (Kd.R_typed (by (with_reducible repeat (first | apply Kd.R_alloc | apply Kd.R_drewN | apply Kd.R_drew)); exact aW.o)) (by decide) hg); have n3_ := am (Kd.S_over' (by (with_reducible repeat (first | apply Kd.S_alloc | apply Kd.S_drewN | apply Kd.S_drew)); exact aE.o) (Kd.R_typed (by (with_reducible repeat (first | apply Kd.R_alloc | apply Kd.R_drewN | apply Kd.R_drew)); exact aW.o)) (by decide) hg); have n4_ := am (qAD (g := aM) (o := .cells #[.slice af aV.length ag, .slice a5 aX.length a6, .int .i64 aa] 47 (0, 0)) (by (with_reducible repeat (first | refine qAe ?_ _ | refine qAg ?_ | refine qAd ?_ _)); exact aG.o) hg (Kd.R_ne aW.o aG.o (by decide))); have n5_ := am (qAD (g := aJ) (o := .cells #[.slice aZ aY.length a4, .slice a8 a7.length a9, .int .i64 ab] 47 (0, 0)) (by (with_reducible repeat (first | refine qAe ?_ _ | refine qAg ?_ | refine qAd ?_ _)); exact aH.o) hg (Kd.R_ne aW.o aH.o (by decide))); have n6_ := am (Kd.R_over' (by (with_reducible repeat (first | apply Kd.R_alloc | apply Kd.R_drewN | apply Kd.R_drew)); exact aN.o) (Kd.R_typed (by (with_reducible repeat (first | apply Kd.R_alloc | apply Kd.R_drewN | apply Kd.R_drew)); exact aW.o)) (by decide) hg); have n7_ := am (Kd.S_over' (by (with_reducible repeat (first | apply Kd.S_alloc | apply Kd.S_drewN | apply Kd.S_drew)); exact aQ.o) (Kd.R_typed (by (with_reducible repeat (first | apply Kd.R_alloc | apply Kd.R_drewN | apply Kd.R_drew)); exact aW.o)) (by decide) hg); have n8_ := am (hb); have n9_ := am (ho); clear aA; clear aC; clear aD; clear aE; clear aG; clear aH; clear aN; clear aQ; clear HB; clear aW; have aA := n0_; have aC := n1_; have aD := n2_; have aE := n3_; have aG := n4_; have aH := n5_; have aN := n6_; have aQ := n7_; have HB := n8_; have aI := n9_; clear n0_ n1_ n2_ n3_ n4_ n5_ n6_ n7_ n8_ n9_; clear ho hb hg bz; obtain ⟨eX, bV, dg⟩ := Kd.R_slice aI.o; subst dg; have bI : 0 ≤ (a1 : Int) := of_decide_eq_true (by first | (with_reducible assumption) | assumption); have bJ : a1 < (aU.length : Int) := of_decide_eq_true (by first | (with_reducible assumption) | assumption); obtain ⟨cK, bp, ay⟩ := Kd.at_int (Kd.R_reads' aI.o).2.2 a1 bI bJ; cases bp; replace bI := eq_true bI; replace bJ := eq_true bJ; have br : 0 ≤ (a1 : Int) := of_decide_eq_true (by first | (with_reducible assumption) | assumption); have bs : (a1 : Int) < ((aU.length : Int) : Int) := of_decide_eq_true (by first | (with_reducible assumption) | assumption); obtain ⟨go41, cz, bX, bY, gl41, cl41, HG41⟩ := Kd.R_form aI.o (by omega); (first | cases bX | (injection bX with ea_ en_ ec_; (first | subst ea_ | (injection ea_ with ea_; subst ea_)); subst ec_; clear en_)); have GB41 := am bY; have GG41 := am HG41; clear bY gl41 HG41; (first | simp only [qCn] at ay | skip); obtain ⟨bq, hf41_0⟩ := Kd.R_celln 0 aI.o (a1 : Int) br bs; replace br := eq_true br; replace bs := eq_true bs; obtain ⟨hy66_, hz66_⟩ := Kd.R_celln 0 aI.o (a1 : Int) (of_decide_eq_true (by first | (with_reducible assumption) | assumption)) (of_decide_eq_true (by first | (with_reducible assumption) | assumption)); have cT := Kd.R_putg aI.o (a1 : Int) (Go.bits .xor .u8 (rd aU a1) a2)) | ((with_reducible refine qBC (t := 5) (p := 70) rfl ?_); refine qB4 (t := 5) (p := 70) (v := ?vo_w67) (w1 := (eP.setCell ⟨go41, (a1 : Int).toNat, none⟩ (.int .u8 (Go.bits .xor .u8 (rd aU a1) a2)))) ?hg ?ho ?hn ?hr ?_; (case ho => rfl); (case hg => rfl); (case hn => rfl); (case hr => first | (go_simp; done) | (go_simp; rfl)); intro dq hw; have hg : eP.grownBy dq (some go41) := (by rw [hw]; exact cT.2); have hp_ : Kd.R (Kd.int .u8) 5 dq w.heap.size (fun _ => True) (.slice (some ⟨go41, 0, none⟩) aU.length bV) au := (by rw [hw, bj.o]; exact cT.1); clear cT; have n0_ := am (Kd.R_over' (v := (.slice (some ⟨go41, 0, none⟩) aU.length bV)) (by (with_reducible repeat (first | apply Kd.R_alloc | apply Kd.R_drewN | apply Kd.R_drew)); exact aA.o) (Kd.R_typed aI.o) (by decide) hg); have n1_ := am (Kd.S_over' (v := (.slice (some ⟨go41, 0, none⟩) aU.length bV)) (by (with_reducible repeat (first | apply Kd.S_alloc | apply Kd.S_drewN | apply Kd.S_drew)); exact aC.o) (Kd.R_typed aI.o) (by decide) hg); have n2_ := am (Kd.R_over' (v := (.slice (some ⟨go41, 0, none⟩) aU.length bV)) (by (with_reducible repeat (first | apply Kd.R_alloc | apply Kd.R_drewN | apply Kd.R_drew)); exact aD.o) (Kd.R_typed aI.o) (by decide) hg); have n3_ := am (Kd.S_over' (v := (.slice (some ⟨go41, 0, none⟩) aU.length bV)) (by (with_reducible repeat (first | apply Kd.S_alloc | apply Kd.S_drewN | apply Kd.S_drew)); exact aE.o) (Kd.R_typed aI.o) (by decide) hg); have n4_ := am (qAD (g := aM) (o := .cells #[.slice af aV.length ag, .slice a5 aX.length a6, .int .i64 aa] 47 (0, 0)) (by (with_reducible repeat (first | refine qAe ?_ _ | refine qAg ?_ | refine qAd ?_ _)); exact aG.o) hg (Kd.R_ne aI.o aG.o (by decide))); have n5_ := am (qAD (g := aJ) (o := .cells #[.slice aZ aY.length a4, .slice a8 a7.length a9, .int .i64 ab] 47 (0, 0)) (by (with_reducible repeat (first | refine qAe ?_ _ | refine qAg ?_ | refine qAd ?_ _)); exact aH.o) hg (Kd.R_ne aI.o aH.o (by decide))); have n6_ := am (Kd.R_over' (v := (.slice (some ⟨go41, 0, none⟩) aU.length bV)) (by (with_reducible repeat (first | apply Kd.R_alloc | apply Kd.R_drewN | apply Kd.R_drew)); exact aN.o) (Kd.R_typed aI.o) (by decide) hg); have n7_ := am (Kd.S_over' (v := (.slice (some ⟨go41, 0, none⟩) aU.length bV)) (by (with_reducible repeat (first | apply Kd.S_alloc | apply Kd.S_drewN | apply Kd.S_drew)); exact aQ.o) (Kd.R_typed aI.o) (by decide) hg); have n8_ := am (hp_); have n9_ := am ((by rw [hw]; exact qAb (HB.o) GB41.o : Below w.heap.size w dq)); clear aA; clear aC; clear aD; clear aE; clear aG; clear aH; clear aN; clear aQ; clear aI; clear HB; have aA := n0_; have aC := n1_; have aD := n2_; have aE := n3_; have aG := n4_; have aH := n5_; have aN := n6_; have aQ := n7_; have aI := n8_; have HB := n9_; clear n0_ n1_ n2_ n3_ n4_ n5_ n6_ n7_ n8_ n9_; clear hg hw hp_) | ((with_reducible refine qAu (f := 13) rfl ?_); refine qAL (some 73) rfl rfl Try.func13 (by kernel_rfl) rfl #[.slice (some ⟨go41, 0, none⟩) au.length bV] rfl (by (try simp only [List.map_toArray, List.map_cons, List.map_nil]); first | done | (rw [show au.length = aU.length from (Kd.R_reads' aI.o).1.symm] <;> rfl) | rfl | (simp only [List.length_drop, List.length_take]; rfl)) ?_; (with_reducible refine (qAi.calls bC _ _ au cc cd ce cG _ ?side1 ?side2 d4.o).mono ?_); (case side1 => repeat (first | exact (Kd.R_reads' aI.o).2.2 | (with_reducible refine Kd.C_alloc ?_ _) | (with_reducible refine Kd.C_drewN ?_ _) | (with_reducible refine Kd.C_drew ?_))); (case side2 => rw [show au.length = aU.length from (Kd.R_reads' aI.o).1.symm]; exact (Kd.R_reads' aI.o).2.1); rintro e fD ⟨dD, dE, rfl, ao, ap, hb⟩; refine ⟨_, rfl, ?_⟩; have n0_ := am (Kd.R_elder' (by (with_reducible repeat (first | apply Kd.R_alloc | apply Kd.R_drewN | apply Kd.R_drew)); exact aA.o) (Kd.R_base ao) hb); have n1_ := am (Kd.S_elder' (by (with_reducible repeat (first | apply Kd.S_alloc | apply Kd.S_drewN | apply Kd.S_drew)); exact aC.o) (Kd.S_base ap) hb); have n2_ := am (Kd.R_elder' (by (with_reducible repeat (first | apply Kd.R_alloc | apply Kd.R_drewN | apply Kd.R_drew)); exact aD.o) (Kd.R_base ao) hb); have n3_ := am (Kd.S_elder' (by (with_reducible repeat (first | apply Kd.S_alloc | apply Kd.S_drewN | apply Kd.S_drew)); exact aE.o) (Kd.S_base ap) hb); have n4_ := am (Kd.R_elder' (by (with_reducible repeat (first | apply Kd.R_alloc | apply Kd.R_drewN | apply Kd.R_drew)); exact aN.o) (Kd.R_base ao) hb); have n5_ := am (Kd.S_elder' (by (with_reducible repeat (first | apply Kd.S_alloc | apply Kd.S_drewN | apply Kd.S_drew)); exact aQ.o) (Kd.S_base ap) hb); have n6_ := am (Kd.R_below (by (with_reducible repeat (first | apply Kd.R_alloc | apply Kd.R_drewN | apply Kd.R_drew)); exact aI.o) hb); have n7_ := am (Kd.R_lower (Kd.R_new' (Kd.R_new' (Kd.R_new' ao (Kd.R_lt (by (with_reducible repeat (first | apply Kd.R_alloc | apply Kd.R_drewN | apply Kd.R_drew)); exact aA.o))) (Kd.R_lt (by (with_reducible repeat (first | apply Kd.R_alloc | apply Kd.R_drewN | apply Kd.R_drew)); exact aD.o))) (Kd.R_lt (by (with_reducible repeat (first | apply Kd.R_alloc | apply Kd.R_drewN | apply Kd.R_drew)); exact aN.o))) (qAo (by repeat (first | (with_reducible first | exact HB.o | apply qAf | apply qAc | apply qAh | refine qAb ?_ aK.o | refine qAb ?_ aT.o) | exact HB.o)))); have n8_ := am (Kd.S_lower (Kd.S_new' (Kd.S_new' (Kd.S_new' ap (Kd.S_lt (by (with_reducible repeat (first | apply Kd.S_alloc | apply Kd.S_drewN | apply Kd.S_drew)); exact aC.o))) (Kd.S_lt (by (with_reducible repeat (first | apply Kd.S_alloc | apply Kd.S_drewN | apply Kd.S_drew)); exact aE.o))) (Kd.S_lt (by (with_reducible repeat (first | apply Kd.S_alloc | apply Kd.S_drewN | apply Kd.S_drew)); exact aQ.o))) (qAo (by repeat (first | (with_reducible first | exact HB.o | apply qAf | apply qAc | apply qAh | refine qAb ?_ aK.o | refine qAb ?_ aT.o) | exact HB.o)))); have n9_ := am (qAn (g := aM) (o := .cells #[.slice af aV.length ag, .slice a5 aX.length a6, .int .i64 aa] 47 (0, 0)) (by (with_reducible repeat (first | refine qAe ?_ _ | refine qAg ?_ | refine qAd ?_ _)); exact aG.o) hb); have n10_ := am (qAn (g := aJ) (o := .cells #[.slice aZ aY.length a4, .slice a8 a7.length a9, .int .i64 ab] 47 (0, 0)) (by (with_reducible repeat (first | refine qAe ?_ _ | refine qAg ?_ | refine qAd ?_ _)); exact aH.o) hb); have n11_ := am (qAx (by repeat (first | (with_reducible first | exact HB.o | apply qAf | apply qAc | apply qAh | refine qAb ?_ aK.o | refine qAb ?_ aT.o) | exact HB.o)) hb); clear aA; clear aC; clear aD; clear aE; clear aN; clear aQ; clear aI; clear aG; clear aH; clear HB; have aA := n0_; have aC := n1_; have aD := n2_; have aE := n3_; have aN := n4_; have aQ := n5_; have aI := n6_; have ah := n7_; have ai := n8_; have aG := n9_; have aH := n10_; have HB := n11_; clear n0_ n1_ n2_ n3_ n4_ n5_ n6_ n7_ n8_ n9_ n10_ n11_) | ((with_reducible refine qAQ (N := 14) rfl ?_); (try (refine qAN (by rfl) ?_; dsimp only)); refine qAS ?hg (N := 14) ?hd (cs := #[.slice none 0 0, .slice none 0 0, .int .i64 0]) (t := 47) ?hr ?_; (case hd => rfl); (case hg => rfl); (case hr => first | (go_simp; done) | (go_simp; rfl)); intro ae hg el hbox hb; have n0_ := am (Kd.R_below (by (with_reducible repeat (first | apply Kd.R_alloc | apply Kd.R_drewN | apply Kd.R_drew)); exact aA.o) hb); have n1_ := am (Kd.S_below (by (with_reducible repeat (first | apply Kd.S_alloc | apply Kd.S_drewN | apply Kd.S_drew)); exact aC.o) hb); have n2_ := am (Kd.R_below (by (with_reducible repeat (first | apply Kd.R_alloc | apply Kd.R_drewN | apply Kd.R_drew)); exact aD.o) hb); have n3_ := am (Kd.S_below (by (with_reducible repeat (first | apply Kd.S_alloc | apply Kd.S_drewN | apply Kd.S_drew)); exact aE.o) hb); have n4_ := am (Kd.R_below (by (with_reducible repeat (first | apply Kd.R_alloc | apply Kd.R_drewN | apply Kd.R_drew)); exact aN.o) hb); have n5_ := am (Kd.S_below (by (with_reducible repeat (first | apply Kd.S_alloc | apply Kd.S_drewN | apply Kd.S_drew)); exact aQ.o) hb); have n6_ := am (Kd.R_below (by (with_reducible repeat (first | apply Kd.R_alloc | apply Kd.R_drewN | apply Kd.R_drew)); exact aI.o) hb); have n7_ := am (Kd.R_below (by (with_reducible repeat (first | apply Kd.R_alloc | apply Kd.R_drewN | apply Kd.R_drew)); exact ah.o) hb); have n8_ := am (Kd.S_below (by (with_reducible repeat (first | apply Kd.S_alloc | apply Kd.S_drewN | apply Kd.S_drew)); exact ai.o) hb); have n9_ := am (qAn (g := aM) (o := .cells #[.slice af aV.length ag, .slice a5 aX.length a6, .int .i64 aa] 47 (0, 0)) (by (with_reducible repeat (first | refine qAe ?_ _ | refine qAg ?_ | refine qAd ?_ _)); exact aG.o) hb); have n10_ := am (qAn (g := aJ) (o := .cells #[.slice aZ aY.length a4, .slice a8 a7.length a9, .int .i64 ab] 47 (0, 0)) (by (with_reducible repeat (first | refine qAe ?_ _ | refine qAg ?_ | refine qAd ?_ _)); exact aH.o) hb); have n11_ := am (qAx (by repeat (first | (with_reducible first | exact HB.o | apply qAf | apply qAc | apply qAh | refine qAb ?_ aK.o | refine qAb ?_ aT.o) | exact HB.o)) hb); have n12_ := am (hbox); have n13_ := am ((by rw [hg]; exact (qAo (by repeat (first | (with_reducible first | exact HB.o | apply qAf | apply qAc | apply qAh | refine qAb ?_ aK.o | refine qAb ?_ aT.o) | exact HB.o))) : w.heap.size ≤ ae)); have n14_ := am ((by rw [hg]; exact (qAo (by repeat (first | (with_reducible first | exact HB.o | apply qAf | apply qAc | apply qAh | refine qAb ?_ aK.o | refine qAb ?_ aT.o) | exact HB.o))) : w.heap.size ≤ ae)); have n15_ := am ((by rw [hg]; exact Nat.ne_of_lt (qA2 (g := aM) (o := .cells #[.slice af aV.length ag, .slice a5 aX.length a6, .int .i64 aa] 47 (0, 0)) (by (with_reducible repeat (first | refine qAe ?_ _ | refine qAg ?_ | refine qAd ?_ _)); exact aG.o)) : aM ≠ ae)); have n16_ := am ((by rw [hg]; exact Nat.ne_of_gt (qA2 (g := aM) (o := .cells #[.slice af aV.length ag, .slice a5 aX.length a6, .int .i64 aa] 47 (0, 0)) (by (with_reducible repeat (first | refine qAe ?_ _ | refine qAg ?_ | refine qAd ?_ _)); exact aG.o)) : ae ≠ aM)); have n17_ := am ((by rw [hg]; exact Nat.ne_of_lt (qA2 (g := aJ) (o := .cells #[.slice aZ aY.length a4, .slice a8 a7.length a9, .int .i64 ab] 47 (0, 0)) (by (with_reducible repeat (first | refine qAe ?_ _ | refine qAg ?_ | refine qAd ?_ _)); exact aH.o)) : aJ ≠ ae)); have n18_ := am ((by rw [hg]; exact Nat.ne_of_gt (qA2 (g := aJ) (o := .cells #[.slice aZ aY.length a4, .slice a8 a7.length a9, .int .i64 ab] 47 (0, 0)) (by (with_reducible repeat (first | refine qAe ?_ _ | refine qAg ?_ | refine qAd ?_ _)); exact aH.o)) : ae ≠ aJ)); clear aA; clear aC; clear aD; clear aE; clear aN; clear aQ; clear aI; clear ah; clear ai; clear aG; clear aH; clear HB; have aA := n0_; have aC := n1_; have aD := n2_; have aE := n3_; have aN := n4_; have aQ := n5_; have aI := n6_; have ah := n7_; have ai := n8_; have aG := n9_; have aH := n10_; have HB := n11_; have bB := n12_; have cH := n13_; have bP := n14_; have aj := n15_; have al := n16_; have ak := n17_; have an := n18_; clear n0_ n1_ n2_ n3_ n4_ n5_ n6_ n7_ n8_ n9_ n10_ n11_ n12_ n13_ n14_ n15_ n16_ n17_ n18_; clear hb hbox hg; obtain ⟨eY, e7, dh⟩ := Kd.R_slice ah.o; subst dh; have eD := al.o; have eK := aj.o; have eE := an.o; have eL := ak.o; obtain ⟨dM, dN, dO⟩ := c3_ el bB.o; obtain ⟨dV, dW, dX⟩ := z3_ bB.o; obtain ⟨eZ, e8, di⟩ := Kd.S_slice ai.o; subst di))
      go_ret
      exact ⟨by first | rfl | (simp [errW_none, errW_some] <;> rfl) | (simp [*, errW_none, errW_some] <;> rfl), by repeat (first | (with_reducible first | exact HB.o | apply qAf | apply qAc | apply qAh | refine qAb ?_ aK.o | refine qAb ?_ aT.o | refine qAb ?_ bP.o) | exact HB.o)⟩
     rw [if_pos cX] at H
     have cx : (a2 == 0) = true := beq_iff_eq.mpr cX
     have cy : (a2 != 0) = false := bn cX
     clear cX
     obtain rfl := Option.some.inj H
     obtain ⟨i045, cO, _, hsz45, _⟩ := info_parts info5
     obtain ⟨hcut45, hA45, hC45⟩ := qCj (P := Try.prog) (Value.int .u8) 0 22 5 .i64 Try.underlying22 cO hsz45 A0 c0 l0 a1 (of_decide_eq_true (by first | (with_reducible assumption) | assumption)) (of_decide_eq_true (by first | (with_reducible assumption) | assumption)) dF.o
     have bT := am (Kd.C_of_reads (h1 := fun _ => rfl) (hA45 _ (Kd.reads_of_C cI.o)))
     have bQ := am hC45
     clear hA45 hC45 cO hsz45
     go_wp2_with (first | ((with_reducible refine qAu (f := 13) rfl ?_); refine qAL (some 56) rfl rfl Try.func13 (by kernel_rfl) rfl #[.slice A0 (l0.take (a1 : Int).toNat).length c0] rfl (by (try simp only [List.map_toArray, List.map_cons, List.map_nil]); first | done | (rw [show (l0.take (a1 : Int).toNat).length = a1.toNat from (by rw [List.length_take]; have h_ : (a1 : Int) ≤ (l0.length : Int) := of_decide_eq_true (by first | (with_reducible assumption) | assumption); omega)] <;> rfl) | rfl | (simp only [List.length_drop, List.length_take]; rfl)) ?_; (with_reducible refine (qAi.calls bC _ _ (l0.take (a1 : Int).toNat) cY cZ ca bA _ ?side1 ?side2 d3.o).mono ?_); (case side1 => repeat (first | exact (Kd.C_below bT.o HB.o) | (with_reducible refine Kd.C_alloc ?_ _) | (with_reducible refine Kd.C_drewN ?_ _) | (with_reducible refine Kd.C_drew ?_))); (case side2 => exact bQ.o); rintro e ey ⟨dA, dB, rfl, ao, ap, hb⟩; refine ⟨_, rfl, ?_⟩; have n0_ := am (Kd.R_elder' (by (with_reducible repeat (first | apply Kd.R_alloc | apply Kd.R_drewN | apply Kd.R_drew)); exact aA.o) (Kd.R_base ao) hb); have n1_ := am (Kd.S_elder' (by (with_reducible repeat (first | apply Kd.S_alloc | apply Kd.S_drewN | apply Kd.S_drew)); exact aC.o) (Kd.S_base ap) hb); have n2_ := am (Kd.R_elder' (by (with_reducible repeat (first | apply Kd.R_alloc | apply Kd.R_drewN | apply Kd.R_drew)); exact aD.o) (Kd.R_base ao) hb); have n3_ := am (Kd.S_elder' (by (with_reducible repeat (first | apply Kd.S_alloc | apply Kd.S_drewN | apply Kd.S_drew)); exact aE.o) (Kd.S_base ap) hb); have n4_ := am (Kd.R_lower (Kd.R_new' (Kd.R_new' ao (Kd.R_lt (by (with_reducible repeat (first | apply Kd.R_alloc | apply Kd.R_drewN | apply Kd.R_drew)); exact aA.o))) (Kd.R_lt (by (with_reducible repeat (first | apply Kd.R_alloc | apply Kd.R_drewN | apply Kd.R_drew)); exact aD.o))) (qAo (by repeat (first | (with_reducible first | exact HB.o | apply qAf | apply qAc | apply qAh | refine qAb ?_ aK.o | refine qAb ?_ aT.o) | exact HB.o)))); have n5_ := am (Kd.S_lower (Kd.S_new' (Kd.S_new' ap (Kd.S_lt (by (with_reducible repeat (first | apply Kd.S_alloc | apply Kd.S_drewN | apply Kd.S_drew)); exact aC.o))) (Kd.S_lt (by (with_reducible repeat (first | apply Kd.S_alloc | apply Kd.S_drewN | apply Kd.S_drew)); exact aE.o))) (qAo (by repeat (first | (with_reducible first | exact HB.o | apply qAf | apply qAc | apply qAh | refine qAb ?_ aK.o | refine qAb ?_ aT.o) | exact HB.o)))); have n6_ := am (qAn (g := aM) (o := .cells #[.slice af aV.length ag, .slice a5 aX.length a6, .int .i64 aa] 47 (0, 0)) (by (with_reducible repeat (first | refine qAe ?_ _ | refine qAg ?_ | refine qAd ?_ _)); exact aG.o) hb); have n7_ := am (qAn (g := aJ) (o := .cells #[.slice aZ aY.length a4, .slice a8 a7.length a9, .int .i64 ab] 47 (0, 0)) (by (with_reducible repeat (first | refine qAe ?_ _ | refine qAg ?_ | refine qAd ?_ _)); exact aH.o) hb); have n8_ := am (qAx (by repeat (first | (with_reducible first | exact HB.o | apply qAf | apply qAc | apply qAh | refine qAb ?_ aK.o | refine qAb ?_ aT.o) | exact HB.o)) hb); clear aA; clear aC; clear aD; clear aE; clear aG; clear aH; clear HB; have aA := n0_; have aC := n1_; have aD := n2_; have aE := n3_; have aN := n4_; have aQ := n5_; have aG := n6_; have aH := n7_; have HB := n8_; clear n0_ n1_ n2_ n3_ n4_ n5_ n6_ n7_ n8_) | ((with_reducible refine qAQ (N := 59) rfl ?_); (try (refine qAN (by rfl) ?_; dsimp only)); refine Kd.R_lit (Kd.int .u8) _ 5 ?hg (N := 59) ?hd (xs := ([] : List Int)) (inner := []) (ok := fun _ => True) (okp := fun _ => True) ?hr ?hp (fun _ hk => hk) trivial (Below.refl _ _) (Nat.le_refl _) (by simp) ?_; (case hd => rfl); (case hg => rfl); (case hr => first | (go_simp; done) | (go_simp; rfl)); (case hp => exact (Reps.none _ _)); intro bu ez ho48 hb hg_ hnew_; clear hg_ hnew_; (first | rw [← bL.o] at ho48 | (simp only [Int.reduceToNat] at ho48; rw [← bL.o] at ho48)); have n0_ := am (Kd.R_below (by (with_reducible repeat (first | apply Kd.R_alloc | apply Kd.R_drewN | apply Kd.R_drew)); exact aA.o) hb); have n1_ := am (Kd.S_below (by (with_reducible repeat (first | apply Kd.S_alloc | apply Kd.S_drewN | apply Kd.S_drew)); exact aC.o) hb); have n2_ := am (Kd.R_below (by (with_reducible repeat (first | apply Kd.R_alloc | apply Kd.R_drewN | apply Kd.R_drew)); exact aD.o) hb); have n3_ := am (Kd.S_below (by (with_reducible repeat (first | apply Kd.S_alloc | apply Kd.S_drewN | apply Kd.S_drew)); exact aE.o) hb); have n4_ := am (Kd.R_below (by (with_reducible repeat (first | apply Kd.R_alloc | apply Kd.R_drewN | apply Kd.R_drew)); exact aN.o) hb); have n5_ := am (Kd.S_below (by (with_reducible repeat (first | apply Kd.S_alloc | apply Kd.S_drewN | apply Kd.S_drew)); exact aQ.o) hb); have n6_ := am (Kd.R_lower ho48 (qAo (by repeat (first | (with_reducible first | exact HB.o | apply qAf | apply qAc | apply qAh | refine qAb ?_ aK.o | refine qAb ?_ aT.o) | exact HB.o)))); have n7_ := am (qAn (g := aM) (o := .cells #[.slice af aV.length ag, .slice a5 aX.length a6, .int .i64 aa] 47 (0, 0)) (by (with_reducible repeat (first | refine qAe ?_ _ | refine qAg ?_ | refine qAd ?_ _)); exact aG.o) hb); have n8_ := am (qAn (g := aJ) (o := .cells #[.slice aZ aY.length a4, .slice a8 a7.length a9, .int .i64 ab] 47 (0, 0)) (by (with_reducible repeat (first | refine qAe ?_ _ | refine qAg ?_ | refine qAd ?_ _)); exact aH.o) hb); have n9_ := am (qAx (by repeat (first | (with_reducible first | exact HB.o | apply qAf | apply qAc | apply qAh | refine qAb ?_ aK.o | refine qAb ?_ aT.o) | exact HB.o)) hb); clear aA; clear aC; clear aD; clear aE; clear aN; clear aQ; clear aG; clear aH; clear HB; have aA := n0_; have aC := n1_; have aD := n2_; have aE := n3_; have aN := n4_; have aQ := n5_; have aW := n6_; have aG := n7_; have aH := n8_; have HB := n9_; clear n0_ n1_ n2_ n3_ n4_ n5_ n6_ n7_ n8_ n9_; clear hb ho48) | ((with_reducible refine qBj (b := .append) (xs := #[.tmp 59, .tmp 60]) rfl ?_); (try (refine qAN (by rfl) ?_; dsimp only)); at_builtin; refine Kd.R_append_rows (Kd.int .u8) (w0 := w) w.heap.size rfl (.tmp 59) (.tmp 60) 22 5 (.int .u8 0) 1 rfl Try.underlying22 info5 rfl (by decide) (by omega) bu ar l0 _ _ _ (fun _ => True) (fun _ => False) rfl rfl ?aO ?aR (fun _ _ h => h) (fun _ h => h.elim) ?aF ?aB ?aS ?aL ?_; (case aR => repeat (first | exact (Kd.C_below cI.o HB.o) | (with_reducible refine Kd.C_alloc ?_ _) | (with_reducible refine Kd.C_drewN ?_ _) | (with_reducible refine Kd.C_drew ?_))); (case aB => exact (by repeat (first | (with_reducible first | exact HB.o | apply qAf | apply qAc | apply qAh | refine qAb ?_ aK.o | refine qAb ?_ aT.o) | exact HB.o))); (case aF => exact (fun _ _ => trivial)); (case aO => exact (by (with_reducible repeat (first | apply Kd.R_alloc | apply Kd.R_drewN | apply Kd.R_drew)); exact aW.o)); (case aS => exact (qAo (by repeat (first | (with_reducible first | exact HB.o | apply qAf | apply qAc | apply qAh | refine qAb ?_ aK.o | refine qAb ?_ aT.o) | exact HB.o)))); (case aL => have := bh.o; omega); intro dC eO ho hb hg bz; rw [← bi.o] at ho; have n0_ := am (Kd.R_over' (by (with_reducible repeat (first | apply Kd.R_alloc | apply Kd.R_drewN | apply Kd.R_drew)); exact aA.o) (Kd.R_typed (by (with_reducible repeat (first | apply Kd.R_alloc | apply Kd.R_drewN | apply Kd.R_drew)); exact aW.o)) (by decide) hg); have n1_ := am (Kd.S_over' (by (with_reducible repeat (first | apply Kd.S_alloc | apply Kd.S_drewN | apply Kd.S_drew)); exact aC.o) (Kd.R_typed (by (with_reducible repeat (first | apply Kd.R_alloc | apply Kd.R_drewN | apply Kd.R_drew)); exact aW.o)) (by decide) hg); have n2_ := am (Kd.R_over' (by (with_reducible repeat (first | apply Kd.R_alloc | apply Kd.R_drewN | apply Kd.R_drew)); exact aD.o) (Kd.R_typed (by (with_reducible repeat (first | apply Kd.R_alloc | apply Kd.R_drewN | apply Kd.R_drew)); exact aW.o)) (by decide) hg); have n3_ := am (Kd.S_over' (by (with_reducible repeat (first | apply Kd.S_alloc | apply Kd.S_drewN | apply Kd.S_drew)); exact aE.o) (Kd.R_typed (by (with_reducible repeat (first | apply Kd.R_alloc | apply Kd.R_drewN | apply Kd.R_drew)); exact aW.o)) (by decide) hg); have n4_ := am (qAD (g := aM) (o := .cells #[.slice af aV.length ag, .slice a5 aX.length a6, .int .i64 aa] 47 (0, 0)) (by (with_reducible repeat (first | refine qAe ?_ _ | refine qAg ?_ | refine qAd ?_ _)); exact aG.o) hg (Kd.R_ne aW.o aG.o (by decide))); have n5_ := am (qAD (g := aJ) (o := .cells #[.slice aZ aY.length a4, .slice a8 a7.length a9, .int .i64 ab] 47 (0, 0)) (by (with_reducible repeat (first | refine qAe ?_ _ | refine qAg ?_ | refine qAd ?_ _)); exact aH.o) hg (Kd.R_ne aW.o aH.o (by decide))); have n6_ := am (Kd.R_over' (by (with_reducible repeat (first | apply Kd.R_alloc | apply Kd.R_drewN | apply Kd.R_drew)); exact aN.o) (Kd.R_typed (by (with_reducible repeat (first | apply Kd.R_alloc | apply Kd.R_drewN | apply Kd.R_drew)); exact aW.o)) (by decide) hg); have n7_ := am (Kd.S_over' (by (with_reducible repeat (first | apply Kd.S_alloc | apply Kd.S_drewN | apply Kd.S_drew)); exact aQ.o) (Kd.R_typed (by (with_reducible repeat (first | apply Kd.R_alloc | apply Kd.R_drewN | apply Kd.R_drew)); exact aW.o)) (by decide) hg); have n8_ := am (hb); have n9_ := am (ho); clear aA; clear aC; clear aD; clear aE; clear aG; clear aH; clear aN; clear aQ; clear HB; clear aW; have aA := n0_; have aC := n1_; have aD := n2_; have aE := n3_; have aG := n4_; have aH := n5_; have aN := n6_; have aQ := n7_; have HB := n8_; have aI := n9_; clear n0_ n1_ n2_ n3_ n4_ n5_ n6_ n7_ n8_ n9_; clear ho hb hg bz; obtain ⟨eU, bU, dd⟩ := Kd.R_slice aI.o; subst dd; have bI : 0 ≤ (a1 : Int) := of_decide_eq_true (by first | (with_reducible assumption) | assumption); have bJ : a1 < (aU.length : Int) := of_decide_eq_true (by first | (with_reducible assumption) | assumption); obtain ⟨cK, bp, ay⟩ := Kd.at_int (Kd.R_reads' aI.o).2.2 a1 bI bJ; cases bp; replace bI := eq_true bI; replace bJ := eq_true bJ; have br : 0 ≤ (a1 : Int) := of_decide_eq_true (by first | (with_reducible assumption) | assumption); have bs : (a1 : Int) < ((aU.length : Int) : Int) := of_decide_eq_true (by first | (with_reducible assumption) | assumption); obtain ⟨go41, cz, bX, bY, gl41, cl41, HG41⟩ := Kd.R_form aI.o (by omega); (first | cases bX | (injection bX with ea_ en_ ec_; (first | subst ea_ | (injection ea_ with ea_; subst ea_)); subst ec_; clear en_)); have GB41 := am bY; have GG41 := am HG41; clear bY gl41 HG41; (first | simp only [qCn] at ay | skip); obtain ⟨bq, hf41_0⟩ := Kd.R_celln 0 aI.o (a1 : Int) br bs; replace br := eq_true br; replace bs := eq_true bs; obtain ⟨hy51_, hz51_⟩ := Kd.R_celln 0 aI.o (a1 : Int) (of_decide_eq_true (by first | (with_reducible assumption) | assumption)) (of_decide_eq_true (by first | (with_reducible assumption) | assumption)); have cS := Kd.R_putg aI.o (a1 : Int) (Go.bits .xor .u8 (rd aU a1) a2)) | ((with_reducible refine qBC (t := 5) (p := 70) rfl ?_); refine qB4 (t := 5) (p := 70) (v := ?vo_w52) (w1 := (eO.setCell ⟨go41, (a1 : Int).toNat, none⟩ (.int .u8 (Go.bits .xor .u8 (rd aU a1) a2)))) ?hg ?ho ?hn ?hr ?_; (case ho => rfl); (case hg => rfl); (case hn => rfl); (case hr => first | (go_simp; done) | (go_simp; rfl)); intro dp hw; have hg : eO.grownBy dp (some go41) := (by rw [hw]; exact cS.2); have hp_ : Kd.R (Kd.int .u8) 5 dp w.heap.size (fun _ => True) (.slice (some ⟨go41, 0, none⟩) aU.length bU) au := (by rw [hw, bj.o]; exact cS.1); clear cS; have n0_ := am (Kd.R_over' (v := (.slice (some ⟨go41, 0, none⟩) aU.length bU)) (by (with_reducible repeat (first | apply Kd.R_alloc | apply Kd.R_drewN | apply Kd.R_drew)); exact aA.o) (Kd.R_typed aI.o) (by decide) hg); have n1_ := am (Kd.S_over' (v := (.slice (some ⟨go41, 0, none⟩) aU.length bU)) (by (with_reducible repeat (first | apply Kd.S_alloc | apply Kd.S_drewN | apply Kd.S_drew)); exact aC.o) (Kd.R_typed aI.o) (by decide) hg); have n2_ := am (Kd.R_over' (v := (.slice (some ⟨go41, 0, none⟩) aU.length bU)) (by (with_reducible repeat (first | apply Kd.R_alloc | apply Kd.R_drewN | apply Kd.R_drew)); exact aD.o) (Kd.R_typed aI.o) (by decide) hg); have n3_ := am (Kd.S_over' (v := (.slice (some ⟨go41, 0, none⟩) aU.length bU)) (by (with_reducible repeat (first | apply Kd.S_alloc | apply Kd.S_drewN | apply Kd.S_drew)); exact aE.o) (Kd.R_typed aI.o) (by decide) hg); have n4_ := am (qAD (g := aM) (o := .cells #[.slice af aV.length ag, .slice a5 aX.length a6, .int .i64 aa] 47 (0, 0)) (by (with_reducible repeat (first | refine qAe ?_ _ | refine qAg ?_ | refine qAd ?_ _)); exact aG.o) hg (Kd.R_ne aI.o aG.o (by decide))); have n5_ := am (qAD (g := aJ) (o := .cells #[.slice aZ aY.length a4, .slice a8 a7.length a9, .int .i64 ab] 47 (0, 0)) (by (with_reducible repeat (first | refine qAe ?_ _ | refine qAg ?_ | refine qAd ?_ _)); exact aH.o) hg (Kd.R_ne aI.o aH.o (by decide))); have n6_ := am (Kd.R_over' (v := (.slice (some ⟨go41, 0, none⟩) aU.length bU)) (by (with_reducible repeat (first | apply Kd.R_alloc | apply Kd.R_drewN | apply Kd.R_drew)); exact aN.o) (Kd.R_typed aI.o) (by decide) hg); have n7_ := am (Kd.S_over' (v := (.slice (some ⟨go41, 0, none⟩) aU.length bU)) (by (with_reducible repeat (first | apply Kd.S_alloc | apply Kd.S_drewN | apply Kd.S_drew)); exact aQ.o) (Kd.R_typed aI.o) (by decide) hg); have n8_ := am (hp_); have n9_ := am ((by rw [hw]; exact qAb (HB.o) GB41.o : Below w.heap.size w dp)); clear aA; clear aC; clear aD; clear aE; clear aG; clear aH; clear aN; clear aQ; clear aI; clear HB; have aA := n0_; have aC := n1_; have aD := n2_; have aE := n3_; have aG := n4_; have aH := n5_; have aN := n6_; have aQ := n7_; have aI := n8_; have HB := n9_; clear n0_ n1_ n2_ n3_ n4_ n5_ n6_ n7_ n8_ n9_; clear hg hw hp_) | ((with_reducible refine qAu (f := 13) rfl ?_); refine qAL (some 73) rfl rfl Try.func13 (by kernel_rfl) rfl #[.slice (some ⟨go41, 0, none⟩) au.length bU] rfl (by (try simp only [List.map_toArray, List.map_cons, List.map_nil]); first | done | (rw [show au.length = aU.length from (Kd.R_reads' aI.o).1.symm] <;> rfl) | rfl | (simp only [List.length_drop, List.length_take]; rfl)) ?_; (with_reducible refine (qAi.calls bC _ _ au cc cd ce cG _ ?side1 ?side2 d4.o).mono ?_); (case side1 => repeat (first | exact (Kd.R_reads' aI.o).2.2 | (with_reducible refine Kd.C_alloc ?_ _) | (with_reducible refine Kd.C_drewN ?_ _) | (with_reducible refine Kd.C_drew ?_))); (case side2 => rw [show au.length = aU.length from (Kd.R_reads' aI.o).1.symm]; exact (Kd.R_reads' aI.o).2.1); rintro e fA ⟨dD, dE, rfl, ao, ap, hb⟩; refine ⟨_, rfl, ?_⟩; have n0_ := am (Kd.R_elder' (by (with_reducible repeat (first | apply Kd.R_alloc | apply Kd.R_drewN | apply Kd.R_drew)); exact aA.o) (Kd.R_base ao) hb); have n1_ := am (Kd.S_elder' (by (with_reducible repeat (first | apply Kd.S_alloc | apply Kd.S_drewN | apply Kd.S_drew)); exact aC.o) (Kd.S_base ap) hb); have n2_ := am (Kd.R_elder' (by (with_reducible repeat (first | apply Kd.R_alloc | apply Kd.R_drewN | apply Kd.R_drew)); exact aD.o) (Kd.R_base ao) hb); have n3_ := am (Kd.S_elder' (by (with_reducible repeat (first | apply Kd.S_alloc | apply Kd.S_drewN | apply Kd.S_drew)); exact aE.o) (Kd.S_base ap) hb); have n4_ := am (Kd.R_elder' (by (with_reducible repeat (first | apply Kd.R_alloc | apply Kd.R_drewN | apply Kd.R_drew)); exact aN.o) (Kd.R_base ao) hb); have n5_ := am (Kd.S_elder' (by (with_reducible repeat (first | apply Kd.S_alloc | apply Kd.S_drewN | apply Kd.S_drew)); exact aQ.o) (Kd.S_base ap) hb); have n6_ := am (Kd.R_below (by (with_reducible repeat (first | apply Kd.R_alloc | apply Kd.R_drewN | apply Kd.R_drew)); exact aI.o) hb); have n7_ := am (Kd.R_lower (Kd.R_new' (Kd.R_new' (Kd.R_new' ao (Kd.R_lt (by (with_reducible repeat (first | apply Kd.R_alloc | apply Kd.R_drewN | apply Kd.R_drew)); exact aA.o))) (Kd.R_lt (by (with_reducible repeat (first | apply Kd.R_alloc | apply Kd.R_drewN | apply Kd.R_drew)); exact aD.o))) (Kd.R_lt (by (with_reducible repeat (first | apply Kd.R_alloc | apply Kd.R_drewN | apply Kd.R_drew)); exact aN.o))) (qAo (by repeat (first | (with_reducible first | exact HB.o | apply qAf | apply qAc | apply qAh | refine qAb ?_ aK.o | refine qAb ?_ aT.o) | exact HB.o)))); have n8_ := am (Kd.S_lower (Kd.S_new' (Kd.S_new' (Kd.S_new' ap (Kd.S_lt (by (with_reducible repeat (first | apply Kd.S_alloc | apply Kd.S_drewN | apply Kd.S_drew)); exact aC.o))) (Kd.S_lt (by (with_reducible repeat (first | apply Kd.S_alloc | apply Kd.S_drewN | apply Kd.S_drew)); exact aE.o))) (Kd.S_lt (by (with_reducible repeat (first | apply Kd.S_alloc | apply Kd.S_drewN | apply Kd.S_drew)); exact aQ.o))) (qAo (by repeat (first | (with_reducible first | exact HB.o | apply qAf | apply qAc | apply qAh | refine qAb ?_ aK.o | refine qAb ?_ aT.o) | exact HB.o)))); have n9_ := am (qAn (g := aM) (o := .cells #[.slice af aV.length ag, .slice a5 aX.length a6, .int .i64 aa] 47 (0, 0)) (by (with_reducible repeat (first | refine qAe ?_ _ | refine qAg ?_ | refine qAd ?_ _)); exact aG.o) hb); have n10_ := am (qAn (g := aJ) (o := .cells #[.slice aZ aY.length a4, .slice a8 a7.length a9, .int .i64 ab] 47 (0, 0)) (by (with_reducible repeat (first | refine qAe ?_ _ | refine qAg ?_ | refine qAd ?_ _)); exact aH.o) hb); have n11_ := am (qAx (by repeat (first | (with_reducible first | exact HB.o | apply qAf | apply qAc | apply qAh | refine qAb ?_ aK.o | refine qAb ?_ aT.o) | exact HB.o)) hb); clear aA; clear aC; clear aD; clear aE; clear aN; clear aQ; clear aI; clear aG; clear aH; clear HB; have aA := n0_; have aC := n1_; have aD := n2_; have aE := n3_; have aN := n4_; have aQ := n5_; have aI := n6_; have ah := n7_; have ai := n8_; have aG := n9_; have aH := n10_; have HB := n11_; clear n0_ n1_ n2_ n3_ n4_ n5_ n6_ n7_ n8_ n9_ n10_ n11_) | ((with_reducible refine qAQ (N := 14) rfl ?_); (try (refine qAN (by rfl) ?_; dsimp only)); refine qAS ?hg (N := 14) ?hd (cs := #[.slice none 0 0, .slice none 0 0, .int .i64 0]) (t := 47) ?hr ?_; (case hd => rfl); (case hg => rfl); (case hr => first | (go_simp; done) | (go_simp; rfl)); intro ae hg ek hbox hb; have n0_ := am (Kd.R_below (by (with_reducible repeat (first | apply Kd.R_alloc | apply Kd.R_drewN | apply Kd.R_drew)); exact aA.o) hb); have n1_ := am (Kd.S_below (by (with_reducible repeat (first | apply Kd.S_alloc | apply Kd.S_drewN | apply Kd.S_drew)); exact aC.o) hb); have n2_ := am (Kd.R_below (by (with_reducible repeat (first | apply Kd.R_alloc | apply Kd.R_drewN | apply Kd.R_drew)); exact aD.o) hb); have n3_ := am (Kd.S_below (by (with_reducible repeat (first | apply Kd.S_alloc | apply Kd.S_drewN | apply Kd.S_drew)); exact aE.o) hb); have n4_ := am (Kd.R_below (by (with_reducible repeat (first | apply Kd.R_alloc | apply Kd.R_drewN | apply Kd.R_drew)); exact aN.o) hb); have n5_ := am (Kd.S_below (by (with_reducible repeat (first | apply Kd.S_alloc | apply Kd.S_drewN | apply Kd.S_drew)); exact aQ.o) hb); have n6_ := am (Kd.R_below (by (with_reducible repeat (first | apply Kd.R_alloc | apply Kd.R_drewN | apply Kd.R_drew)); exact aI.o) hb); have n7_ := am (Kd.R_below (by (with_reducible repeat (first | apply Kd.R_alloc | apply Kd.R_drewN | apply Kd.R_drew)); exact ah.o) hb); have n8_ := am (Kd.S_below (by (with_reducible repeat (first | apply Kd.S_alloc | apply Kd.S_drewN | apply Kd.S_drew)); exact ai.o) hb); have n9_ := am (qAn (g := aM) (o := .cells #[.slice af aV.length ag, .slice a5 aX.length a6, .int .i64 aa] 47 (0, 0)) (by (with_reducible repeat (first | refine qAe ?_ _ | refine qAg ?_ | refine qAd ?_ _)); exact aG.o) hb); have n10_ := am (qAn (g := aJ) (o := .cells #[.slice aZ aY.length a4, .slice a8 a7.length a9, .int .i64 ab] 47 (0, 0)) (by (with_reducible repeat (first | refine qAe ?_ _ | refine qAg ?_ | refine qAd ?_ _)); exact aH.o) hb); have n11_ := am (qAx (by repeat (first | (with_reducible first | exact HB.o | apply qAf | apply qAc | apply qAh | refine qAb ?_ aK.o | refine qAb ?_ aT.o) | exact HB.o)) hb); have n12_ := am (hbox); have n13_ := am ((by rw [hg]; exact (qAo (by repeat (first | (with_reducible first | exact HB.o | apply qAf | apply qAc | apply qAh | refine qAb ?_ aK.o | refine qAb ?_ aT.o) | exact HB.o))) : w.heap.size ≤ ae)); have n14_ := am ((by rw [hg]; exact (qAo (by repeat (first | (with_reducible first | exact HB.o | apply qAf | apply qAc | apply qAh | refine qAb ?_ aK.o | refine qAb ?_ aT.o) | exact HB.o))) : w.heap.size ≤ ae)); have n15_ := am ((by rw [hg]; exact Nat.ne_of_lt (qA2 (g := aM) (o := .cells #[.slice af aV.length ag, .slice a5 aX.length a6, .int .i64 aa] 47 (0, 0)) (by (with_reducible repeat (first | refine qAe ?_ _ | refine qAg ?_ | refine qAd ?_ _)); exact aG.o)) : aM ≠ ae)); have n16_ := am ((by rw [hg]; exact Nat.ne_of_gt (qA2 (g := aM) (o := .cells #[.slice af aV.length ag, .slice a5 aX.length a6, .int .i64 aa] 47 (0, 0)) (by (with_reducible repeat (first | refine qAe ?_ _ | refine qAg ?_ | refine qAd ?_ _)); exact aG.o)) : ae ≠ aM)); have n17_ := am ((by rw [hg]; exact Nat.ne_of_lt (qA2 (g := aJ) (o := .cells #[.slice aZ aY.length a4, .slice a8 a7.length a9, .int .i64 ab] 47 (0, 0)) (by (with_reducible repeat (first | refine qAe ?_ _ | refine qAg ?_ | refine qAd ?_ _)); exact aH.o)) : aJ ≠ ae)); have n18_ := am ((by rw [hg]; exact Nat.ne_of_gt (qA2 (g := aJ) (o := .cells #[.slice aZ aY.length a4, .slice a8 a7.length a9, .int .i64 ab] 47 (0, 0)) (by (with_reducible repeat (first | refine qAe ?_ _ | refine qAg ?_ | refine qAd ?_ _)); exact aH.o)) : ae ≠ aJ)); clear aA; clear aC; clear aD; clear aE; clear aN; clear aQ; clear aI; clear ah; clear ai; clear aG; clear aH; clear HB; have aA := n0_; have aC := n1_; have aD := n2_; have aE := n3_; have aN := n4_; have aQ := n5_; have aI := n6_; have ah := n7_; have ai := n8_; have aG := n9_; have aH := n10_; have HB := n11_; have bB := n12_; have cH := n13_; have bP := n14_; have aj := n15_; have al := n16_; have ak := n17_; have an := n18_; clear n0_ n1_ n2_ n3_ n4_ n5_ n6_ n7_ n8_ n9_ n10_ n11_ n12_ n13_ n14_ n15_ n16_ n17_ n18_; clear hb hbox hg; obtain ⟨eV, e5, de⟩ := Kd.R_slice ah.o; subst de; have eB := al.o; have eI := aj.o; have eC := an.o; have eJ := ak.o; obtain ⟨dJ, dK, dL⟩ := c3_ ek bB.o; obtain ⟨dS, dT, dU⟩ := z3_ bB.o; obtain ⟨eW, e6, df⟩ := Kd.S_slice ai.o; subst df))
     go_ret
     exact ⟨by first | rfl | (simp [errW_none, errW_some] <;> rfl) | (simp [*, errW_none, errW_some] <;> rfl), by repeat (first | (with_reducible first | exact HB.o | apply qAf | apply qAc | apply qAh | refine qAb ?_ aK.o | refine qAb ?_ aT.o | refine qAb ?_ bP.o) | exact HB.o)⟩
def foundrylaw17_ImageTurned.Pure : Prop := ∀ (l0 : List Int) (a1 : Int) (a2 : Int) (a3 : Int), l0.length ≤ maxLen → l0.length * 1 ≤ 140737488351232 → (∀ x ∈ l0, (Lit.int .u8 x).wf = true) → (Lit.int .i64 a1).wf = true → (Lit.int .u8 a2).wf = true → (Lit.int .u8 a3).wf = true → ∃ k, foundrylaw17_ImageTurned.f k l0 a1 a2 a3 = some true
theorem foundrylaw17_ImageTurned.walk (P : foundrylaw17_ImageTurned.Pure) (a0 : Option Addr) (len0 cap0 : Nat) (z0 : List Int) (a1 : Int) (a2 : Int) (a3 : Int) (w : World) (w0 : (a0 = none ∧ len0 = 0 ∧ cap0 = 0 ∧ z0 = []) ∨ ∃ x, a0 = some x ∧ len0 ≤ cap0 ∧ cap0 ≤ maxLen ∧ z0.length = cap0 ∧ (∀ i, i < z0.length → w.cell? (x.add i) = some (.int .u8 (z0.getD i 0))) ∧ ∀ n ∈ z0, (Lit.int .u8 n).wf = true) (y0 : len0 * 1 ≤ 140737488351232) (w1 : (Lit.int .i64 a1).wf = true) (w2 : (Lit.int .u8 a2).wf = true) (w3 : (Lit.int .u8 a3).wf = true) :
  Calls Try.prog 5 #[.slice a0 len0 cap0, .int .i64 a1, .int .u8 a2, .int .u8 a3] w fun e w' => e = .returned (.bool true) ∧ Below w.heap.size w w' := by
 obtain ⟨l0, rfl, hr0, hm0, hw0, hc0⟩ := qBD.ofRowC w0
 obtain ⟨k, h⟩ := P l0 a1 a2 a3 hm0 y0 hw0 w1 w2 w3
 refine (foundrylaw17_ImageTurned.calls k _ _ l0 a1 a2 a3 true w (Kd.C_of_reads (d := (0 : Int)) (h1 := fun _ => rfl) hr0) hc0 h).mono ?_
 rintro e w' ⟨rfl, hd⟩
 exact ⟨rfl, hd⟩
end Q
end
section
namespace Q
open Go.RowKit YA YC YB
open Val Ins DecLaw Wr Enc
namespace ImP
theorem wrap1 {i : Int} (h0 : 0 ≤ i) (h1 : i < 4611686018427387904) : wrap64 (i + 1) = i + 1 := by unfold wrap64; omega
theorem by_take {l : List Int} (h : qBo l) (n : Nat) : qBo (l.take n) := fun x hx => h x (List.mem_of_mem_take hx)
theorem by_drop {l : List Int} (h : qBo l) (n : Nat) : qBo (l.drop n) := fun x hx => h x (List.mem_of_mem_drop hx)
theorem qDX : ∀ (l : List Int), qBo l → ∀ v : Int, 0 ≤ v → 0 ≤ l.foldl (fun v x => v * 256 + x) v ∧ l.foldl (fun v x => v * 256 + x) v < (v + 1) * 256 ^ l.length := by
 intro l
 induction l with
 | nil => intro _ v hv; simp; omega
 | cons x l ih =>
  intro h v hv
  have hx := h x List.mem_cons_self
  obtain ⟨h1, h2⟩ := ih (fun y hy => h y (List.mem_cons_of_mem _ hy)) (v * 256 + x) (by omega)
  refine ⟨h1, Int.lt_of_lt_of_le h2 ?_⟩
  rw [List.length_cons, Int.pow_succ]
  have : (v * 256 + x + 1) * 256 ^ l.length ≤ ((v + 1) * 256) * 256 ^ l.length := Int.mul_le_mul_of_nonneg_right (by omega) (Int.le_of_lt (Int.pow_pos (by decide)))
  have e : (v + 1) * (256 ^ l.length * 256) = ((v + 1) * 256) * 256 ^ l.length := by rw [Int.mul_assoc, Int.mul_comm (256 ^ l.length) 256]
  rw [e]; exact this
theorem numStep_eq (v x : Int) (hv : 0 ≤ v) (hv2 : v < 72057594037927936) (hx : 0 ≤ x) (hx2 : x < 256) : qCt v x = v * 256 + x := by
 unfold qCt
 rw [Dec.wrap_256, show IntKind.u64.wrap x = x from by simp [IntKind.wrap, IntKind.bits, IntKind.signed]; omega, Dec.or_low v x hv (by omega) hx hx2]
 omega
theorem numF_fold (l : List Int) (h : qBo l) : ∀ (v : Int), 0 ≤ v → (v + 1) * 256 ^ l.length ≤ 18446744073709551616 → l.foldl qCt v = l.foldl (fun v x => v * 256 + x) v := by
 induction l with
 | nil => intro v _ _; rfl
 | cons x l ih =>
  intro v hv hb
  have hx := h x List.mem_cons_self
  have hp : (1 : Int) ≤ 256 ^ l.length := by have := @Int.pow_pos 256 l.length (by decide); omega
  rw [List.length_cons, Int.pow_succ] at hb
  have hv2 : v < 72057594037927936 := by
   have h1 : (v + 1) * (1 * 256) ≤ (v + 1) * (256 ^ l.length * 256) := Int.mul_le_mul_of_nonneg_left (Int.mul_le_mul_of_nonneg_right hp (by decide)) (by omega)
   omega
  simp only [List.foldl_cons]
  rw [numStep_eq v x hv hv2 hx.1 hx.2]
  refine ih (fun y hy => h y (List.mem_cons_of_mem _ hy)) _ (by omega) ?_
  have h1 : (v * 256 + x + 1) * 256 ^ l.length ≤ ((v + 1) * 256) * 256 ^ l.length := Int.mul_le_mul_of_nonneg_right (by omega) (by omega)
  have e : (v + 1) * (256 ^ l.length * 256) = ((v + 1) * 256) * 256 ^ l.length := by rw [Int.mul_assoc, Int.mul_comm (256 ^ l.length) 256]
  omega
theorem numF_u64 (l : List Int) (h : qBo l) (h8 : l.length ≤ 8) : 0 ≤ numF l ∧ numF l < 18446744073709551616 := by
 have hp : ∀ n : Nat, n < 9 → (256 : Int) ^ n ≤ 18446744073709551616 := by decide
 have hp := hp l.length (by omega)
 unfold numF
 rw [numF_fold l h 0 (Int.le_refl 0) (by omega)]
 have := qDX l h 0 (Int.le_refl 0)
 omega
theorem eqb_ev (l m : List Int) (hb : l.length ≤ 4611686018427387903) : ∃ b, Ev (fun k => qAl.f k l m) b ∧ (b = true → l = m) := by
 by_cases hlm : l.length = m.length
 rotate_left
 ·refine ⟨false, Ev.congr (f := fun _ => some false) (fun k => ?_) (Ev.now _), fun h => by cases h⟩
  unfold qAl.f
  rw [if_neg (by omega)]
 have hloop : ∀ (d : Nat) (i : Int), 0 ≤ i → (l.length : Int) - i = d → ∃ b, Ev (fun k => qAl.l0 k l m (l.length : Int) i) b ∧ (b = true → l.drop i.toNat = m.drop i.toNat) := by
  intro d
  induction d with
  | zero =>
   intro i h0 hd
   refine ⟨true, Ev.step (f := fun _ => some true) (fun k => ?_) (Ev.now _), fun _ => ?_⟩
   ·simp only [qAl.l0]
    rw [if_neg (by omega)]
   rw [List.drop_eq_nil_of_le (by omega), List.drop_eq_nil_of_le (by omega)]
  | succ d ih =>
   intro i h0 hd
   by_cases hr : rd l i = rd m i
   rotate_left
   ·refine ⟨false, Ev.step (f := fun _ => some false) (fun k => ?_) (Ev.now _), fun h => by cases h⟩
    simp only [qAl.l0]
    rw [if_pos (by omega), if_pos h0, if_pos (by omega), if_pos (by omega), if_neg hr]
   obtain ⟨b, hb, h⟩ := ih (i + 1) (by omega) (by omega)
   refine ⟨b, Ev.step (fun k => ?_) hb, fun hbt => ?_⟩
   ·simp only [qAl.l0]
    rw [if_pos (by omega), if_pos h0, if_pos (by omega), if_pos (by omega), if_pos hr, wrap1 h0 (by omega)]
   have h := h hbt
   have e : (i + 1).toNat = i.toNat + 1 := by omega
   rw [e] at h
   have hr2 : l[i.toNat]'(by omega) = m[i.toNat]'(by omega) := by
    have e1 : rd l i = l[i.toNat]'(by omega) := by simp [rd, rdOf, List.getD_eq_getElem?_getD, List.getElem?_eq_getElem (show i.toNat < l.length by omega)]
    have e2 : rd m i = m[i.toNat]'(by omega) := by simp [rd, rdOf, List.getD_eq_getElem?_getD, List.getElem?_eq_getElem (show i.toNat < m.length by omega)]
    rw [← e1, ← e2, hr]
   rw [List.drop_eq_getElem_cons (l := l) (show i.toNat < l.length by omega), List.drop_eq_getElem_cons (l := m) (show i.toNat < m.length by omega), hr2, h]
 obtain ⟨b, hb, h⟩ := hloop l.length 0 (Int.le_refl 0) (by omega)
 refine ⟨b, Ev.congr (fun k => ?_) hb, fun hbt => by simpa using h hbt⟩
 unfold qAl.f
 rw [if_pos (by omega)]
def Mv (f0 : List Int) (p e p' e' : Int) : Prop := (0 ≤ p' ∧ p' ≤ f0.length) ∧ (e ≠ 0 → e' ≠ 0) ∧ (e' = 0 → p < p')
theorem Mv.then {f0 : List Int} {p e p1 e1 p2 e2 : Int} (h : Mv f0 p e p1 e1) (h2 : Mv f0 p1 e1 p2 e2) : Mv f0 p e p2 e2 := by
 refine ⟨h2.1, fun he => h2.2.1 (h.2.1 he), fun he => ?_⟩
 have e1 : e1 = 0 := Decidable.byContradiction fun hn => h2.2.1 hn he
 have := h.2.2 e1
 have := h2.2.2 he
 omega
section
variable (f0 : List Int) (hb : qBo f0)
theorem qCq (hb : qBo f0) (p e : Int) (hp : 0 ≤ p ∧ p ≤ f0.length) : ∃ x p' e', qAp.f f0 p e = some (x, p', e') ∧ Mv f0 p e p' e' ∧ 0 ≤ x ∧ x < 256 := by
 by_cases he : e = 0
 rotate_left
 ·exact ⟨0, p, e, by simp [qAp.f, he], ⟨hp, fun _ => he, fun h => absurd h he⟩, by decide⟩
 subst he
 by_cases hlt : p < f0.length
 rotate_left
 ·exact ⟨0, p, 40, by simp [qAp.f, hlt], ⟨hp, by simp, by simp⟩, by decide⟩
 refine ⟨f0.getD p.toNat 0, p + 1, 0, by simp [qAp.f, hlt], ⟨⟨by omega, by omega⟩, by simp, fun _ => by omega⟩, ?_⟩
 rw [List.getD_eq_getElem?_getD, List.getElem?_eq_getElem (show p.toNat < f0.length by omega)]
 exact hb _ (List.getElem_mem _)
theorem long_mv (hb : qBo f0) (p e : Int) (hp : 0 ≤ p ∧ p ≤ f0.length) : ∃ x p' e', qAG.f f0 p e = some (x, p', e') ∧ Mv f0 p e p' e' ∧ 0 ≤ x ∧ x < 18446744073709551616 := by
 by_cases he : e = 0
 rotate_left
 ·exact ⟨0, p, e, by simp [qAG.f, he], ⟨hp, fun _ => he, fun h => absurd h he⟩, by decide⟩
 subst he
 by_cases hlt : p + 8 ≤ f0.length
 rotate_left
 ·exact ⟨0, p, 40, by simp [qAG.f, hlt], ⟨hp, by simp, by simp⟩, by decide⟩
 refine ⟨numF ((f0.drop p.toNat).take 8), p + 8, 0, by simp [qAG.f, hlt], ⟨⟨by omega, by omega⟩, by simp, fun _ => by omega⟩, ?_⟩
 exact numF_u64 _ (by_take (by_drop hb _) 8) (by rw [List.length_take]; omega)
theorem int_mv (p e : Int) (hp : 0 ≤ p ∧ p ≤ f0.length) : ∃ x p' e', qA8.f f0 p e = some (x, p', e') ∧ Mv f0 p e p' e' := by
 by_cases he : e = 0
 rotate_left
 ·exact ⟨0, p, e, by simp [qA8.f, he], ⟨hp, fun _ => he, fun h => absurd h he⟩⟩
 subst he
 by_cases hlt : p + 4 ≤ f0.length
 rotate_left
 ·exact ⟨0, p, 40, by simp [qA8.f, hlt], ⟨hp, by simp, by simp⟩⟩
 by_cases hn : num4 f0 p ≤ 2147483647
 ·exact ⟨num4 f0 p, p + 4, 0, by simp [qA8.f, hlt, hn], ⟨⟨by omega, by omega⟩, by simp, fun _ => by omega⟩⟩
 exact ⟨0, p + 4, 42, by simp [qA8.f, hlt, hn], ⟨⟨by omega, by omega⟩, by simp, fun _ => by omega⟩⟩
theorem raw_mv (hb : qBo f0) (p e : Int) (hp : 0 ≤ p ∧ p ≤ f0.length) : ∃ x p' e', qAH.f f0 p e 65536 = some (x, p', e') ∧ Mv f0 p e p' e' ∧ qBo x := by
 have hmx : mx (65536 : Int) 0 = 65536 := by unfold mx; omega
 have hnil : qBo [] := fun x hx => by cases hx
 unfold qAH.f
 rw [hmx]
 by_cases he : e = 0
 rotate_left
 ·rw [if_pos he]
  exact ⟨_, _, _, rfl, ⟨hp, fun _ => he, fun h => absurd h he⟩, hnil⟩
 subst he
 rw [if_neg (by simp)]
 by_cases hlt : p + 4 ≤ f0.length
 rotate_left
 ·rw [if_neg hlt]
  exact ⟨_, _, _, rfl, ⟨hp, by simp, fun h => by omega⟩, hnil⟩
 rw [if_pos hlt]
 have hn0 : 0 ≤ num4 f0 p := by
  unfold num4
  exact (numF_u64 _ (by_take (by_drop hb _) 4) (by rw [List.length_take]; omega)).1
 by_cases hn : num4 f0 p ≤ 2147483647
 rotate_left
 ·rw [if_neg hn]
  exact ⟨_, _, _, rfl, ⟨⟨by omega, by omega⟩, by simp, fun h => by omega⟩, hnil⟩
 rw [if_pos hn]
 by_cases hq : num4 f0 p ≤ 65536
 rotate_left
 ·rw [if_neg hq]
  exact ⟨_, _, _, rfl, ⟨⟨by omega, by omega⟩, by simp, fun h => by omega⟩, hnil⟩
 rw [if_pos hq]
 by_cases hr : p + 4 + num4 f0 p ≤ f0.length
 rotate_left
 ·rw [if_neg hr]
  exact ⟨_, _, _, rfl, ⟨⟨by omega, by omega⟩, by simp, fun h => by omega⟩, hnil⟩
 rw [if_pos hr]
 exact ⟨_, _, _, rfl, ⟨⟨by omega, by omega⟩, by simp, fun _ => by omega⟩, by_take (by_drop hb _) _⟩
theorem read_l (hb : qBo f0) (n : Int) (hn : n ≤ 255) : ∀ (d : Nat) (i : Int) (acc : List Int) (p e : Int), 0 ≤ i → n - i = d → acc.length + d ≤ 300 → (0 ≤ p ∧ p ≤ f0.length) →
  ∃ l p' e', Ev (fun k => qAv.l0 k acc n i f0 p e) (l, p', e') ∧ (0 ≤ p' ∧ p' ≤ f0.length) ∧ (e ≠ 0 → e' ≠ 0) ∧ (e' = 0 → p ≤ p') ∧ l.length ≤ 300 := by
 intro d
 induction d with
 | zero =>
  intro i acc p e h0 hd ha hp
  refine ⟨acc, p, e, Ev.step (f := fun _ => some (acc, p, e)) (fun k => ?_) (Ev.now _), hp, fun h => h, fun _ => Int.le_refl _, by omega⟩
  simp only [qAv.l0]; rw [if_neg (by omega)]
 | succ d ih =>
  intro i acc p e h0 hd ha hp
  obtain ⟨x, p1, e1, hx, hm, _⟩ := qCq f0 hb p e hp
  obtain ⟨l, p2, e2, h2, hp2, he2, hlt, hll⟩ := ih (i + 1) (acc ++ [wrap64 x]) p1 e1 (by omega) (by omega) (by simp; omega) hm.1
  refine ⟨l, p2, e2, Ev.step (fun k => ?_) h2, hp2, fun h => he2 (hm.2.1 h), fun h => ?_, hll⟩
  ·simp only [qAv.l0]
   rw [if_pos (by omega), hx]
   simp only [Option.bind_some]
   rw [if_pos (by omega), wrap1 h0 (by omega)]
  have e1 : e1 = 0 := Decidable.byContradiction fun hn => he2 hn h
  have := hm.2.2 e1
  have := hlt h
  omega
theorem read_mv (hb : qBo f0) (p e : Int) (hp : 0 ≤ p ∧ p ≤ f0.length) : ∃ l p' e', Ev (fun k => qAv.f k f0 p e) (l, p', e') ∧ Mv f0 p e p' e' ∧ l.length ≤ 300 := by
 obtain ⟨x, p1, e1, hx, hm, h0, h1⟩ := qCq f0 hb p e hp
 obtain ⟨l, p2, e2, h2, hp2, he2, hlt, hll⟩ := read_l f0 hb x (by omega) x.toNat 0 [] p1 e1 (Int.le_refl _) (by omega) (by simp; omega) hm.1
 refine ⟨l, p2, e2, Ev.congr (fun k => ?_) h2, ⟨hp2, fun h => he2 (hm.2.1 h), fun h => ?_⟩, hll⟩
 ·unfold qAv.f
  rw [hx]
  simp only [Option.bind_some]
  rw [show wrap64 x = x from by unfold wrap64; omega]
 have e1 : e1 = 0 := Decidable.byContradiction fun hn => he2 hn h
 have := hm.2.2 e1
 have := hlt h
 omega
end
theorem dec_sz (c : List Int) (hc : qBo c) : ∃ l e, qAX.f c = some (l, e) ∧ l.length ≤ 4096 ∧ ∀ x ∈ l, u64S x = true := by
 unfold qAX.f
 rw [if_pos (List.all_eq_true.2 fun x hx => decide_eq_true (hc x hx))]
 refine ⟨_, _, rfl, ?_⟩
 rcases decL_spec c (c.length + 1) [] c (by omega) (fun x hx => by cases hx) (by simp) (by simp [encB]) with ⟨m, h, hok⟩ | ⟨h, _⟩ | ⟨h, _⟩
 ·rw [h]
  refine ⟨by rw [List.length_map]; exact hok.2.1, fun x hx => ?_⟩
  obtain ⟨y, hy, rfl⟩ := List.mem_map.1 hx
  have := (hok.1 y hy).2
  unfold U64 at this
  exact decide_eq_true ⟨this.1, by have := this.2; simp only [toS]; omega⟩
 ·rw [h]; simp
 rw [h]; simp
end ImP
namespace ImP
abbrev Img4 := List S69 × List S77 × Int × Int
def no53 : Img4 := ([], [], 0, 53)
def Ans (f0 : List Int) (R : Img4) : Prop := R = no53 ∨ (R.2.2.2 = 0 ∧ qBQ R.1 R.2.1 R.2.2.1 = f0 ∧ qBb R.1 R.2.1 R.2.2.1 = 0)
def mu (f0 : List Int) (p e : Int) : Nat := if e = 0 then (f0.length - p + 1).toNat else 0
theorem mv_mu {f0 : List Int} {p p' e' : Int} (hp : 0 ≤ p ∧ p ≤ f0.length) (h : Mv f0 p 0 p' e') : mu f0 p' e' < mu f0 p 0 := by
 obtain ⟨h1, h2, h3⟩ := h
 unfold mu
 rw [if_pos rfl]
 by_cases he : e' = 0
 rotate_left
 ·rw [if_neg he]; omega
 rw [if_pos he]; have := h3 he; omega
theorem end_ev (f0 : List Int) (hl : f0.length ≤ 65536) (p e x7 ma : Int) (hp : 0 ≤ p ∧ p ≤ f0.length) (vars : List S69) (fns : List S77) (hv : vars.all u64V = true) (hf : fns.all fnSz = true) (hvl : vars.length ≤ 70000) (hfl : fns.length ≤ 70000) :
  ∃ R, Ev (fun k => qAi.j4 k f0 x7 false f0 p e vars fns ma) R ∧ Ans f0 R := by
 obtain ⟨n, p1, e1, hi, hm⟩ := int_mv f0 p e hp
 by_cases he : e1 = 0
 ·have hP : qAP.f vars fns n = (if qBb vars fns n = 0 then (if 65536 < (qBQ vars fns n).length then some ([], 3) else some (qBQ vars fns n, 0)) else some ([], qBb vars fns n)) := by
   unfold qAP.f
   rw [if_pos (by simp only [hv, hf, Bool.true_and, Bool.and_eq_true, decide_eq_true_eq]; omega)]
  by_cases hr : qBb vars fns n = 0
  ·by_cases hlen : 65536 < (qBQ vars fns n).length
   ·refine ⟨no53, Ev.step (f := fun _ => some no53) (fun k => ?_) (Ev.now _), .inl rfl⟩
    simp only [qAi.j4]
    rw [if_neg (by decide), hi]
    simp only [Option.bind_some, qAw.f]
    rw [if_pos he, hP, if_pos hr, if_pos hlen]
    simp only [Option.bind_some]
    rw [if_neg (by decide)]; rfl
   ·obtain ⟨b, hb, hbt⟩ := eqb_ev f0 (qBQ vars fns n) (by omega)
    have hk : ∀ k, qAi.j4 (k + 1) f0 x7 false f0 p e vars fns ma = (qAl.f k f0 (qBQ vars fns n)).bind fun t => if t = true then some (vars, fns, n, 0) else some no53 := fun k => by
     simp only [qAi.j4]
     rw [if_neg (by decide), hi]
     simp only [Option.bind_some, qAw.f]
     rw [if_pos he, hP, if_pos hr, if_neg hlen]
     simp only [Option.bind_some]
     rw [if_pos trivial]; rfl
    cases b with
    | true => exact ⟨(vars, fns, n, 0), Ev.step hk (Ev.bind hb (Ev.now _)), .inr ⟨rfl, (hbt rfl).symm, hr⟩⟩
    | false => exact ⟨no53, Ev.step hk (Ev.bind hb (Ev.now _)), .inl rfl⟩
  ·refine ⟨no53, Ev.step (f := fun _ => some no53) (fun k => ?_) (Ev.now _), .inl rfl⟩
   simp only [qAi.j4]
   rw [if_neg (by decide), hi]
   simp only [Option.bind_some, qAw.f]
   rw [if_pos he, hP, if_neg hr]
   simp only [Option.bind_some]
   rw [if_neg hr]; rfl
 ·refine ⟨no53, Ev.step (f := fun _ => some no53) (fun k => ?_) (Ev.now _), .inl rfl⟩
  simp only [qAi.j4]
  rw [if_neg (by decide), hi]
  simp only [Option.bind_some, qAw.f]
  rw [if_neg he]; rfl
theorem fns_ev (f0 : List Int) (hb : qBo f0) (hl : f0.length ≤ 65536) (vars : List S69) (hv : vars.all u64V = true) (hvl : vars.length ≤ 70000) (ma : Int) :
  ∀ (m : Nat) (p e x7 : Int) (acc : List S77), (0 ≤ p ∧ p ≤ f0.length) → mu f0 p e ≤ m → acc.all fnSz = true → acc.length + m ≤ 70000 → ∃ R, Ev (fun k => qAi.l1 k f0 x7 f0 p e vars acc ma) R ∧ Ans f0 R := by
 intro m
 induction m with
 | zero =>
  intro p e x7 acc hp hm ha hal
  have he : e ≠ 0 := fun he => by subst he; unfold mu at hm; rw [if_pos rfl] at hm; omega
  obtain ⟨R, hR, hA⟩ := end_ev f0 hl p e x7 ma hp vars acc hv ha hvl (by omega)
  refine ⟨R, Ev.step (fun k => ?_) hR, hA⟩
  simp only [qAi.l1, qAw.f, Option.bind_some, beq_eq_false_iff_ne.mpr he, ite_self]
 | succ m ih =>
  intro p e x7 acc hp hm ha hal
  by_cases hx : x7 > 0 ∧ e = 0
  rotate_left
  ·obtain ⟨R, hR, hA⟩ := end_ev f0 hl p e x7 ma hp vars acc hv ha hvl (by omega)
   refine ⟨R, Ev.step (fun k => ?_) hR, hA⟩
   simp only [qAi.l1, qAw.f, Option.bind_some]
   by_cases h1 : x7 > 0
   rotate_left
   ·rw [if_neg h1]
   rw [if_pos h1, beq_eq_false_iff_ne.mpr (fun he => hx ⟨h1, he⟩)]
  obtain ⟨hx, rfl⟩ := hx
  obtain ⟨l1, p1, e1, hr1, m1, hl1⟩ := read_mv f0 hb p 0 hp
  obtain ⟨b, p2, e2, hb2, m2, _⟩ := qCq f0 hb p1 e1 m1.1
  obtain ⟨l3, p3, e3, hr3, m3, hl3⟩ := read_mv f0 hb p2 e2 m2.1
  obtain ⟨c, p4, e4, hr4, m4, hc⟩ := raw_mv f0 hb p3 e3 m3.1
  obtain ⟨code, ce, hd, hcl, hcu⟩ := dec_sz c hc
  have hmv : Mv f0 p 0 p4 e4 := ((m1.then m2).then m3).then m4
  have hsz : fnSz (⟨⟨l1, wrap64 b⟩, l3, code⟩ : S77) = true := by
   unfold fnSz
   simp only [Bool.and_eq_true, decide_eq_true_eq, List.all_eq_true]
   exact ⟨⟨⟨by omega, by omega⟩, by omega⟩, hcu⟩
  have ha2 : (acc ++ [(⟨⟨l1, wrap64 b⟩, l3, code⟩ : S77)]).all fnSz = true := by rw [List.all_append, ha, List.all_cons, hsz]; rfl
  have hk : ∀ k, qAi.l1 (k + 1) f0 x7 f0 p 0 vars acc ma = qAi.j4 k f0 x7 true f0 p 0 vars acc ma := fun k => by
   simp only [qAi.l1, qAw.f, Option.bind_some]
   rw [if_pos hx]; rfl
  by_cases hce : ce = 0
  ·obtain ⟨R, hR, hA⟩ := ih p4 e4 (wrap64 (x7 - 1)) (acc ++ [⟨⟨l1, wrap64 b⟩, l3, code⟩]) m4.1 (by have := mv_mu hp hmv; omega) ha2 (by simp; omega)
   refine ⟨R, Ev.step hk (Ev.step (fun k => by simp only [qAi.j4]; rw [if_pos trivial]) (Ev.bind hr1 ?_)), hA⟩
   simp only [hb2, Option.bind_some]
   refine Ev.bind hr3 ?_
   simp only [hr4, hd, Option.bind_some, hce, if_true, show acc.length < 1759218604441 from by omega]
   exact hR
  obtain ⟨R, hR, hA⟩ := ih p4 (if e4 = 0 then 53 else e4) (wrap64 (x7 - 1)) (acc ++ [⟨⟨l1, wrap64 b⟩, l3, code⟩]) m4.1 (by
    unfold mu at hm ⊢
    rw [if_neg (by split <;> omega)]; omega) ha2 (by simp; omega)
  refine ⟨R, Ev.step hk (Ev.step (fun k => by simp only [qAi.j4]; rw [if_pos trivial]) (Ev.bind hr1 ?_)), hA⟩
  simp only [hb2, Option.bind_some]
  refine Ev.bind hr3 ?_
  simp only [hr4, hd, Option.bind_some, hce, if_false, qA1.f, show acc.length < 1759218604441 from by omega, if_true]
  exact hR
theorem vars_end (f0 : List Int) (hb : qBo f0) (hl : f0.length ≤ 65536) (ma x6 : Int) (p e : Int) (acc : List S69) (hp : 0 ≤ p ∧ p ≤ f0.length) (ha : acc.all u64V = true) (hal : acc.length ≤ 70000) :
  ∃ R, Ev (fun k => qAi.j2 k f0 x6 false f0 p e acc ma) R ∧ Ans f0 R := by
 obtain ⟨n, p1, e1, hi, hm⟩ := int_mv f0 p e hp
 obtain ⟨R, hR, hA⟩ := fns_ev f0 hb hl acc ha hal ma 65540 p1 e1 n [] hm.1 (by have := hm.1; unfold mu; split <;> omega) rfl (by simp)
 refine ⟨R, Ev.step (fun k => ?_) hR, hA⟩
 simp only [qAi.j2]
 rw [if_neg (by decide), hi]; rfl
theorem vars_ev (f0 : List Int) (hb : qBo f0) (hl : f0.length ≤ 65536) (ma : Int) :
  ∀ (m : Nat) (p e x6 : Int) (acc : List S69), (0 ≤ p ∧ p ≤ f0.length) → mu f0 p e ≤ m → acc.all u64V = true → acc.length + m ≤ 70000 → ∃ R, Ev (fun k => qAi.l0 k f0 x6 f0 p e acc ma) R ∧ Ans f0 R := by
 intro m
 induction m with
 | zero =>
  intro p e x6 acc hp hm ha hal
  have he : e ≠ 0 := fun he => by subst he; unfold mu at hm; rw [if_pos rfl] at hm; omega
  obtain ⟨R, hR, hA⟩ := vars_end f0 hb hl ma x6 p e acc hp ha (by omega)
  refine ⟨R, Ev.step (fun k => ?_) hR, hA⟩
  simp only [qAi.l0, qAw.f, Option.bind_some, beq_eq_false_iff_ne.mpr he, ite_self]
 | succ m ih =>
  intro p e x6 acc hp hm ha hal
  by_cases hx : x6 > 0 ∧ e = 0
  rotate_left
  ·obtain ⟨R, hR, hA⟩ := vars_end f0 hb hl ma x6 p e acc hp ha (by omega)
   refine ⟨R, Ev.step (fun k => ?_) hR, hA⟩
   simp only [qAi.l0, qAw.f, Option.bind_some]
   by_cases h1 : x6 > 0
   rotate_left
   ·rw [if_neg h1]
   rw [if_pos h1, beq_eq_false_iff_ne.mpr (fun he => hx ⟨h1, he⟩)]
  obtain ⟨hx, rfl⟩ := hx
  obtain ⟨b, p1, e1, h1, m1, _⟩ := qCq f0 hb p 0 hp
  obtain ⟨n, p2, e2, h2, m2, hn⟩ := long_mv f0 hb p1 e1 m1.1
  have ha2 : (acc ++ [(⟨wrap64 b, n⟩ : S69)]).all u64V = true := by
   rw [List.all_append, ha, List.all_cons, show u64V (⟨wrap64 b, n⟩ : S69) = true from decide_eq_true hn]; rfl
  obtain ⟨R, hR, hA⟩ := ih p2 e2 (wrap64 (x6 - 1)) (acc ++ [⟨wrap64 b, n⟩]) m2.1 (by have := mv_mu hp (m1.then m2); omega) ha2 (by simp; omega)
  refine ⟨R, Ev.step (f := fun k => qAi.j2 k f0 x6 true f0 p 0 acc ma) (fun k => ?_) (Ev.step (fun k => ?_) hR), hA⟩
  ·simp only [qAi.l0, qAw.f, Option.bind_some]
   rw [if_pos hx]; rfl
  simp only [qAi.j2]
  rw [if_pos trivial, h1]
  simp only [Option.bind_some]
  rw [h2]
  simp only [Option.bind_some]
  rw [if_pos (by omega)]
theorem j0_ev (f0 : List Int) (hb : qBo f0) (hl : f0.length ≤ 65536) (p e : Int) (hp : 0 ≤ p ∧ p ≤ f0.length) : ∃ R, Ev (fun k => qAi.j0 k f0 f0 p e) R ∧ Ans f0 R := by
 obtain ⟨n, p1, e1, hi, hm⟩ := int_mv f0 p e hp
 obtain ⟨R, hR, hA⟩ := vars_ev f0 hb hl 0 65540 p1 e1 n [] hm.1 (by have := hm.1; unfold mu; split <;> omega) rfl (by simp)
 refine ⟨R, Ev.step (fun k => ?_) hR, hA⟩
 simp only [qAi.j0]
 rw [hi]; rfl
theorem qCX (f0 : List Int) (hb : qBo f0) (hl : f0.length ≤ 65536) : ∃ R, Ev (fun k => qAi.f k f0) R ∧ Ans f0 R := by
 have hp0 : (0 : Int) ≤ 0 ∧ (0 : Int) ≤ f0.length := ⟨Int.le_refl _, by omega⟩
 obtain ⟨b1, p1, e1, h1, m1, _⟩ := qCq f0 hb 0 0 hp0
 obtain ⟨b2, p2, e2, h2, m2, _⟩ := qCq f0 hb p1 e1 m1.1
 obtain ⟨b3, p3, e3, h3, m3, _⟩ := qCq f0 hb p2 e2 m2.1
 obtain ⟨b4, p4, e4, h4, m4, _⟩ := qCq f0 hb p3 e3 m3.1
 have hr : qBP.f f0 = some (f0, 0, 0) := if_pos (by omega)
 by_cases hc : (!(b1 == 102) || (!(b2 == 105) || (!(b3 == 109) || (!(b4 == 103))))) = true
 rotate_left
 ·obtain ⟨R, hR, hA⟩ := j0_ev f0 hb hl p4 e4 m4.1
  refine ⟨R, Ev.congr (fun k => ?_) hR, hA⟩
  unfold qAi.f
  rw [if_neg (by omega), hr]
  simp only [Option.bind_some, h1, h2, h3, h4, qBa.f]
  rw [if_neg hc]
 obtain ⟨R, hR, hA⟩ := j0_ev f0 hb hl p4 (if e4 = 0 then 53 else e4) m4.1
 refine ⟨R, Ev.congr (fun k => ?_) hR, hA⟩
 unfold qAi.f
 rw [if_neg (by omega), hr]
 simp only [Option.bind_some, h1, h2, h3, h4, qBa.f]
 rw [if_pos hc]; rfl
theorem unpack_big (f0 : List Int) (hl : ¬ f0.length ≤ 65536) : Ev (fun k => qAi.f k f0) ([], [], 0, 3) := by
 refine Ev.congr (f := fun _ => some ([], [], 0, 3)) (fun k => ?_) (Ev.now _)
 unfold qAi.f
 rw [if_pos (by omega)]
end ImP
namespace ImP
theorem be4_inj {a b : Int} (a0 : 0 ≤ a) (a1 : a < 4294967296) (b0 : 0 ≤ b) (b1 : b < 4294967296) (h : be a 4 4 = be b 4 4) : a = b := by
 have e : (256 : Int) ^ 4 = 4294967296 := by decide
 have h1 := DecLaw.valB_be 4 a a0 (by omega)
 have h2 := DecLaw.valB_be 4 b b0 (by omega)
 rw [h] at h1
 omega
theorem qD2 {a b : Int} {r s : List Int} (h : be a 4 4 ++ r = be b 4 4 ++ s) : be a 4 4 = be b 4 4 ∧ r = s := List.append_inj h (by simp [qAC])
structure FnOk (f : S77) : Prop where
 p : f.f0.f0.length ≤ 8
 l : f.f1.length ≤ 64
 c : f.f2.length ≤ 4096
theorem fnBI_cut {f g : S77} (hf : FnOk f) (hg : FnOk g) {r s : List Int} (h : fnBI f ++ r = fnBI g ++ s) : r = s := by
 have e1 := qD3 (f.f2.map toD)
 have e2 := qD3 (g.f2.map toD)
 rw [List.length_map] at e1 e2
 have := hf.c; have := hg.c; have := hf.p; have := hg.p; have := hf.l; have := hg.l
 unfold fnBI rawB at h
 simp only [List.append_assoc, List.cons_append, List.nil_append, List.singleton_append] at h
 obtain ⟨h1, h⟩ := List.cons.inj h
 obtain ⟨_, h⟩ := List.append_inj h (by simp [byB]; omega)
 obtain ⟨_, h⟩ := List.cons.inj h
 obtain ⟨h2, h⟩ := List.cons.inj h
 obtain ⟨_, h⟩ := List.append_inj h (by simp [byB]; omega)
 obtain ⟨h3, h⟩ := qD2 h
 have h4 := be4_inj (by omega) (by omega) (by omega) (by omega) h3
 exact (List.append_inj h (by omega)).2
theorem flat_cut : ∀ (l m : List S77) (r s : List Int), l.length = m.length → (∀ f ∈ l, FnOk f) → (∀ f ∈ m, FnOk f) → l.flatMap fnBI ++ r = m.flatMap fnBI ++ s → r = s
 | [], [], r, s, _, _, _, h => by simpa using h
 | [], _ :: _, _, _, h, _, _, _ => by simp at h
 | _ :: _, [], _, _, h, _, _, _ => by simp at h
 | f :: l, g :: m, r, s, hl, hf, hg, h => by
  rw [List.flatMap_cons, List.flatMap_cons, List.append_assoc, List.append_assoc] at h
  exact flat_cut l m r s (by simpa using hl) (fun x hx => hf x (List.mem_cons_of_mem _ hx)) (fun x hx => hg x (List.mem_cons_of_mem _ hx)) (fnBI_cut (hf f List.mem_cons_self) (hg g List.mem_cons_self) h)
theorem flat9 : ∀ (l : List S69), (l.flatMap Q.valB).length = 9 * l.length
 | [] => rfl
 | x :: l => by rw [List.flatMap_cons, List.length_append, valB_len, flat9 l, List.length_cons]; omega
structure Sz (vars : List S69) (fns : List S77) : Prop where
 v : vars.length ≤ 2048
 f : fns.length ≤ 2048
 o : ∀ f ∈ fns, FnOk f
theorem Sz.of {vars : List S69} {fns : List S77} {main : Int} (h : qBb vars fns main = 0) : Sz vars fns := by
 have H := ImgR.of h
 exact ⟨H.v, H.f, fun f hf => by have := qCy (H.s f hf); exact ⟨this.1, this.2.1, this.2.2.1⟩⟩
theorem pack_cut {v v' : List S69} {f f' : List S77} {n n' : Int} (h : Sz v f) (h' : Sz v' f') {t : List Int} (he : qBQ v f n ++ t = qBQ v' f' n') : t = [] := by
 have := h.v; have := h.f; have := h'.v; have := h'.f
 unfold qBQ at he
 obtain ⟨q, hq⟩ : ∃ q, q = sumS (qDu v f n) := ⟨_, rfl⟩
 obtain ⟨q', hq'⟩ : ∃ q, q = sumS (qDu v' f' n') := ⟨_, rfl⟩
 rw [← hq, ← hq'] at he
 clear hq hq'
 unfold qDu at he
 simp only [List.append_assoc] at he
 replace he := List.append_cancel_left he
 obtain ⟨h1, he⟩ := qD2 he
 have h2 := be4_inj (by omega) (by omega) (by omega) (by omega) h1
 obtain ⟨_, he⟩ := List.append_inj he (by rw [flat9, flat9]; omega)
 obtain ⟨h3, he⟩ := qD2 he
 have h4 := be4_inj (by omega) (by omega) (by omega) (by omega) h3
 have he := flat_cut f f' _ _ (by omega) h.o h'.o he
 obtain ⟨_, he⟩ := qD2 he
 have hl := congrArg List.length he
 rw [List.length_append, qAC, qAC] at hl
 exact List.eq_nil_of_length_eq_zero (by omega)
theorem odd_mul (a b : Int) (a0 : 0 ≤ a) (a1 : a < 4294967296) (b0 : 0 ≤ b) (b1 : b < 4294967296) (e : a * 16777619 % 4294967296 = b * 16777619 % 4294967296) : a = b := by
 have h : (a - b) * 16777619 % 4294967296 = 0 := by rw [Int.sub_mul, Int.sub_emod, e, Int.sub_self, Int.zero_emod]
 obtain ⟨d, hd⟩ : ∃ d, d = a - b := ⟨_, rfl⟩
 rw [← hd] at h
 have h2 : (d * 16777619) * 899433627 % 4294967296 = 0 := by rw [Int.mul_emod, h, Int.zero_mul, Int.zero_emod]
 have hk : (16777619 * 899433627 : Int) = 1 + 4294967296 * 3513497 := by decide
 rw [Int.mul_assoc, hk, Int.mul_add, Int.mul_one, Int.mul_left_comm, Int.add_mul_emod_self_left] at h2
 clear h hk e
 omega
theorem nat_lt {a : Nat} (h : a < 2 ^ 32) : (0 : Int) ≤ a ∧ (a : Int) < 4294967296 := ⟨by omega, by omega⟩
theorem odd_nat {a b : Nat} (ha : a < 2 ^ 32) (hb : b < 2 ^ 32) (e : (a : Int) * 16777619 % 4294967296 = (b : Int) * 16777619 % 4294967296) : a = b :=
 Int.ofNat.inj (odd_mul a b (nat_lt ha).1 (nat_lt ha).2 (nat_lt hb).1 (nat_lt hb).2 e)
theorem c32 (c : Int) : 0 ≤ c % 4294967296 ∧ c % 4294967296 < 4294967296 := ⟨Int.emod_nonneg _ (by decide), Int.emod_lt_of_pos _ (by decide)⟩
theorem qCA {h : Int} (h0 : 0 ≤ h) (h1 : h < 4294967296) : h.toNat < 2 ^ 32 := by omega
theorem xor_l {a b c : Nat} (h : a ^^^ c = b ^^^ c) : a = b := by
 have h2 : (a ^^^ c) ^^^ c = (b ^^^ c) ^^^ c := by rw [h]
 rwa [Nat.xor_assoc, Nat.xor_assoc, Nat.xor_self, Nat.xor_zero, Nat.xor_zero] at h2
theorem xor_r {a b c : Nat} (h : c ^^^ a = c ^^^ b) : a = b := xor_l (c := c) (by rw [Nat.xor_comm a, Nat.xor_comm b]; exact h)
theorem step_h {h h' c : Int} (h0 : 0 ≤ h) (h1 : h < 4294967296) (h0' : 0 ≤ h') (h1' : h' < 4294967296) (e : qBp h c = qBp h' c) : h = h' := by
 unfold qBp at e
 rw [u32_xor h (c % 4294967296) h0 h1 (c32 c).1 (c32 c).2, u32_xor h' (c % 4294967296) h0' h1' (c32 c).1 (c32 c).2] at e
 have hc := qCA (c32 c).1 (c32 c).2
 have e2 := xor_l (odd_nat (Nat.xor_lt_two_pow (qCA h0 h1) hc) (Nat.xor_lt_two_pow (qCA h0' h1') hc) e)
 clear e hc
 omega
theorem step_c {h c c' : Int} (h0 : 0 ≤ h) (h1 : h < 4294967296) (c0 : 0 ≤ c) (c1 : c < 256) (c0' : 0 ≤ c') (c1' : c' < 256) (e : qBp h c = qBp h c') : c = c' := by
 unfold qBp at e
 rw [u32_xor h (c % 4294967296) h0 h1 (c32 c).1 (c32 c).2, u32_xor h (c' % 4294967296) h0 h1 (c32 c').1 (c32 c').2] at e
 have hc := qCA (c32 c).1 (c32 c).2
 have hc' := qCA (c32 c').1 (c32 c').2
 have e2 := xor_r (odd_nat (Nat.xor_lt_two_pow (qCA h0 h1) hc) (Nat.xor_lt_two_pow (qCA h0 h1) hc') e)
 clear e hc hc'
 omega
theorem fold_h : ∀ (l : List Int) (h h' : Int), 0 ≤ h → h < 4294967296 → 0 ≤ h' → h' < 4294967296 → l.foldl qBp h = l.foldl qBp h' → h = h'
 | [], _, _, _, _, _, _, e => e
 | c :: l, h, h', h0, h1, h0', h1', e =>
  step_h h0 h1 h0' h1' (fold_h l (qBp h c) (qBp h' c) (Int.emod_nonneg _ (by decide)) (Int.emod_lt_of_pos _ (by decide)) (Int.emod_nonneg _ (by decide)) (Int.emod_lt_of_pos _ (by decide)) e)
theorem fold_set : ∀ (l : List Int) (i : Nat) (y h : Int), qBo l → 0 ≤ y → y < 256 → (hi : i < l.length) → 0 ≤ h → h < 4294967296 → (l.set i y).foldl qBp h = l.foldl qBp h → y = l[i]
 | [], _, _, _, _, _, _, hi, _, _, _ => by simp at hi
 | x :: l, 0, y, h, hb, y0, y1, _, h0, h1, e => by
  have hx := hb x List.mem_cons_self
  exact step_c h0 h1 y0 y1 hx.1 hx.2 (fold_h l _ _ (Int.emod_nonneg _ (by decide)) (Int.emod_lt_of_pos _ (by decide)) (Int.emod_nonneg _ (by decide)) (Int.emod_lt_of_pos _ (by decide)) e)
 | x :: l, i + 1, y, h, hb, y0, y1, hi, h0, h1, e =>
  fold_set l i y (qBp h x) (fun z hz => hb z (List.mem_cons_of_mem _ hz)) y0 y1 (by simpa using hi) (Int.emod_nonneg _ (by decide)) (Int.emod_lt_of_pos _ (by decide)) e
theorem pack_set {v v' : List S69} {f f' : List S77} {n n' : Int} (hb : qBo (qBQ v f n)) {i : Nat} (hi : i < (qBQ v f n).length) {y : Int} (y0 : 0 ≤ y) (y1 : y < 256) (he : (qBQ v f n).set i y = qBQ v' f' n') : y = (qBQ v f n)[i] := by
 have hlen := congrArg List.length he
 rw [List.length_set] at hlen
 unfold qBQ at *
 generalize qDu v f n = B at *
 generalize qDu v' f' n' = B' at *
 rw [List.length_append, List.length_append, qAC, qAC] at hlen
 have r1 := qDm B
 have r2 := qDm B'
 rw [List.set_append] at he
 by_cases hc : i < B.length
 ·rw [if_pos hc] at he
  obtain ⟨e1, e2⟩ := List.append_inj he (by rw [List.length_set]; omega)
  have e3 := be4_inj r1.1 r1.2 r2.1 r2.2 e2
  rw [← e1] at e3
  rw [List.getElem_append_left hc]
  exact fold_set B i y _ (fun x hx => hb x (List.mem_append_left _ hx)) y0 y1 hc (by decide) (by decide) e3.symm
 rw [if_neg hc] at he
 obtain ⟨e1, e2⟩ := List.append_inj he (by omega)
 rw [← e1] at e2
 rw [List.getElem_append_right (by omega)]
 have hj : i - B.length < (be (sumS B) 4 4).length := by rw [List.length_append] at hi; omega
 have e3 : ((be (sumS B) 4 4).set (i - B.length) y)[i - B.length]'(by rw [List.length_set]; exact hj) = (be (sumS B) 4 4)[i - B.length]'hj := by simp only [e2]
 rw [List.getElem_set_self] at e3
 exact e3
def Takes (f0 : List Int) : Prop := ∃ v f n, Sz v f ∧ qBQ v f n = f0
theorem Ans.takes {f0 : List Int} {R : Img4} (h : Ans f0 R) (h0 : R.2.2.2 = 0) : Takes f0 := by
 rcases h with rfl | ⟨_, h1, h2⟩
 ·cases h0
 exact ⟨_, _, _, Sz.of h2, h1⟩
theorem Ans.no {f0 : List Int} {R : Img4} (h : Ans f0 R) (h0 : ¬ Takes f0) : R.2.2.2 = 53 := by
 rcases h with rfl | ⟨h1, h2, h3⟩
 ·rfl
 exact absurd ⟨_, _, _, Sz.of h3, h2⟩ h0
theorem qDs {f0 t : List Int} (h : Takes f0) (ht : t ≠ []) : ¬ Takes (f0 ++ t) := by
 rintro ⟨v', f', n', hs', he'⟩
 obtain ⟨v, f, n, hs, rfl⟩ := h
 exact ht (pack_cut hs hs' he'.symm)
theorem takes_cut {f0 : List Int} (h : Takes f0) {m : Nat} (hm : m < f0.length) : ¬ Takes (f0.take m) := fun h2 =>
 qDs h2 (t := f0.drop m) (fun e => by have := congrArg List.length e; simp at this; omega) (by rw [List.take_append_drop]; exact h)
theorem takes_set {f0 : List Int} (hb : qBo f0) (h : Takes f0) {i : Nat} (hi : i < f0.length) {y : Int} (y0 : 0 ≤ y) (y1 : y < 256) (hy : y ≠ f0[i]) : ¬ Takes (f0.set i y) := by
 rintro ⟨v', f', n', hs', he'⟩
 obtain ⟨v, f, n, hs, rfl⟩ := h
 exact hy (pack_set hb hi y0 y1 he'.symm)
end ImP
namespace ImP
theorem alive0_ev : qC5.f 100 = some true := by decide +kernel
theorem alive_ev : Ev (fun k => qA3.f k) true := by
 refine Ev.of qA3.mono (k := 100) ?_
 unfold qA3.f
 rw [if_pos alive0_ev]
theorem j1_true (x0 : List Int) (x1 x2 e : Int) (he : e ≠ 0) : Ev (fun k => foundrylaw17_ImageTurned.j1 k x0 x1 x2 e true) true := by
 refine Ev.step (f := fun _ => some true) (fun k => ?_) (Ev.now _)
 simp only [foundrylaw17_ImageTurned.j1]
 rw [if_pos trivial, bne_iff_ne.mpr he]
theorem j0_true (x0 : List Int) (x1 x2 x3 : Int) : Ev (fun k => foundrylaw17_ImageTurned.j0 k x0 x1 x2 x3 true) true := by
 refine Ev.step (f := fun k => (qA3.f k).bind fun t => some t) (fun k => ?_) (Ev.bind alive_ev (Ev.now _))
 simp only [foundrylaw17_ImageTurned.j0]
 rw [if_pos trivial]
theorem xor8 {a b : Int} (a0 : 0 ≤ a) (a1 : a < 256) (b0 : 0 ≤ b) (b1 : b < 256) : 0 ≤ Go.bits .xor .u8 a b ∧ Go.bits .xor .u8 a b < 256 ∧ (b ≠ 0 → Go.bits .xor .u8 a b ≠ a) := by
 rw [u8_xor a b a0 a1 b0 b1]
 have hlt : a.toNat ^^^ b.toNat < 2 ^ 8 := Nat.xor_lt_two_pow (by omega) (by omega)
 refine ⟨by omega, by omega, fun hb he => hb ?_⟩
 have e : a.toNat ^^^ b.toNat = a.toNat ^^^ 0 := by rw [Nat.xor_zero]; omega
 have := xor_r e
 omega
theorem longer_ev (l0 : List Int) (hb : qBo l0) (h : Takes l0) (x : Int) (x0 : 0 ≤ x) (x1 : x < 256) : ∃ R, Ev (fun k => qAi.f k (l0 ++ [x])) R ∧ R.2.2.2 ≠ 0 := by
 by_cases hl : (l0 ++ [x]).length ≤ 65536
 rotate_left
 ·exact ⟨_, unpack_big _ hl, by decide⟩
 obtain ⟨R, hR, hA⟩ := qCX (l0 ++ [x]) (fun y hy => by
   rcases List.mem_append.1 hy with hy | hy
   · exact hb y hy
   · rw [List.mem_singleton.1 hy]; exact ⟨x0, x1⟩) hl
 exact ⟨R, hR, by rw [hA.no (qDs h (by simp))]; decide⟩
theorem j1_ev (l0 : List Int) (hb : qBo l0) (hl : l0.length ≤ 65536) (h : Takes l0) (a1 a2 e : Int) (h0 : 0 ≤ a1) (h1 : a1 < l0.length) (b0 : 0 ≤ a2) (b1 : a2 < 256) : Ev (fun k => foundrylaw17_ImageTurned.j1 k l0 a1 a2 e false) true := by
 obtain ⟨R3, hR3, hA3⟩ := qCX (l0.take a1.toNat) (by_take hb _) (by rw [List.length_take]; omega)
 have e3 := hA3.no (takes_cut h (m := a1.toNat) (by omega))
 have hi : a1.toNat < l0.length := by omega
 have hrd : rd l0 a1 = l0[a1.toNat] := by simp [rd, List.getD_eq_getElem?_getD, List.getElem?_eq_getElem hi]
 have hx := hb _ (List.getElem_mem hi)
 have hy := xor8 hx.1 hx.2 b0 b1
 obtain ⟨R4, hR4, hA4⟩ := qCX (l0.set a1.toNat (Go.bits .xor .u8 (rd l0 a1) a2)) (fun z hz => by
   rcases List.mem_or_eq_of_mem_set hz with hz | rfl
   · exact hb z hz
   · rw [hrd]; exact ⟨hy.1, hy.2.1⟩) (by rw [List.length_set]; exact hl)
 refine Ev.step (f := fun k => (qAi.f k (l0.take a1.toNat)).bind fun r => (qAi.f k (l0.set a1.toNat (Go.bits .xor .u8 (rd l0 a1) a2))).bind fun s => if r.2.2.2 = 53 then (if a2 = 0 then some true else some (s.2.2.2 == 53)) else some false) (fun k => ?_) (Ev.bind hR3 (Ev.bind hR4 ?_))
 ·simp only [foundrylaw17_ImageTurned.j1]
  rw [if_neg (by decide), if_pos h0, if_pos (by omega)]
  simp only [Option.bind_some, List.nil_append, List.length_nil]
  simp only [if_pos (show 0 + l0.length < 140737488355328 by omega), if_pos h1]
 rw [if_pos e3]
 by_cases hz : a2 = 0
 ·rw [if_pos hz]; exact Ev.now _
 rw [if_neg hz, hA4.no (takes_set hb h hi (by rw [hrd]; exact hy.1) (by rw [hrd]; exact hy.2.1) (by rw [hrd]; exact hy.2.2 hz))]
 exact Ev.now _
theorem turned (l0 : List Int) (hb : qBo l0) (a1 a2 a3 : Int) (b0 : 0 ≤ a2) (b1 : a2 < 256) (c0 : 0 ≤ a3) (c1 : a3 < 256) : Ev (fun k => foundrylaw17_ImageTurned.f k l0 a1 a2 a3) true := by
 unfold foundrylaw17_ImageTurned.f
 by_cases hl : l0.length ≤ 65536
 rotate_left
 ·refine Ev.bind (unpack_big l0 hl) ?_
  simp only [show ¬ ((3 : Int) = 0) from by decide, if_false]
  exact j0_true _ _ _ _
 obtain ⟨R, hR, hA⟩ := qCX l0 hb hl
 refine Ev.bind hR ?_
 by_cases he : R.2.2.2 = 0
 rotate_left
 ·simp only [if_neg he]; exact j0_true _ _ _ _
 have hT := hA.takes he
 simp only [if_pos he]
 refine Ev.bind alive_ev ?_
 obtain ⟨R2, hR2, e2⟩ := longer_ev l0 hb hT a3 c0 c1
 refine Ev.step (f := fun k => (qAi.f k (l0 ++ [a3])).bind fun r => if r.2.2.2 = 0 then foundrylaw17_ImageTurned.j1 k l0 a1 a2 r.2.2.2 true else if a1 < 0 then foundrylaw17_ImageTurned.j1 k l0 a1 a2 r.2.2.2 true else foundrylaw17_ImageTurned.j1 k l0 a1 a2 r.2.2.2 (decide (a1 ≥ (l0.length : Int)))) (fun k => ?_) (Ev.bind hR2 ?_)
 ·simp only [foundrylaw17_ImageTurned.j0]
  rw [if_neg (by decide)]
  simp only [Option.bind_some, List.nil_append, List.length_nil]
  rw [if_pos (by omega), if_pos (by omega)]
 simp only [if_neg e2]
 by_cases h0 : a1 < 0
 ·simp only [if_pos h0]; exact j1_true _ _ _ _ e2
 simp only [if_neg h0]
 by_cases h1 : a1 ≥ (l0.length : Int)
 ·rw [decide_eq_true h1]; exact j1_true _ _ _ _ e2
 rw [decide_eq_false h1]; exact j1_ev l0 hb hl hT a1 a2 _ (by omega) (by omega) b0 b1
theorem u8_wf {n : Int} (h : (Lit.int .u8 n).wf = true) : 0 ≤ n ∧ n < 256 := by
 simp [Lit.wf, IntKind.min, IntKind.max, IntKind.bits, IntKind.signed] at h
 omega
theorem turned_pure : foundrylaw17_ImageTurned.Pure := fun l0 a1 a2 a3 _ _ hb _ h2 h3 =>
 (turned l0 (fun x hx => u8_wf (hb x hx)) a1 a2 a3 (u8_wf h2).1 (u8_wf h2).2 (u8_wf h3).1 (u8_wf h3).2).rounds
end ImP
end Q
end
section
namespace Pure
open Go.RowKit Q YA YC
theorem ImageTurned : foundrylaw17_ImageTurned.Pure := Q.ImP.turned_pure
end Pure
end
section
namespace YA
open Go.ChangeShapes Go.WideShapes
theorem sized_ints {H : Type} {enc : TypeId × Value → H} {P : Program} {W : World} {base : Nat} {spare : Nat → Bool} {held : Bool} {t e : TypeId} {k : IntKind} {a : Option Addr} {len cap : Nat} {d : DataW H} {ps : List MemPlace} {ts : List TypeId} {ds : List (DataW H)} {j : Nat}
  (hsz : (DataW.weightsEach P ts ds).all (· ≤ reachBytes) = true) (ht : ts[j]? = some t) (hd : ds[j]? = some d) (hu : P.underlying t = some (.slice e)) (he : P.underlying e = some (.int k)) (hc : P.cellsOf e = 1) {B : Nat} (hB : P.bytesOf e = B)
  (h : DataW.Trod enc P W base spare held t (.slice a len cap) d ps) : len * B ≤ 140737488351232 := by
 obtain ⟨fuel, hf⟩ := h
 rcases open_ints hu he hc hf with ⟨hcs, _⟩ | ⟨x, l, c, zs, hcs, _, hl, _, hz, hx, _, _⟩
 ·simp [Value.cells] at hcs
  obtain ⟨rfl, rfl, rfl⟩ := hcs
  simp
 ·simp [Value.cells] at hcs
  obtain ⟨rfl, rfl, rfl⟩ := hcs
  obtain ⟨hx, _⟩ := Prod.mk.inj hx
  subst hx
  have z := sized_slice hsz ht hd hu
  rw [hB] at z
  have hl2 : len ≤ zs.length := by
   rw [hz]
   split
   ·exact hl
   exact Nat.le_refl _
  have h1 : (lits (H := H) k (zs.take len)).length + (lits (H := H) k (zs.drop len)).length = zs.length := by
   simp [lits]
   omega
  rw [h1] at z
  exact Nat.le_trans (Nat.mul_le_mul_right _ hl2) z
end YA
end
section
namespace imageTurned
open Go.ChangeShapes Go.WideShapes Go.ChangeAt Go.RowKit
open Go.ChangeMaps (open_string shut_string)
theorem own : ownKnob Try.prog.godebug = none := by kernel_rfl
theorem laidOut : laidOutB Try.prog = true := by kernel_rfl
def IsRow (k : IntKind) (w : World) (a : Option Addr) (len cap : Nat) (zs : List Int) : Prop :=
 (a = none ∧ len = 0 ∧ cap = 0 ∧ zs = []) ∨
 ∃ x, a = some x ∧ len ≤ cap ∧ cap ≤ maxLen ∧ zs.length = cap ∧ (∀ i, i < zs.length → w.cell? (x.add i) = some (.int k (zs.getD i 0))) ∧ ∀ n ∈ zs, (Lit.int k n).wf = true
theorem lifted (os : Os) (started : os.Started) (H : Type) (enc : TypeId × Value → H) :
  ReturnsInHanded {} Try.checked os 5 .any (Rows.imageTurnedSpec.pre6 enc Try.prog Try.f5 Rows.imageTurnedRow.domain false) (Rows.imageTurnedSpec.post enc Try.prog Try.f5 false true false false) := by
 refine returnsInHanded_of_change_sized (C := Try.checked) own started (by kernel_rfl) Try.func5
  (ChangeSpec.witness6 (enc := enc) (C := Try.checked) false ⟨#[], #[.slice none 0 0, .int .i64 0, .int .u8 0, .int .u8 0], []⟩ 8 (by kernel_rfl) (by kernel_rfl) (by kernel_rfl) (by kernel_rfl)) ?_
 intro W base args ds gs before hval0 hW hcnd hsz0 _
 have hsz : (DataW.weightsEach Try.prog (Try.f5.params.toList ++ Rows.imageTurnedSpec.plain.varTypes Try.prog) (ds ++ gs)).all (· ≤ reachBytes) = true := hsz0
 have hval : ∀ (j : Nat) t v, Try.f5.params[j]? = some t → args[j]? = some v → Value.okWide Try.prog W .any base t v := hval0
 have hW' := hW
 obtain ⟨p, q, hA0, hV, rfl, hfz, hnd⟩ := hW
 have hA : DataW.TrodAll enc Try.prog W 0 (fun _ => true) true Try.f5.params.toList args.toList ds p := hA0
 rw [Try.params5] at hA hval hsz
 obtain ⟨v0, vs0, d0, ds0, p0, q0, hargs, rfl, rfl, h0, r0⟩ := trodAll_cons hA
 obtain ⟨v1, vs1, d1, ds1, p1, q1, rfl, rfl, rfl, h1, r1⟩ := trodAll_cons r0
 obtain ⟨v2, vs2, d2, ds2, p2, q2, rfl, rfl, rfl, h2, r2⟩ := trodAll_cons r1
 obtain ⟨v3, vs3, d3, ds3, p3, q3, rfl, rfl, rfl, h3, r3⟩ := trodAll_cons r2
 obtain ⟨rfl, rfl, rfl⟩ := trodAll_nil r3
 obtain rfl : args = #[v0, v1, v2, v3] := by cases args; simp_all
 obtain ⟨rfl, rfl⟩ := trodVars_none hV
 obtain ⟨a0, len0, cap0, rfl⟩ := okWide_slice Try.underlying22 (hval 0 22 v0 rfl rfl)
 have k0 := h0
 have lt0 : ∀ x ∈ p0, x.block < W.heap.size := by obtain ⟨m, hm⟩ := k0; exact DataW.trod_lt m _ _ _ hm
 obtain ⟨z0, w0⟩ : ∃ zs, IsRow .u8 W a0 len0 cap0 zs := by
  obtain ⟨fuel, hf⟩ := h0
  rcases open_ints Try.underlying22 Try.underlying5 (by kernel_rfl) hf with ⟨hcs, _⟩ | ⟨x, l, c, zs, hcs, _, hl, hm, hz, _, hcell, hwz⟩
  ·simp [Value.cells] at hcs
   obtain ⟨rfl, rfl, rfl⟩ := hcs
   exact ⟨[], .inl ⟨rfl, rfl, rfl, rfl⟩⟩
  simp [Value.cells] at hcs
  obtain ⟨rfl, rfl, rfl⟩ := hcs
  exact ⟨zs, .inr ⟨_, rfl, hl, hm, by simpa using hz, hcell, hwz⟩⟩
 have y0 : len0 * 1 ≤ 140737488351232 := YA.sized_ints hsz (j := 0) (t := 22) rfl rfl Try.underlying22 Try.underlying5 (by kernel_rfl) (by kernel_rfl) h0
 obtain ⟨a1, rfl, rfl, rfl, w1⟩ := open_int Try.underlying3 (hval 1 3 v1 rfl rfl) h1
 obtain ⟨a2, rfl, rfl, rfl, w2⟩ := open_int Try.underlying5 (hval 2 5 v2 rfl rfl) h2
 obtain ⟨a3, rfl, rfl, rfl, w3⟩ := open_int Try.underlying5 (hval 3 5 v3 rfl rfl) h3
 clear hA0 hval0 hsz0 hsz
 refine (Q.foundrylaw17_ImageTurned.walk Pure.ImageTurned a0 len0 cap0 z0 a1 a2 a3 W w0 y0 w1 w2 w3).mono fun e W' ⟨he, bel⟩ => ?_
 subst he
 exact ⟨_, rfl, _, _, _, [], _, [], hW', trodAll_mk1 (shut_bool Try.underlying4 _), (trodAll_cons_mk (Below.trod laidOut (by kernel_rfl) (of_decide_eq_true (by kernel_rfl)) k0 bel lt0) (trodAll_cons_mk (shut_int Try.underlying3 w1) (trodAll_cons_mk (shut_int Try.underlying5 w2) (trodAll_cons_mk (shut_int Try.underlying5 w3) trodAll_mk0)))), rfl, bel.frame _, fun h => by cases h⟩
theorem over : Rows.imageTurnedRow.holds Try.pinned (OpenSpec.ofChange Rows.imageTurnedSpec) :=
 OpenClaim.holds_of_wide 5 Try.f5 rfl rfl rfl rfl rfl rfl rfl ⟨rfl, rfl, rfl, rfl, rfl⟩ rfl rfl rfl rfl rfl (by kernel_rfl) Try.func5 (by kernel_rfl)
  (of_decide_eq_true (by kernel_rfl)) (by unfold Func.isWrapper; first | (rw [if_pos (by decide +kernel)]; kernel_rfl) | (rw [if_neg (by decide +kernel)]; exact ⟨rfl, rfl⟩))
  (fun os started H enc _ => lifted os started H enc)
theorem proved : Rows.ImageTurnedSaid := over
#print axioms proved
end imageTurned

theorem imageTurned_holds : Rows.ImageTurnedSaid := imageTurned.proved
end
end Go.Proofs.Ytfjpnjbinbhcfaa
