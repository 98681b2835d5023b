/- object.Unpack of any bytes, where the law ObjectBytes asks: bytes that are read are written again as they were; bytes that are cut or longer are none. Part 7 of 8. -/
import Derived.Test.YtfjpnjbinbhcfaaB6
set_option maxHeartbeats 8000000
set_option maxRecDepth 100000
set_option linter.unusedVariables false
set_option linter.unusedSimpArgs false
namespace Go.Proofs.Ytfjpnjbinbhcfaa
section
namespace Q
open Go.RowKit PA PB PC
attribute [local go_sem] qBd min2_int qBp min_two max_three min_three max_four min_four
def foundrylaw15_ObjectBytes.j0 : Nat → List Int → Int → Int → Bool → Option (Bool)
 | 0, _, _, _, _ => none
 | k + 1, x0, x1, x2, ey => if ey = true then (some false) else ((some (([] : List Int) : List Int)).bind fun aw => (if aw.length + x0.length < 140737488355328 then ((some (aw ++ x0 : List Int)).bind fun ai => (if ai.length < 140737488355328 then ((qAa.f k (ai ++ [x2])).bind fun au => (if au.2.2.2.2 = 0 then (some false) else (if x1 < 0 then (some true) else (if x1 ≥ (x0.length : Int) then (some true) else (if 0 ≤ x1 then (if x1 ≤ (x0.length : Int) then ((qAa.f k (x0.take (x1 : Int).toNat)).bind fun ag => (some (ag.2.2.2.2 == 52))) else (none)) else (none)))))) else (none))) else (none)))
def foundrylaw15_ObjectBytes.f (k : Nat) (l0 : List Int) (a1 : Int) (a2 : Int) : Option (Bool) := (qAa.f k l0).bind fun aa => (if aa.2.2.2.2 = 0 then ((qA7.f aa.1 aa.2.1 aa.2.2.1 aa.2.2.2.1).bind fun ay => (if ay.2 = 0 then (if (strOfNums ay.1).toList = (strOfNums l0).toList then ((qA5.f k).bind fun az => (foundrylaw15_ObjectBytes.j0 k l0 a1 a2 (!az))) else (foundrylaw15_ObjectBytes.j0 k l0 a1 a2 true)) else (foundrylaw15_ObjectBytes.j0 k l0 a1 a2 true))) else (if aa.1.toList = ([] : List UInt8) then (if (wrap64 ((wrap64 ((aa.2.1.length : Int) + (aa.2.2.1.length : Int))) + (aa.2.2.2.1.length : Int))) = 0 then ((qA5.f k).bind fun bD => (some bD)) else (some false)) else (some false)))
theorem foundrylaw15_ObjectBytes.calls (k : Nat) (A0 : Option Addr) (c0 : Nat) (l0 : List Int) (a1 : Int) (a2 : Int) (r : Bool) (w : World) (hr0 : Kd.C (Kd.int .u8) w A0 l0.length l0) (hc0 : l0.length ≤ c0) (h : foundrylaw15_ObjectBytes.f k l0 a1 a2 = some r) :
  Calls Try.prog 3 #[.slice A0 l0.length c0, .int .i64 a1, .int .u8 a2] w fun e w' => e = .returned (.bool r) ∧ Below w.heap.size w w' := by
 have bT := am hr0
 have bz := am hc0
 clear hr0 hc0
 have HB := am (Below.refl w.heap.size w)
 have H : ((qAa.f k l0).bind fun aa => (if aa.2.2.2.2 = 0 then ((qA7.f aa.1 aa.2.1 aa.2.2.1 aa.2.2.2.1).bind fun ay => (if ay.2 = 0 then (if (strOfNums ay.1).toList = (strOfNums l0).toList then ((qA5.f k).bind fun az => (foundrylaw15_ObjectBytes.j0 k l0 a1 a2 (!az))) else (foundrylaw15_ObjectBytes.j0 k l0 a1 a2 true)) else (foundrylaw15_ObjectBytes.j0 k l0 a1 a2 true))) else (if aa.1.toList = ([] : List UInt8) then (if (wrap64 ((wrap64 ((aa.2.1.length : Int) + (aa.2.2.1.length : Int))) + (aa.2.2.2.1.length : Int))) = 0 then ((qA5.f k).bind fun bD => (some bD)) else (some false)) else (some false)))) = some r := h
 clear h
 replace H := bm H
 obtain ⟨⟨aJ, aK, aM, aQ, bA⟩, eN, H⟩ := H
 replace H : (if bA = 0 then ((qA7.f aJ aK aM aQ).bind fun ay => (if ay.2 = 0 then (if (strOfNums ay.1).toList = (strOfNums l0).toList then ((qA5.f k).bind fun az => (foundrylaw15_ObjectBytes.j0 k l0 a1 a2 (!az))) else (foundrylaw15_ObjectBytes.j0 k l0 a1 a2 true)) else (foundrylaw15_ObjectBytes.j0 k l0 a1 a2 true))) else (if aJ.toList = ([] : List UInt8) then (if (wrap64 ((wrap64 ((aK.length : Int) + (aM.length : Int))) + (aQ.length : Int))) = 0 then ((qA5.f k).bind fun bD => (some bD)) else (some false)) else (some false))) = some r := H
 have A4 := am eN
 clear eN
 by_cases c5 : bA = 0
 ·rw [if_pos c5] at H
  have cI : (bA == 0) = true := beq_iff_eq.mpr c5
  have cJ : (bA != 0) = false := bn c5
  clear c5
  replace H := bm H
  obtain ⟨⟨bY, bR⟩, eO, H⟩ := H
  replace H : (if bR = 0 then (if (strOfNums bY).toList = (strOfNums l0).toList then ((qA5.f k).bind fun az => (foundrylaw15_ObjectBytes.j0 k l0 a1 a2 (!az))) else (foundrylaw15_ObjectBytes.j0 k l0 a1 a2 true)) else (foundrylaw15_ObjectBytes.j0 k l0 a1 a2 true)) = some r := H
  have A6 := am eO
  clear eO
  have de := am H
  clear H
  go_enter Try.func3, Try.ntmps3
  go_upto_region 5 with (first | ((with_reducible refine qAj (f := 7) rfl ?_); refine gL 15 Try.func7 #[.slice A0 l0.length c0] ?_; (with_reducible refine (qAa.calls k _ _ l0 aJ aK aM aQ bA _ ?side1 ?side2 A4.o).mono ?_); (case side1 => repeat ((exact bT.o))); (case side2 => exact bz.o); rintro e w8 ⟨bb, bc, bd, rfl, ah, an, ao, hb⟩; refine ⟨_, rfl, ?_⟩; have n0_ := am (Kd.R_lower ah (qAi (by repeat ((with_reducible (exact HB.o)))))); have n1_ := am (Kd.S_lower an (qAi (by repeat ((with_reducible (exact HB.o)))))); have n2_ := am (Kd.R_lower ao (qAi (by repeat ((with_reducible (exact HB.o)))))); have n3_ := am (qAo (by repeat ((with_reducible (exact HB.o)))) hb); clear HB; have aT := n0_; have aU := n1_; have aV := n2_; have HB := n3_; clear n0_ n1_ n2_ n3_; (skip); (skip); (skip)) | ((with_reducible refine qAC (N := 7) rfl ?_); (try (refine qAE (by rfl) ?_; dsimp only)); refine bx 7 #[.string ⟨#[]⟩, .slice none 0 0, .slice none 0 0, .slice none 0 0] 27 ?_; intro aG hg w9 hbox hb; have n0_ := am (Kd.R_below (by (with_reducible repeat (fail)); exact aT.o) hb); have n1_ := am (Kd.S_below (by (with_reducible repeat (fail)); exact aU.o) hb); have n2_ := am (Kd.R_below (by (with_reducible repeat (fail)); exact aV.o) hb); have n3_ := am (qAo (by repeat ((with_reducible (exact HB.o)))) hb); have n4_ := am (hbox); have n5_ := am ((by rw [hg]; exact (qAi (by repeat ((with_reducible (exact HB.o))))) : w.heap.size ≤ aG)); have n6_ := am ((by rw [hg]; exact (qAi (by repeat ((with_reducible (exact HB.o))))) : w.heap.size ≤ aG)); clear aT; clear aU; clear aV; clear HB; have aT := n0_; have aU := n1_; have aV := n2_; have HB := n3_; have aE := n4_; have ax := n6_; clear n0_ n1_ n2_ n3_ n4_ n5_ n6_; clear hb hbox hg; have b1 : w9.cell? ⟨aG, 0, none⟩ = some (.string ⟨#[]⟩) := (qAb aE.o 0).trans rfl; have b2 : w9.cell? ⟨aG, 1, none⟩ = some (.slice none 0 0) := (qAb aE.o 1).trans rfl; have b3 : w9.cell? ⟨aG, 2, none⟩ = some (.slice none 0 0) := (qAb aE.o 2).trans rfl; have b4 : w9.cell? ⟨aG, 3, none⟩ = some (.slice none 0 0) := (qAb aE.o 3).trans rfl; have b5 := qAc aE.o 0; have b6 := qAc aE.o 1; have b7 := qAc aE.o 2; have b8 := qAc aE.o 3; obtain ⟨aX, aW, dj⟩ := Kd.R_slice aT.o; subst dj; obtain ⟨aZ, aY, dk⟩ := Kd.S_slice aU.o; subst dk; obtain ⟨a6, a5, dl⟩ := Kd.R_slice aV.o; subst dl) | ((with_reducible refine qAj (f := 9) rfl ?_); refine gL 42 Try.func9 #[.agg #[.string aJ, .slice aX aK.length aW, .slice aZ aM.length aY, .slice a6 aQ.length a5]] ?_; (with_reducible refine (qA7.calls aJ _ _ aK _ _ aM _ _ aQ bY bR _ ?side1 ?side2 ?side3 ?side4 ?side5 ?side6 A6.o).mono ?_); (case side1 => refine (Kd.R_reads' (e := 71) (base := w.heap.size) (ok := fun k_ => True) (n := aK.length) (c := aW) ?_).2.2; exact (by (with_reducible repeat (fail)); exact (Kd.R_mono (Kd.R_far (p := ⟨aG, 3, none⟩) (Kd.R_far (p := ⟨aG, 2, none⟩) (Kd.R_far (p := ⟨aG, 1, none⟩) (Kd.R_far (p := ⟨aG, 0, none⟩) (Kd.R_types aT.o aE.o (by decide)) (fun _ hk => hk.2) (.string aJ)) (fun _ hk => hk.2) (.slice aX aK.length aW)) (fun _ hk => hk.2) (.slice aZ aM.length aY)) (fun _ hk => hk.2) (.slice a6 aQ.length a5)) (fun _ h_ => h_.1)))); (case side2 => exact (Kd.R_reads' aT.o).2.1); (case side3 => refine (Kd.S_reads' (e := 80) (base := w.heap.size) (ok := fun k_ => True) (n := aM.length) (c := aY) ?_).2.2; exact (by (with_reducible repeat (fail)); exact (Kd.S_mono (Kd.S_far (p := ⟨aG, 3, none⟩) (Kd.S_far (p := ⟨aG, 2, none⟩) (Kd.S_far (p := ⟨aG, 1, none⟩) (Kd.S_far (p := ⟨aG, 0, none⟩) (Kd.S_types aU.o aE.o (by decide)) (fun _ hk => hk.2) (.string aJ)) (fun _ hk => hk.2) (.slice aX aK.length aW)) (fun _ hk => hk.2) (.slice aZ aM.length aY)) (fun _ hk => hk.2) (.slice a6 aQ.length a5)) (fun _ h_ => h_.1)))); (case side4 => exact (Kd.S_reads' aU.o).2.1); (case side5 => refine (Kd.R_reads' (e := 82) (base := w.heap.size) (ok := fun k_ => True) (n := aQ.length) (c := a5) ?_).2.2; exact (by (with_reducible repeat (fail)); exact (Kd.R_mono (Kd.R_far (p := ⟨aG, 3, none⟩) (Kd.R_far (p := ⟨aG, 2, none⟩) (Kd.R_far (p := ⟨aG, 1, none⟩) (Kd.R_far (p := ⟨aG, 0, none⟩) (Kd.R_types aV.o aE.o (by decide)) (fun _ hk => hk.2) (.string aJ)) (fun _ hk => hk.2) (.slice aX aK.length aW)) (fun _ hk => hk.2) (.slice aZ aM.length aY)) (fun _ hk => hk.2) (.slice a6 aQ.length a5)) (fun _ h_ => h_.1)))); (case side6 => exact (Kd.R_reads' aV.o).2.1); rintro e fA ⟨et, rfl, ah, hb⟩; refine ⟨_, rfl, ?_⟩; have n0_ := am (Kd.R_below (by (with_reducible repeat (fail)); exact (Kd.R_mono (Kd.R_far (p := ⟨aG, 3, none⟩) (Kd.R_far (p := ⟨aG, 2, none⟩) (Kd.R_far (p := ⟨aG, 1, none⟩) (Kd.R_far (p := ⟨aG, 0, none⟩) (Kd.R_types aT.o aE.o (by decide)) (fun _ hk => hk.2) (.string aJ)) (fun _ hk => hk.2) (.slice aX aK.length aW)) (fun _ hk => hk.2) (.slice aZ aM.length aY)) (fun _ hk => hk.2) (.slice a6 aQ.length a5)) (fun _ h_ => h_.1))) hb); have n1_ := am (Kd.S_below (by (with_reducible repeat (fail)); exact (Kd.S_mono (Kd.S_far (p := ⟨aG, 3, none⟩) (Kd.S_far (p := ⟨aG, 2, none⟩) (Kd.S_far (p := ⟨aG, 1, none⟩) (Kd.S_far (p := ⟨aG, 0, none⟩) (Kd.S_types aU.o aE.o (by decide)) (fun _ hk => hk.2) (.string aJ)) (fun _ hk => hk.2) (.slice aX aK.length aW)) (fun _ hk => hk.2) (.slice aZ aM.length aY)) (fun _ hk => hk.2) (.slice a6 aQ.length a5)) (fun _ h_ => h_.1))) hb); have n2_ := am (Kd.R_below (by (with_reducible repeat (fail)); exact (Kd.R_mono (Kd.R_far (p := ⟨aG, 3, none⟩) (Kd.R_far (p := ⟨aG, 2, none⟩) (Kd.R_far (p := ⟨aG, 1, none⟩) (Kd.R_far (p := ⟨aG, 0, none⟩) (Kd.R_types aV.o aE.o (by decide)) (fun _ hk => hk.2) (.string aJ)) (fun _ hk => hk.2) (.slice aX aK.length aW)) (fun _ hk => hk.2) (.slice aZ aM.length aY)) (fun _ hk => hk.2) (.slice a6 aQ.length a5)) (fun _ h_ => h_.1))) hb); have n3_ := am (Kd.R_lower ah (qAi (by repeat ((with_reducible first | exact HB.o | refine qAq ?_ ax.o))))); have n4_ := am (qAz (g := aG) (o := .cells #[.string aJ, .slice aX aK.length aW, .slice aZ aM.length aY, .slice a6 aQ.length a5] 27 (0, 0)) (by (with_reducible repeat (fail)); refine qAt (cs := #[.string aJ, .slice aX aK.length aW, .slice aZ aM.length aY, .slice none 0 0]) ?_ 3 _ rfl; (with_reducible repeat (fail)); refine qAt (cs := #[.string aJ, .slice aX aK.length aW, .slice none 0 0, .slice none 0 0]) ?_ 2 _ rfl; (with_reducible repeat (fail)); refine qAt (cs := #[.string aJ, .slice none 0 0, .slice none 0 0, .slice none 0 0]) ?_ 1 _ rfl; (with_reducible repeat (fail)); refine qAt (cs := #[.string ⟨#[]⟩, .slice none 0 0, .slice none 0 0, .slice none 0 0]) ?_ 0 _ rfl; (with_reducible repeat (fail)); exact aE.o) hb); have n5_ := am (qAo (by repeat ((with_reducible first | exact HB.o | refine qAq ?_ ax.o))) hb); clear aT; clear aU; clear aV; clear aE; clear HB; have aT := n0_; have aU := n1_; have aV := n2_; have bH := n3_; have aE := n4_; have HB := n5_; clear n0_ n1_ n2_ n3_ n4_ n5_; (skip); (skip); (skip)))
  (skip)
  go_cut [57] (fun ex wc => ∃ (kq : Nat) (bO : Bool), ex = .bool bO ∧ qAf (foundrylaw15_ObjectBytes.j0 kq l0 a1 a2 bO = some r) ∧ qAf (kq ≤ k) ∧ qAf (Kd.R k71 71 wc w.heap.size (fun _ => True) (.slice aX aK.length aW) aK) ∧ qAf (Kd.S k80 80 wc w.heap.size (fun _ => True) (.slice aZ aM.length aY) aM) ∧ qAf (Kd.R k82 82 wc w.heap.size (fun _ => True) (.slice a6 aQ.length a5) aQ) ∧ qAf (wc.heap[aG]? = some (.cells #[.string aJ, (.slice aX aK.length aW), (.slice aZ aM.length aY), (.slice a6 aQ.length a5)] 27 (0, 0))) ∧ qAf (Below w.heap.size w wc))
  case first =>
   have H := de.o
   clear de
   by_cases bk : bR = 0
   rotate_left
   ·rw [if_neg bk] at H
    have cC : (bR != 0) = true := bne_iff_ne.mpr bk
    ((skip))
    have H' := am H
    clear H
    go_wp2
    go_meet
    case rel => exact ⟨_, (true), (by (rfl)), H', ⟨by (omega)⟩, ⟨by (with_reducible repeat (fail)); exact aT.o⟩, ⟨by (with_reducible repeat (fail)); exact aU.o⟩, ⟨by (with_reducible repeat (fail)); exact aV.o⟩, ⟨by (with_reducible repeat (fail)); exact aE.o⟩, ⟨by repeat ((with_reducible (exact HB.o)))⟩⟩
   rw [if_pos bk] at H
   have eS : (bR == 0) = true := beq_iff_eq.mpr bk
   have cC : (bR != 0) = false := bn bk
   clear bk
   ((skip))
   by_cases cD : (strOfNums bY).toList = (strOfNums l0).toList
   rotate_left
   ·rw [if_neg cD] at H
    have cE : ((strOfNums bY).toList == (strOfNums l0).toList) = false := bf cD
    have H' := am H
    clear H
    have hcv21 := qDm (P := Try.prog) Try.underlying22 Try.underlying5 Try.underlying9 (Kd.own_of_R bH.o)
    skip
    have hcv22 := Kd.C_string (P := Try.prog) (A := A0) (c := c0) Try.underlying22 Try.underlying5 Try.underlying9 (Kd.C_below bT.o HB.o)
    skip
    go_wp2
    go_meet
    case rel => exact ⟨_, (true), (by (rfl)), H', ⟨by (omega)⟩, ⟨by (with_reducible repeat (fail)); exact aT.o⟩, ⟨by (with_reducible repeat (fail)); exact aU.o⟩, ⟨by (with_reducible repeat (fail)); exact aV.o⟩, ⟨by (with_reducible repeat (fail)); exact aE.o⟩, ⟨by repeat ((with_reducible (exact HB.o)))⟩⟩
   rw [if_pos cD] at H
   have cE : ((strOfNums bY).toList == (strOfNums l0).toList) = true := beq_iff_eq.mpr cD
   clear cD
   replace H := bm H
   obtain ⟨az, br, H⟩ := H
   replace H : (foundrylaw15_ObjectBytes.j0 k l0 a1 a2 (!az)) = some r := H
   have e2 := am br
   clear br
   have H' := am H
   clear H
   have hcv18 := qDm (P := Try.prog) Try.underlying22 Try.underlying5 Try.underlying9 (Kd.own_of_R bH.o)
   skip
   have hcv19 := Kd.C_string (P := Try.prog) (A := A0) (c := c0) Try.underlying22 Try.underlying5 Try.underlying9 (Kd.C_below bT.o HB.o)
   skip
   go_wp2_with ((go_at_call 8; (with_reducible refine (qA5.calls k  az _ e2.o).mono ?_); rintro e fB ⟨rfl, hb⟩; have n0_ := am (Kd.R_below (by (with_reducible repeat (fail)); exact aT.o) hb); have n1_ := am (Kd.S_below (by (with_reducible repeat (fail)); exact aU.o) hb); have n2_ := am (Kd.R_below (by (with_reducible repeat (fail)); exact aV.o) hb); have n3_ := am (Kd.R_below (by (with_reducible repeat (fail)); exact bH.o) hb); have n4_ := am (qAz (g := aG) (o := .cells #[.string aJ, .slice aX aK.length aW, .slice aZ aM.length aY, .slice a6 aQ.length a5] 27 (0, 0)) (by (with_reducible repeat (fail)); exact aE.o) hb); have n5_ := am (qAo (by repeat ((with_reducible (exact HB.o)))) hb); clear aT; clear aU; clear aV; clear bH; clear aE; clear HB; have aT := n0_; have aU := n1_; have aV := n2_; have aE := n4_; have HB := n5_; clear n0_ n1_ n2_ n3_ n4_ n5_; (skip); (skip); (skip)))
   go_meet
   case rel => exact ⟨_, (!az), (by (rfl)), H', ⟨by (omega)⟩, ⟨by (with_reducible repeat (fail)); exact aT.o⟩, ⟨by (with_reducible repeat (fail)); exact aU.o⟩, ⟨by (with_reducible repeat (fail)); exact aV.o⟩, ⟨by (with_reducible repeat (fail)); exact aE.o⟩, ⟨by repeat ((with_reducible (exact HB.o)))⟩⟩
  case rest =>
   clear de
   skip
   skip
   skip
   skip
   skip
   skip
   skip
   skip
   skip
   skip
   skip
   skip
   skip
   skip
   skip
   skip
   skip
   skip
   skip
   obtain ⟨kq, bO, rfl, HA, ez, aA, aC, aD, aE, HB⟩ := hcut
   cases kq with
   | zero => exact absurd HA.o (by simp [foundrylaw15_ObjectBytes.j0])
   | succ bN =>
    have H := HA.o
    clear HA
    simp only [foundrylaw15_ObjectBytes.j0] at H
    by_cases cc : bO = true
    ·subst cc
     replace H : (some false) = some r := by rw [if_pos rfl] at H; exact H
     obtain rfl := Option.some.inj H
     go_wp2
     go_ret
     exact ⟨by (rfl), by repeat ((with_reducible (exact HB.o)))⟩
    replace cc := Bool.eq_false_iff.mpr cc
    subst cc
    replace H : ((some (([] : List Int) : List Int)).bind fun aw => (if aw.length + l0.length < 140737488355328 then ((some (aw ++ l0 : List Int)).bind fun ai => (if ai.length < 140737488355328 then ((qAa.f bN (ai ++ [a2])).bind fun au => (if au.2.2.2.2 = 0 then (some false) else (if a1 < 0 then (some true) else (if a1 ≥ (l0.length : Int) then (some true) else (if 0 ≤ a1 then (if a1 ≤ (l0.length : Int) then ((qAa.f bN (l0.take (a1 : Int).toNat)).bind fun ag => (some (ag.2.2.2.2 == 52))) else (none)) else (none)))))) else (none))) else (none))) = some r := by rw [if_neg (show ¬ (false = true) by decide)] at H; exact H
    obtain ⟨aw, bV⟩ : ∃ y_ : List Int, y_ = (([] : List Int)) := ⟨_, rfl⟩
    replace H : (if aw.length + l0.length < 140737488355328 then ((some (aw ++ l0 : List Int)).bind fun ai => (if ai.length < 140737488355328 then ((qAa.f bN (ai ++ [a2])).bind fun au => (if au.2.2.2.2 = 0 then (some false) else (if a1 < 0 then (some true) else (if a1 ≥ (l0.length : Int) then (some true) else (if 0 ≤ a1 then (if a1 ≤ (l0.length : Int) then ((qAa.f bN (l0.take (a1 : Int).toNat)).bind fun ag => (some (ag.2.2.2.2 == 52))) else (none)) else (none)))))) else (none))) else (none)) = some r := by (have H2_ := (Option.bind_some _ _).symm.trans H; rw [bV]; with_reducible exact H2_)
    have bK := am bV
    clear bV
    obtain ⟨cd, H⟩ := gd H
    have bI := am cd
    clear cd
    obtain ⟨ai, bW⟩ : ∃ y_ : List Int, y_ = (aw ++ l0) := ⟨_, rfl⟩
    replace H : (if ai.length < 140737488355328 then ((qAa.f bN (ai ++ [a2])).bind fun au => (if au.2.2.2.2 = 0 then (some false) else (if a1 < 0 then (some true) else (if a1 ≥ (l0.length : Int) then (some true) else (if 0 ≤ a1 then (if a1 ≤ (l0.length : Int) then ((qAa.f bN (l0.take (a1 : Int).toNat)).bind fun ag => (some (ag.2.2.2.2 == 52))) else (none)) else (none)))))) else (none)) = some r := by (have H2_ := (Option.bind_some _ _).symm.trans H; rw [bW]; with_reducible exact H2_)
    have bL := am bW
    clear bW
    obtain ⟨ce, H⟩ := gd H
    have bJ := am ce
    clear ce
    obtain ⟨bC, bX⟩ : ∃ y_ : List Int, y_ = (ai ++ [a2]) := ⟨_, rfl⟩
    replace H : ((qAa.f bN bC).bind fun au => (if au.2.2.2.2 = 0 then (some false) else (if a1 < 0 then (some true) else (if a1 ≥ (l0.length : Int) then (some true) else (if 0 ≤ a1 then (if a1 ≤ (l0.length : Int) then ((qAa.f bN (l0.take (a1 : Int).toNat)).bind fun ag => (some (ag.2.2.2.2 == 52))) else (none)) else (none)))))) = some r := by (rw [bX]; with_reducible exact H)
    have bM := am bX
    clear bX
    replace H := bm H
    obtain ⟨⟨ab, ac, ad, ae, bB⟩, bs, H⟩ := H
    replace H : (if bB = 0 then (some false) else (if a1 < 0 then (some true) else (if a1 ≥ (l0.length : Int) then (some true) else (if 0 ≤ a1 then (if a1 ≤ (l0.length : Int) then ((qAa.f bN (l0.take (a1 : Int).toNat)).bind fun ag => (some (ag.2.2.2.2 == 52))) else (none)) else (none))))) = some r := H
    have ca := am bs
    clear bs
    by_cases bl : bB = 0
    ·rw [if_pos bl] at H
     have cF : (bB == 0) = true := beq_iff_eq.mpr bl
     clear bl
     obtain rfl := Option.some.inj H
     go_wp2_with (first | ((with_reducible refine qAC (N := 59) rfl ?_); (try (refine qAE (by rfl) ?_; dsimp only)); refine Kd.R_lit (Kd.int .u8) _ 5 ?hg (N := 59) ?hd (xs := ([] : List Int)) (inner := []) (ok := fun _ => True) (okp := fun _ => True) ?hr ?hp (fun _ hk => hk) trivial (Below.refl _ _) (Nat.le_refl _) (by simp) ?_; (case hd => rfl); (case hg => rfl); (case hr => (go_simp; done)); (case hp => exact (Reps.none _ _)); intro bF fC ho29 hb hg_ hnew_; clear hg_ hnew_; ((rw [← bK.o] at ho29)); have n0_ := am (Kd.R_below (by (with_reducible repeat (fail)); exact aA.o) hb); have n1_ := am (Kd.S_below (by (with_reducible repeat (fail)); exact aC.o) hb); have n2_ := am (Kd.R_below (by (with_reducible repeat (fail)); exact aD.o) hb); have n3_ := am (Kd.R_lower ho29 (qAi (by repeat ((with_reducible (exact HB.o)))))); have n4_ := am (qAz (g := aG) (o := .cells #[.string aJ, .slice aX aK.length aW, .slice aZ aM.length aY, .slice a6 aQ.length a5] 27 (0, 0)) (by (with_reducible repeat (fail)); exact aE.o) hb); have n5_ := am (qAo (by repeat ((with_reducible (exact HB.o)))) hb); clear aA; clear aC; clear aD; clear aE; clear HB; have aA := n0_; have aC := n1_; have aD := n2_; have a3 := n3_; have aE := n4_; have HB := n5_; clear n0_ n1_ n2_ n3_ n4_ n5_; clear hb ho29) | ((with_reducible refine qAQ (b := .append) (xs := #[.tmp 59, .tmp 60]) rfl ?_); (try (refine qAE (by rfl) ?_; dsimp only)); at_builtin; refine Kd.R_append_rows (Kd.int .u8) (w0 := w) w.heap.size rfl (.tmp 59) (.tmp 60) 22 5 (.int .u8 0) 1 rfl Try.underlying22 info5 rfl (by decide) (by omega) bF aw l0 _ _ _ (fun _ => True) (fun _ => False) rfl rfl ?aO ?aR (fun _ _ h => h) (fun _ h => h.elim) ?aF ?aB ?aS ?aL ?_; (case aR => repeat ((exact (Kd.C_below bT.o HB.o)))); (case aB => exact (by repeat ((with_reducible (exact HB.o))))); (case aF => exact (fun _ _ => trivial)); (case aO => exact (by (with_reducible repeat (fail)); exact a3.o)); (case aS => exact (qAi (by repeat ((with_reducible (exact HB.o)))))); (case aL => have := bI.o; omega); intro bG fD ho hb hg bE; rw [← bL.o] at ho; have n0_ := am (Kd.R_over' (by (with_reducible repeat (fail)); exact aA.o) (Kd.R_typed (by (with_reducible repeat (fail)); exact a3.o)) (by decide) hg); have n1_ := am (Kd.S_over' (by (with_reducible repeat (fail)); exact aC.o) (Kd.R_typed (by (with_reducible repeat (fail)); exact a3.o)) (by decide) hg); have n2_ := am (Kd.R_over' (by (with_reducible repeat (fail)); exact aD.o) (Kd.R_typed (by (with_reducible repeat (fail)); exact a3.o)) (by decide) hg); have n3_ := am (qAP (g := aG) (o := .cells #[.string aJ, .slice aX aK.length aW, .slice aZ aM.length aY, .slice a6 aQ.length a5] 27 (0, 0)) (by (with_reducible repeat (fail)); exact aE.o) hg (Kd.R_ne a3.o aE.o (by decide))); have n4_ := am (hb); have n5_ := am (ho); clear aA; clear aC; clear aD; clear aE; clear HB; clear a3; have aA := n0_; have aC := n1_; have aD := n2_; have aE := n3_; have HB := n4_; have a4 := n5_; clear n0_ n1_ n2_ n3_ n4_ n5_; clear ho hb hg bE) | ((with_reducible refine qAQ (b := .append) (xs := #[.tmp 61, .tmp 63]) rfl ?_); (try (refine qAE (by rfl) ?_; dsimp only)); at_builtin; refine Kd.R_append (Kd.int .u8) (w0 := w) w.heap.size rfl (.tmp 61) (.tmp 63) 22 5 (.int .u8 0) 1 rfl Try.underlying22 info5 rfl (by decide) (by omega) bG ai a2 [.int .u8 a2] (fun _ => True) (fun _ => False) rfl rfl ?aP (fun _ hk => hk.elim) ?aF ?aO ?aB ?aS ?aL ?_; (case aP => exact rfl); (case aB => exact (by repeat ((with_reducible (exact HB.o))))); (case aF => exact (fun _ _ => trivial)); (case aO => exact (by (with_reducible repeat (fail)); exact a4.o)); (case aS => exact (qAi (by repeat ((with_reducible (exact HB.o)))))); (case aL => have := bJ.o; omega); intro bg fE ho hb hg bE; rw [← bM.o] at ho; have n0_ := am (Kd.R_over' (by (with_reducible repeat (fail)); exact aA.o) (Kd.R_typed (by (with_reducible repeat (fail)); exact a4.o)) (by decide) hg); have n1_ := am (Kd.S_over' (by (with_reducible repeat (fail)); exact aC.o) (Kd.R_typed (by (with_reducible repeat (fail)); exact a4.o)) (by decide) hg); have n2_ := am (Kd.R_over' (by (with_reducible repeat (fail)); exact aD.o) (Kd.R_typed (by (with_reducible repeat (fail)); exact a4.o)) (by decide) hg); have n3_ := am (qAP (g := aG) (o := .cells #[.string aJ, .slice aX aK.length aW, .slice aZ aM.length aY, .slice a6 aQ.length a5] 27 (0, 0)) (by (with_reducible repeat (fail)); exact aE.o) hg (Kd.R_ne a4.o aE.o (by decide))); have n4_ := am (hb); have n5_ := am (ho); clear aA; clear aC; clear aD; clear aE; clear HB; clear a4; have aA := n0_; have aC := n1_; have aD := n2_; have aE := n3_; have HB := n4_; have aN := n5_; clear n0_ n1_ n2_ n3_ n4_ n5_; clear ho hb hg bE; obtain ⟨da, df, dm⟩ := Kd.R_slice aN.o; subst dm) | ((with_reducible refine qAj (f := 7) rfl ?_); refine gL 65 Try.func7 #[.slice da bC.length df] ?_; (with_reducible refine (qAa.calls bN _ _ bC ab ac ad ae bB _ ?side1 ?side2 ca.o).mono ?_); (case side1 => repeat ((exact (Kd.R_reads' aN.o).2.2))); (case side2 => exact (Kd.R_reads' aN.o).2.1); rintro e fF ⟨bh, bi, bj, rfl, ah, an, ao, hb⟩; refine ⟨_, rfl, ?_⟩; have n0_ := am (Kd.R_elder' (by (with_reducible repeat (fail)); exact aA.o) (Kd.R_base ah) hb); have n1_ := am (Kd.S_elder' (by (with_reducible repeat (fail)); exact aC.o) (Kd.S_base an) hb); have n2_ := am (Kd.R_elder' (by (with_reducible repeat (fail)); exact aD.o) (Kd.R_base ao) hb); have n3_ := am (Kd.R_below (by (with_reducible repeat (fail)); exact aN.o) hb); have n4_ := am (Kd.R_lower (Kd.R_new' ah (Kd.R_lt (by (with_reducible repeat (fail)); exact aA.o))) (qAi (by repeat ((with_reducible (exact HB.o)))))); have n5_ := am (Kd.S_lower (Kd.S_new' an (Kd.S_lt (by (with_reducible repeat (fail)); exact aC.o))) (qAi (by repeat ((with_reducible (exact HB.o)))))); have n6_ := am (Kd.R_lower (Kd.R_new' ao (Kd.R_lt (by (with_reducible repeat (fail)); exact aD.o))) (qAi (by repeat ((with_reducible (exact HB.o)))))); have n7_ := am (qAz (g := aG) (o := .cells #[.string aJ, .slice aX aK.length aW, .slice aZ aM.length aY, .slice a6 aQ.length a5] 27 (0, 0)) (by (with_reducible repeat (fail)); exact aE.o) hb); have n8_ := am (qAo (by repeat ((with_reducible (exact HB.o)))) hb); clear aA; clear aC; clear aD; clear aN; clear aE; clear HB; have aA := n0_; have aC := n1_; have aD := n2_; have aN := n3_; have a7 := n4_; have a8 := n5_; have a9 := n6_; have aE := n7_; have HB := n8_; clear n0_ n1_ n2_ n3_ n4_ n5_ n6_ n7_ n8_; (skip); (skip); (skip)) | ((with_reducible refine qAC (N := 11) rfl ?_); (try (refine qAE (by rfl) ?_; dsimp only)); refine bx 11 #[.string ⟨#[]⟩, .slice none 0 0, .slice none 0 0, .slice none 0 0] 27 ?_; intro aH hg d4 hbox hb; have n0_ := am (Kd.R_below (by (with_reducible repeat (fail)); exact aA.o) hb); have n1_ := am (Kd.S_below (by (with_reducible repeat (fail)); exact aC.o) hb); have n2_ := am (Kd.R_below (by (with_reducible repeat (fail)); exact aD.o) hb); have n3_ := am (Kd.R_below (by (with_reducible repeat (fail)); exact aN.o) hb); have n4_ := am (Kd.R_below (by (with_reducible repeat (fail)); exact a7.o) hb); have n5_ := am (Kd.S_below (by (with_reducible repeat (fail)); exact a8.o) hb); have n6_ := am (Kd.R_below (by (with_reducible repeat (fail)); exact a9.o) hb); have n7_ := am (qAz (g := aG) (o := .cells #[.string aJ, .slice aX aK.length aW, .slice aZ aM.length aY, .slice a6 aQ.length a5] 27 (0, 0)) (by (with_reducible repeat (fail)); exact aE.o) hb); have n8_ := am (qAo (by repeat ((with_reducible (exact HB.o)))) hb); have n9_ := am (hbox); have n10_ := am ((by rw [hg]; exact (qAi (by repeat ((with_reducible (exact HB.o))))) : w.heap.size ≤ aH)); have n11_ := am ((by rw [hg]; exact (qAi (by repeat ((with_reducible (exact HB.o))))) : w.heap.size ≤ aH)); have n12_ := am ((by rw [hg]; exact Nat.ne_of_lt (qAO (g := aG) (o := .cells #[.string aJ, .slice aX aK.length aW, .slice aZ aM.length aY, .slice a6 aQ.length a5] 27 (0, 0)) (by (with_reducible repeat (fail)); exact aE.o)) : aG ≠ aH)); have n13_ := am ((by rw [hg]; exact Nat.ne_of_gt (qAO (g := aG) (o := .cells #[.string aJ, .slice aX aK.length aW, .slice aZ aM.length aY, .slice a6 aQ.length a5] 27 (0, 0)) (by (with_reducible repeat (fail)); exact aE.o)) : aH ≠ aG)); clear aA; clear aC; clear aD; clear aN; clear a7; clear a8; clear a9; clear aE; clear HB; have aA := n0_; have aC := n1_; have aD := n2_; have a7 := n4_; have a8 := n5_; have a9 := n6_; have HB := n8_; have aI := n9_; have af := n11_; clear n0_ n1_ n2_ n3_ n4_ n5_ n6_ n7_ n8_ n9_ n10_ n11_ n12_ n13_; clear hb hbox hg; have cf : d4.cell? ⟨aH, 0, none⟩ = some (.string ⟨#[]⟩) := (qAb aI.o 0).trans rfl; have cg : d4.cell? ⟨aH, 1, none⟩ = some (.slice none 0 0) := (qAb aI.o 1).trans rfl; have ch : d4.cell? ⟨aH, 2, none⟩ = some (.slice none 0 0) := (qAb aI.o 2).trans rfl; have ci : d4.cell? ⟨aH, 3, none⟩ = some (.slice none 0 0) := (qAb aI.o 3).trans rfl; have dE := qAc aI.o 0; have dF := qAc aI.o 1; have dG := qAc aI.o 2; have dH := qAc aI.o 3; obtain ⟨e5, eh, dn⟩ := Kd.R_slice a7.o; subst dn; obtain ⟨e6, ei, dp⟩ := Kd.S_slice a8.o; subst dp; obtain ⟨e7, ej, dq⟩ := Kd.R_slice a9.o; subst dq))
     go_ret
     exact ⟨by (rfl), by repeat ((with_reducible first | exact HB.o | refine qAq ?_ af.o))⟩
    rw [if_neg bl] at H
    have cF : (bB == 0) = false := bf bl
    have eT : (bB != 0) = true := bne_iff_ne.mpr bl
    by_cases bo : a1 < 0
    ·rw [if_pos bo] at H
     replace bo := d1 bo
     obtain rfl := Option.some.inj H
     go_wp2_with (first | ((with_reducible refine qAC (N := 59) rfl ?_); (try (refine qAE (by rfl) ?_; dsimp only)); refine Kd.R_lit (Kd.int .u8) _ 5 ?hg (N := 59) ?hd (xs := ([] : List Int)) (inner := []) (ok := fun _ => True) (okp := fun _ => True) ?hr ?hp (fun _ hk => hk) trivial (Below.refl _ _) (Nat.le_refl _) (by simp) ?_; (case hd => rfl); (case hg => rfl); (case hr => (go_simp; done)); (case hp => exact (Reps.none _ _)); intro bF fG ho42 hb hg_ hnew_; clear hg_ hnew_; ((rw [← bK.o] at ho42)); have n0_ := am (Kd.R_below (by (with_reducible repeat (fail)); exact aA.o) hb); have n1_ := am (Kd.S_below (by (with_reducible repeat (fail)); exact aC.o) hb); have n2_ := am (Kd.R_below (by (with_reducible repeat (fail)); exact aD.o) hb); have n3_ := am (Kd.R_lower ho42 (qAi (by repeat ((with_reducible (exact HB.o)))))); have n4_ := am (qAz (g := aG) (o := .cells #[.string aJ, .slice aX aK.length aW, .slice aZ aM.length aY, .slice a6 aQ.length a5] 27 (0, 0)) (by (with_reducible repeat (fail)); exact aE.o) hb); have n5_ := am (qAo (by repeat ((with_reducible (exact HB.o)))) hb); clear aA; clear aC; clear aD; clear aE; clear HB; have aA := n0_; have aC := n1_; have aD := n2_; have a3 := n3_; have aE := n4_; have HB := n5_; clear n0_ n1_ n2_ n3_ n4_ n5_; clear hb ho42) | ((with_reducible refine qAQ (b := .append) (xs := #[.tmp 59, .tmp 60]) rfl ?_); (try (refine qAE (by rfl) ?_; dsimp only)); at_builtin; refine Kd.R_append_rows (Kd.int .u8) (w0 := w) w.heap.size rfl (.tmp 59) (.tmp 60) 22 5 (.int .u8 0) 1 rfl Try.underlying22 info5 rfl (by decide) (by omega) bF aw l0 _ _ _ (fun _ => True) (fun _ => False) rfl rfl ?aO ?aR (fun _ _ h => h) (fun _ h => h.elim) ?aF ?aB ?aS ?aL ?_; (case aR => repeat ((exact (Kd.C_below bT.o HB.o)))); (case aB => exact (by repeat ((with_reducible (exact HB.o))))); (case aF => exact (fun _ _ => trivial)); (case aO => exact (by (with_reducible repeat (fail)); exact a3.o)); (case aS => exact (qAi (by repeat ((with_reducible (exact HB.o)))))); (case aL => have := bI.o; omega); intro bG fH ho hb hg bE; rw [← bL.o] at ho; have n0_ := am (Kd.R_over' (by (with_reducible repeat (fail)); exact aA.o) (Kd.R_typed (by (with_reducible repeat (fail)); exact a3.o)) (by decide) hg); have n1_ := am (Kd.S_over' (by (with_reducible repeat (fail)); exact aC.o) (Kd.R_typed (by (with_reducible repeat (fail)); exact a3.o)) (by decide) hg); have n2_ := am (Kd.R_over' (by (with_reducible repeat (fail)); exact aD.o) (Kd.R_typed (by (with_reducible repeat (fail)); exact a3.o)) (by decide) hg); have n3_ := am (qAP (g := aG) (o := .cells #[.string aJ, .slice aX aK.length aW, .slice aZ aM.length aY, .slice a6 aQ.length a5] 27 (0, 0)) (by (with_reducible repeat (fail)); exact aE.o) hg (Kd.R_ne a3.o aE.o (by decide))); have n4_ := am (hb); have n5_ := am (ho); clear aA; clear aC; clear aD; clear aE; clear HB; clear a3; have aA := n0_; have aC := n1_; have aD := n2_; have aE := n3_; have HB := n4_; have a4 := n5_; clear n0_ n1_ n2_ n3_ n4_ n5_; clear ho hb hg bE) | ((with_reducible refine qAQ (b := .append) (xs := #[.tmp 61, .tmp 63]) rfl ?_); (try (refine qAE (by rfl) ?_; dsimp only)); at_builtin; refine Kd.R_append (Kd.int .u8) (w0 := w) w.heap.size rfl (.tmp 61) (.tmp 63) 22 5 (.int .u8 0) 1 rfl Try.underlying22 info5 rfl (by decide) (by omega) bG ai a2 [.int .u8 a2] (fun _ => True) (fun _ => False) rfl rfl ?aP (fun _ hk => hk.elim) ?aF ?aO ?aB ?aS ?aL ?_; (case aP => exact rfl); (case aB => exact (by repeat ((with_reducible (exact HB.o))))); (case aF => exact (fun _ _ => trivial)); (case aO => exact (by (with_reducible repeat (fail)); exact a4.o)); (case aS => exact (qAi (by repeat ((with_reducible (exact HB.o)))))); (case aL => have := bJ.o; omega); intro bg fI ho hb hg bE; rw [← bM.o] at ho; have n0_ := am (Kd.R_over' (by (with_reducible repeat (fail)); exact aA.o) (Kd.R_typed (by (with_reducible repeat (fail)); exact a4.o)) (by decide) hg); have n1_ := am (Kd.S_over' (by (with_reducible repeat (fail)); exact aC.o) (Kd.R_typed (by (with_reducible repeat (fail)); exact a4.o)) (by decide) hg); have n2_ := am (Kd.R_over' (by (with_reducible repeat (fail)); exact aD.o) (Kd.R_typed (by (with_reducible repeat (fail)); exact a4.o)) (by decide) hg); have n3_ := am (qAP (g := aG) (o := .cells #[.string aJ, .slice aX aK.length aW, .slice aZ aM.length aY, .slice a6 aQ.length a5] 27 (0, 0)) (by (with_reducible repeat (fail)); exact aE.o) hg (Kd.R_ne a4.o aE.o (by decide))); have n4_ := am (hb); have n5_ := am (ho); clear aA; clear aC; clear aD; clear aE; clear HB; clear a4; have aA := n0_; have aC := n1_; have aD := n2_; have aE := n3_; have HB := n4_; have aN := n5_; clear n0_ n1_ n2_ n3_ n4_ n5_; clear ho hb hg bE; obtain ⟨db, dg, dr⟩ := Kd.R_slice aN.o; subst dr) | ((with_reducible refine qAj (f := 7) rfl ?_); refine gL 65 Try.func7 #[.slice db bC.length dg] ?_; (with_reducible refine (qAa.calls bN _ _ bC ab ac ad ae bB _ ?side1 ?side2 ca.o).mono ?_); (case side1 => repeat ((exact (Kd.R_reads' aN.o).2.2))); (case side2 => exact (Kd.R_reads' aN.o).2.1); rintro e fJ ⟨bh, bi, bj, rfl, ah, an, ao, hb⟩; refine ⟨_, rfl, ?_⟩; have n0_ := am (Kd.R_elder' (by (with_reducible repeat (fail)); exact aA.o) (Kd.R_base ah) hb); have n1_ := am (Kd.S_elder' (by (with_reducible repeat (fail)); exact aC.o) (Kd.S_base an) hb); have n2_ := am (Kd.R_elder' (by (with_reducible repeat (fail)); exact aD.o) (Kd.R_base ao) hb); have n3_ := am (Kd.R_below (by (with_reducible repeat (fail)); exact aN.o) hb); have n4_ := am (Kd.R_lower (Kd.R_new' ah (Kd.R_lt (by (with_reducible repeat (fail)); exact aA.o))) (qAi (by repeat ((with_reducible (exact HB.o)))))); have n5_ := am (Kd.S_lower (Kd.S_new' an (Kd.S_lt (by (with_reducible repeat (fail)); exact aC.o))) (qAi (by repeat ((with_reducible (exact HB.o)))))); have n6_ := am (Kd.R_lower (Kd.R_new' ao (Kd.R_lt (by (with_reducible repeat (fail)); exact aD.o))) (qAi (by repeat ((with_reducible (exact HB.o)))))); have n7_ := am (qAz (g := aG) (o := .cells #[.string aJ, .slice aX aK.length aW, .slice aZ aM.length aY, .slice a6 aQ.length a5] 27 (0, 0)) (by (with_reducible repeat (fail)); exact aE.o) hb); have n8_ := am (qAo (by repeat ((with_reducible (exact HB.o)))) hb); clear aA; clear aC; clear aD; clear aN; clear aE; clear HB; have aA := n0_; have aC := n1_; have aD := n2_; have aN := n3_; have a7 := n4_; have a8 := n5_; have a9 := n6_; have aE := n7_; have HB := n8_; clear n0_ n1_ n2_ n3_ n4_ n5_ n6_ n7_ n8_; (skip); (skip); (skip)) | ((with_reducible refine qAC (N := 11) rfl ?_); (try (refine qAE (by rfl) ?_; dsimp only)); refine bx 11 #[.string ⟨#[]⟩, .slice none 0 0, .slice none 0 0, .slice none 0 0] 27 ?_; intro aH hg d5 hbox hb; have n0_ := am (Kd.R_below (by (with_reducible repeat (fail)); exact aA.o) hb); have n1_ := am (Kd.S_below (by (with_reducible repeat (fail)); exact aC.o) hb); have n2_ := am (Kd.R_below (by (with_reducible repeat (fail)); exact aD.o) hb); have n3_ := am (Kd.R_below (by (with_reducible repeat (fail)); exact aN.o) hb); have n4_ := am (Kd.R_below (by (with_reducible repeat (fail)); exact a7.o) hb); have n5_ := am (Kd.S_below (by (with_reducible repeat (fail)); exact a8.o) hb); have n6_ := am (Kd.R_below (by (with_reducible repeat (fail)); exact a9.o) hb); have n7_ := am (qAz (g := aG) (o := .cells #[.string aJ, .slice aX aK.length aW, .slice aZ aM.length aY, .slice a6 aQ.length a5] 27 (0, 0)) (by (with_reducible repeat (fail)); exact aE.o) hb); have n8_ := am (qAo (by repeat ((with_reducible (exact HB.o)))) hb); have n9_ := am (hbox); have n10_ := am ((by rw [hg]; exact (qAi (by repeat ((with_reducible (exact HB.o))))) : w.heap.size ≤ aH)); have n11_ := am ((by rw [hg]; exact (qAi (by repeat ((with_reducible (exact HB.o))))) : w.heap.size ≤ aH)); have n12_ := am ((by rw [hg]; exact Nat.ne_of_lt (qAO (g := aG) (o := .cells #[.string aJ, .slice aX aK.length aW, .slice aZ aM.length aY, .slice a6 aQ.length a5] 27 (0, 0)) (by (with_reducible repeat (fail)); exact aE.o)) : aG ≠ aH)); have n13_ := am ((by rw [hg]; exact Nat.ne_of_gt (qAO (g := aG) (o := .cells #[.string aJ, .slice aX aK.length aW, .slice aZ aM.length aY, .slice a6 aQ.length a5] 27 (0, 0)) (by (with_reducible repeat (fail)); exact aE.o)) : aH ≠ aG)); clear aA; clear aC; clear aD; clear aN; clear a7; clear a8; clear a9; clear aE; clear HB; have aA := n0_; have aC := n1_; have aD := n2_; have a7 := n4_; have a8 := n5_; have a9 := n6_; have HB := n8_; have aI := n9_; have af := n11_; clear n0_ n1_ n2_ n3_ n4_ n5_ n6_ n7_ n8_ n9_ n10_ n11_ n12_ n13_; clear hb hbox hg; have cj : d5.cell? ⟨aH, 0, none⟩ = some (.string ⟨#[]⟩) := (qAb aI.o 0).trans rfl; have ck : d5.cell? ⟨aH, 1, none⟩ = some (.slice none 0 0) := (qAb aI.o 1).trans rfl; have cl : d5.cell? ⟨aH, 2, none⟩ = some (.slice none 0 0) := (qAb aI.o 2).trans rfl; have cm : d5.cell? ⟨aH, 3, none⟩ = some (.slice none 0 0) := (qAb aI.o 3).trans rfl; have dI := qAc aI.o 0; have dJ := qAc aI.o 1; have dK := qAc aI.o 2; have dL := qAc aI.o 3; obtain ⟨e8, ek, ds⟩ := Kd.R_slice a7.o; subst ds; obtain ⟨e9, el, dt⟩ := Kd.S_slice a8.o; subst dt; obtain ⟨ea, em, du⟩ := Kd.R_slice a9.o; subst du))
     go_ret
     exact ⟨by (rfl), by repeat ((with_reducible first | exact HB.o | refine qAq ?_ af.o))⟩
    rw [if_neg bo] at H
    replace bo := d0 bo
    by_cases bp : a1 ≥ (l0.length : Int)
    ·rw [if_pos bp] at H
     replace bp := d1 bp
     obtain rfl := Option.some.inj H
     go_wp2_with (first | ((with_reducible refine qAC (N := 59) rfl ?_); (try (refine qAE (by rfl) ?_; dsimp only)); refine Kd.R_lit (Kd.int .u8) _ 5 ?hg (N := 59) ?hd (xs := ([] : List Int)) (inner := []) (ok := fun _ => True) (okp := fun _ => True) ?hr ?hp (fun _ hk => hk) trivial (Below.refl _ _) (Nat.le_refl _) (by simp) ?_; (case hd => rfl); (case hg => rfl); (case hr => (go_simp; done)); (case hp => exact (Reps.none _ _)); intro bF fK ho55 hb hg_ hnew_; clear hg_ hnew_; ((rw [← bK.o] at ho55)); have n0_ := am (Kd.R_below (by (with_reducible repeat (fail)); exact aA.o) hb); have n1_ := am (Kd.S_below (by (with_reducible repeat (fail)); exact aC.o) hb); have n2_ := am (Kd.R_below (by (with_reducible repeat (fail)); exact aD.o) hb); have n3_ := am (Kd.R_lower ho55 (qAi (by repeat ((with_reducible (exact HB.o)))))); have n4_ := am (qAz (g := aG) (o := .cells #[.string aJ, .slice aX aK.length aW, .slice aZ aM.length aY, .slice a6 aQ.length a5] 27 (0, 0)) (by (with_reducible repeat (fail)); exact aE.o) hb); have n5_ := am (qAo (by repeat ((with_reducible (exact HB.o)))) hb); clear aA; clear aC; clear aD; clear aE; clear HB; have aA := n0_; have aC := n1_; have aD := n2_; have a3 := n3_; have aE := n4_; have HB := n5_; clear n0_ n1_ n2_ n3_ n4_ n5_; clear hb ho55) | ((with_reducible refine qAQ (b := .append) (xs := #[.tmp 59, .tmp 60]) rfl ?_); (try (refine qAE (by rfl) ?_; dsimp only)); at_builtin; refine Kd.R_append_rows (Kd.int .u8) (w0 := w) w.heap.size rfl (.tmp 59) (.tmp 60) 22 5 (.int .u8 0) 1 rfl Try.underlying22 info5 rfl (by decide) (by omega) bF aw l0 _ _ _ (fun _ => True) (fun _ => False) rfl rfl ?aO ?aR (fun _ _ h => h) (fun _ h => h.elim) ?aF ?aB ?aS ?aL ?_; (case aR => repeat ((exact (Kd.C_below bT.o HB.o)))); (case aB => exact (by repeat ((with_reducible (exact HB.o))))); (case aF => exact (fun _ _ => trivial)); (case aO => exact (by (with_reducible repeat (fail)); exact a3.o)); (case aS => exact (qAi (by repeat ((with_reducible (exact HB.o)))))); (case aL => have := bI.o; omega); intro bG fL ho hb hg bE; rw [← bL.o] at ho; have n0_ := am (Kd.R_over' (by (with_reducible repeat (fail)); exact aA.o) (Kd.R_typed (by (with_reducible repeat (fail)); exact a3.o)) (by decide) hg); have n1_ := am (Kd.S_over' (by (with_reducible repeat (fail)); exact aC.o) (Kd.R_typed (by (with_reducible repeat (fail)); exact a3.o)) (by decide) hg); have n2_ := am (Kd.R_over' (by (with_reducible repeat (fail)); exact aD.o) (Kd.R_typed (by (with_reducible repeat (fail)); exact a3.o)) (by decide) hg); have n3_ := am (qAP (g := aG) (o := .cells #[.string aJ, .slice aX aK.length aW, .slice aZ aM.length aY, .slice a6 aQ.length a5] 27 (0, 0)) (by (with_reducible repeat (fail)); exact aE.o) hg (Kd.R_ne a3.o aE.o (by decide))); have n4_ := am (hb); have n5_ := am (ho); clear aA; clear aC; clear aD; clear aE; clear HB; clear a3; have aA := n0_; have aC := n1_; have aD := n2_; have aE := n3_; have HB := n4_; have a4 := n5_; clear n0_ n1_ n2_ n3_ n4_ n5_; clear ho hb hg bE) | ((with_reducible refine qAQ (b := .append) (xs := #[.tmp 61, .tmp 63]) rfl ?_); (try (refine qAE (by rfl) ?_; dsimp only)); at_builtin; refine Kd.R_append (Kd.int .u8) (w0 := w) w.heap.size rfl (.tmp 61) (.tmp 63) 22 5 (.int .u8 0) 1 rfl Try.underlying22 info5 rfl (by decide) (by omega) bG ai a2 [.int .u8 a2] (fun _ => True) (fun _ => False) rfl rfl ?aP (fun _ hk => hk.elim) ?aF ?aO ?aB ?aS ?aL ?_; (case aP => exact rfl); (case aB => exact (by repeat ((with_reducible (exact HB.o))))); (case aF => exact (fun _ _ => trivial)); (case aO => exact (by (with_reducible repeat (fail)); exact a4.o)); (case aS => exact (qAi (by repeat ((with_reducible (exact HB.o)))))); (case aL => have := bJ.o; omega); intro bg fM ho hb hg bE; rw [← bM.o] at ho; have n0_ := am (Kd.R_over' (by (with_reducible repeat (fail)); exact aA.o) (Kd.R_typed (by (with_reducible repeat (fail)); exact a4.o)) (by decide) hg); have n1_ := am (Kd.S_over' (by (with_reducible repeat (fail)); exact aC.o) (Kd.R_typed (by (with_reducible repeat (fail)); exact a4.o)) (by decide) hg); have n2_ := am (Kd.R_over' (by (with_reducible repeat (fail)); exact aD.o) (Kd.R_typed (by (with_reducible repeat (fail)); exact a4.o)) (by decide) hg); have n3_ := am (qAP (g := aG) (o := .cells #[.string aJ, .slice aX aK.length aW, .slice aZ aM.length aY, .slice a6 aQ.length a5] 27 (0, 0)) (by (with_reducible repeat (fail)); exact aE.o) hg (Kd.R_ne a4.o aE.o (by decide))); have n4_ := am (hb); have n5_ := am (ho); clear aA; clear aC; clear aD; clear aE; clear HB; clear a4; have aA := n0_; have aC := n1_; have aD := n2_; have aE := n3_; have HB := n4_; have aN := n5_; clear n0_ n1_ n2_ n3_ n4_ n5_; clear ho hb hg bE; obtain ⟨dc, dh, dv⟩ := Kd.R_slice aN.o; subst dv) | ((with_reducible refine qAj (f := 7) rfl ?_); refine gL 65 Try.func7 #[.slice dc bC.length dh] ?_; (with_reducible refine (qAa.calls bN _ _ bC ab ac ad ae bB _ ?side1 ?side2 ca.o).mono ?_); (case side1 => repeat ((exact (Kd.R_reads' aN.o).2.2))); (case side2 => exact (Kd.R_reads' aN.o).2.1); rintro e fN ⟨bh, bi, bj, rfl, ah, an, ao, hb⟩; refine ⟨_, rfl, ?_⟩; have n0_ := am (Kd.R_elder' (by (with_reducible repeat (fail)); exact aA.o) (Kd.R_base ah) hb); have n1_ := am (Kd.S_elder' (by (with_reducible repeat (fail)); exact aC.o) (Kd.S_base an) hb); have n2_ := am (Kd.R_elder' (by (with_reducible repeat (fail)); exact aD.o) (Kd.R_base ao) hb); have n3_ := am (Kd.R_below (by (with_reducible repeat (fail)); exact aN.o) hb); have n4_ := am (Kd.R_lower (Kd.R_new' ah (Kd.R_lt (by (with_reducible repeat (fail)); exact aA.o))) (qAi (by repeat ((with_reducible (exact HB.o)))))); have n5_ := am (Kd.S_lower (Kd.S_new' an (Kd.S_lt (by (with_reducible repeat (fail)); exact aC.o))) (qAi (by repeat ((with_reducible (exact HB.o)))))); have n6_ := am (Kd.R_lower (Kd.R_new' ao (Kd.R_lt (by (with_reducible repeat (fail)); exact aD.o))) (qAi (by repeat ((with_reducible (exact HB.o)))))); have n7_ := am (qAz (g := aG) (o := .cells #[.string aJ, .slice aX aK.length aW, .slice aZ aM.length aY, .slice a6 aQ.length a5] 27 (0, 0)) (by (with_reducible repeat (fail)); exact aE.o) hb); have n8_ := am (qAo (by repeat ((with_reducible (exact HB.o)))) hb); clear aA; clear aC; clear aD; clear aN; clear aE; clear HB; have aA := n0_; have aC := n1_; have aD := n2_; have aN := n3_; have a7 := n4_; have a8 := n5_; have a9 := n6_; have aE := n7_; have HB := n8_; clear n0_ n1_ n2_ n3_ n4_ n5_ n6_ n7_ n8_; (skip); (skip); (skip)) | ((with_reducible refine qAC (N := 11) rfl ?_); (try (refine qAE (by rfl) ?_; dsimp only)); refine bx 11 #[.string ⟨#[]⟩, .slice none 0 0, .slice none 0 0, .slice none 0 0] 27 ?_; intro aH hg d6 hbox hb; have n0_ := am (Kd.R_below (by (with_reducible repeat (fail)); exact aA.o) hb); have n1_ := am (Kd.S_below (by (with_reducible repeat (fail)); exact aC.o) hb); have n2_ := am (Kd.R_below (by (with_reducible repeat (fail)); exact aD.o) hb); have n3_ := am (Kd.R_below (by (with_reducible repeat (fail)); exact aN.o) hb); have n4_ := am (Kd.R_below (by (with_reducible repeat (fail)); exact a7.o) hb); have n5_ := am (Kd.S_below (by (with_reducible repeat (fail)); exact a8.o) hb); have n6_ := am (Kd.R_below (by (with_reducible repeat (fail)); exact a9.o) hb); have n7_ := am (qAz (g := aG) (o := .cells #[.string aJ, .slice aX aK.length aW, .slice aZ aM.length aY, .slice a6 aQ.length a5] 27 (0, 0)) (by (with_reducible repeat (fail)); exact aE.o) hb); have n8_ := am (qAo (by repeat ((with_reducible (exact HB.o)))) hb); have n9_ := am (hbox); have n10_ := am ((by rw [hg]; exact (qAi (by repeat ((with_reducible (exact HB.o))))) : w.heap.size ≤ aH)); have n11_ := am ((by rw [hg]; exact (qAi (by repeat ((with_reducible (exact HB.o))))) : w.heap.size ≤ aH)); have n12_ := am ((by rw [hg]; exact Nat.ne_of_lt (qAO (g := aG) (o := .cells #[.string aJ, .slice aX aK.length aW, .slice aZ aM.length aY, .slice a6 aQ.length a5] 27 (0, 0)) (by (with_reducible repeat (fail)); exact aE.o)) : aG ≠ aH)); have n13_ := am ((by rw [hg]; exact Nat.ne_of_gt (qAO (g := aG) (o := .cells #[.string aJ, .slice aX aK.length aW, .slice aZ aM.length aY, .slice a6 aQ.length a5] 27 (0, 0)) (by (with_reducible repeat (fail)); exact aE.o)) : aH ≠ aG)); clear aA; clear aC; clear aD; clear aN; clear a7; clear a8; clear a9; clear aE; clear HB; have aA := n0_; have aC := n1_; have aD := n2_; have a7 := n4_; have a8 := n5_; have a9 := n6_; have HB := n8_; have aI := n9_; have af := n11_; clear n0_ n1_ n2_ n3_ n4_ n5_ n6_ n7_ n8_ n9_ n10_ n11_ n12_ n13_; clear hb hbox hg; have cn : d6.cell? ⟨aH, 0, none⟩ = some (.string ⟨#[]⟩) := (qAb aI.o 0).trans rfl; have co : d6.cell? ⟨aH, 1, none⟩ = some (.slice none 0 0) := (qAb aI.o 1).trans rfl; have cp : d6.cell? ⟨aH, 2, none⟩ = some (.slice none 0 0) := (qAb aI.o 2).trans rfl; have cq : d6.cell? ⟨aH, 3, none⟩ = some (.slice none 0 0) := (qAb aI.o 3).trans rfl; have dM := qAc aI.o 0; have dN := qAc aI.o 1; have dO := qAc aI.o 2; have dP := qAc aI.o 3; obtain ⟨eb, en, dw⟩ := Kd.R_slice a7.o; subst dw; obtain ⟨ec, eo, dx⟩ := Kd.S_slice a8.o; subst dx; obtain ⟨ed, ep, dy⟩ := Kd.R_slice a9.o; subst dy))
     go_ret
     exact ⟨by (rfl), by repeat ((with_reducible first | exact HB.o | refine qAq ?_ af.o))⟩
    rw [if_neg bp] at H
    replace bp := d0 bp
    obtain ⟨cK, H⟩ := gd H
    have eU := eq_true cK
    replace cK := d1 cK
    obtain ⟨cL, H⟩ := gd H
    have eW := eq_true cL
    replace cL := d1 cL
    replace H := bm H
    obtain ⟨⟨eJ, eK, eL, eM, c1⟩, bu, H⟩ := H
    replace H : (some (c1 == 52)) = some r := H
    have e3 := am bu
    clear bu
    obtain rfl := Option.some.inj H
    go_wp2_with (first | ((with_reducible refine qAC (N := 59) rfl ?_); (try (refine qAE (by rfl) ?_; dsimp only)); refine Kd.R_lit (Kd.int .u8) _ 5 ?hg (N := 59) ?hd (xs := ([] : List Int)) (inner := []) (ok := fun _ => True) (okp := fun _ => True) ?hr ?hp (fun _ hk => hk) trivial (Below.refl _ _) (Nat.le_refl _) (by simp) ?_; (case hd => rfl); (case hg => rfl); (case hr => (go_simp; done)); (case hp => exact (Reps.none _ _)); intro bF fO ho70 hb hg_ hnew_; clear hg_ hnew_; ((rw [← bK.o] at ho70)); have n0_ := am (Kd.R_below (by (with_reducible repeat (fail)); exact aA.o) hb); have n1_ := am (Kd.S_below (by (with_reducible repeat (fail)); exact aC.o) hb); have n2_ := am (Kd.R_below (by (with_reducible repeat (fail)); exact aD.o) hb); have n3_ := am (Kd.R_lower ho70 (qAi (by repeat ((with_reducible (exact HB.o)))))); have n4_ := am (qAz (g := aG) (o := .cells #[.string aJ, .slice aX aK.length aW, .slice aZ aM.length aY, .slice a6 aQ.length a5] 27 (0, 0)) (by (with_reducible repeat (fail)); exact aE.o) hb); have n5_ := am (qAo (by repeat ((with_reducible (exact HB.o)))) hb); clear aA; clear aC; clear aD; clear aE; clear HB; have aA := n0_; have aC := n1_; have aD := n2_; have a3 := n3_; have aE := n4_; have HB := n5_; clear n0_ n1_ n2_ n3_ n4_ n5_; clear hb ho70) | ((with_reducible refine qAQ (b := .append) (xs := #[.tmp 59, .tmp 60]) rfl ?_); (try (refine qAE (by rfl) ?_; dsimp only)); at_builtin; refine Kd.R_append_rows (Kd.int .u8) (w0 := w) w.heap.size rfl (.tmp 59) (.tmp 60) 22 5 (.int .u8 0) 1 rfl Try.underlying22 info5 rfl (by decide) (by omega) bF aw l0 _ _ _ (fun _ => True) (fun _ => False) rfl rfl ?aO ?aR (fun _ _ h => h) (fun _ h => h.elim) ?aF ?aB ?aS ?aL ?_; (case aR => repeat ((exact (Kd.C_below bT.o HB.o)))); (case aB => exact (by repeat ((with_reducible (exact HB.o))))); (case aF => exact (fun _ _ => trivial)); (case aO => exact (by (with_reducible repeat (fail)); exact a3.o)); (case aS => exact (qAi (by repeat ((with_reducible (exact HB.o)))))); (case aL => have := bI.o; omega); intro bG fP ho hb hg bE; rw [← bL.o] at ho; have n0_ := am (Kd.R_over' (by (with_reducible repeat (fail)); exact aA.o) (Kd.R_typed (by (with_reducible repeat (fail)); exact a3.o)) (by decide) hg); have n1_ := am (Kd.S_over' (by (with_reducible repeat (fail)); exact aC.o) (Kd.R_typed (by (with_reducible repeat (fail)); exact a3.o)) (by decide) hg); have n2_ := am (Kd.R_over' (by (with_reducible repeat (fail)); exact aD.o) (Kd.R_typed (by (with_reducible repeat (fail)); exact a3.o)) (by decide) hg); have n3_ := am (qAP (g := aG) (o := .cells #[.string aJ, .slice aX aK.length aW, .slice aZ aM.length aY, .slice a6 aQ.length a5] 27 (0, 0)) (by (with_reducible repeat (fail)); exact aE.o) hg (Kd.R_ne a3.o aE.o (by decide))); have n4_ := am (hb); have n5_ := am (ho); clear aA; clear aC; clear aD; clear aE; clear HB; clear a3; have aA := n0_; have aC := n1_; have aD := n2_; have aE := n3_; have HB := n4_; have a4 := n5_; clear n0_ n1_ n2_ n3_ n4_ n5_; clear ho hb hg bE) | ((with_reducible refine qAQ (b := .append) (xs := #[.tmp 61, .tmp 63]) rfl ?_); (try (refine qAE (by rfl) ?_; dsimp only)); at_builtin; refine Kd.R_append (Kd.int .u8) (w0 := w) w.heap.size rfl (.tmp 61) (.tmp 63) 22 5 (.int .u8 0) 1 rfl Try.underlying22 info5 rfl (by decide) (by omega) bG ai a2 [.int .u8 a2] (fun _ => True) (fun _ => False) rfl rfl ?aP (fun _ hk => hk.elim) ?aF ?aO ?aB ?aS ?aL ?_; (case aP => exact rfl); (case aB => exact (by repeat ((with_reducible (exact HB.o))))); (case aF => exact (fun _ _ => trivial)); (case aO => exact (by (with_reducible repeat (fail)); exact a4.o)); (case aS => exact (qAi (by repeat ((with_reducible (exact HB.o)))))); (case aL => have := bJ.o; omega); intro bg fQ ho hb hg bE; rw [← bM.o] at ho; have n0_ := am (Kd.R_over' (by (with_reducible repeat (fail)); exact aA.o) (Kd.R_typed (by (with_reducible repeat (fail)); exact a4.o)) (by decide) hg); have n1_ := am (Kd.S_over' (by (with_reducible repeat (fail)); exact aC.o) (Kd.R_typed (by (with_reducible repeat (fail)); exact a4.o)) (by decide) hg); have n2_ := am (Kd.R_over' (by (with_reducible repeat (fail)); exact aD.o) (Kd.R_typed (by (with_reducible repeat (fail)); exact a4.o)) (by decide) hg); have n3_ := am (qAP (g := aG) (o := .cells #[.string aJ, .slice aX aK.length aW, .slice aZ aM.length aY, .slice a6 aQ.length a5] 27 (0, 0)) (by (with_reducible repeat (fail)); exact aE.o) hg (Kd.R_ne a4.o aE.o (by decide))); have n4_ := am (hb); have n5_ := am (ho); clear aA; clear aC; clear aD; clear aE; clear HB; clear a4; have aA := n0_; have aC := n1_; have aD := n2_; have aE := n3_; have HB := n4_; have aN := n5_; clear n0_ n1_ n2_ n3_ n4_ n5_; clear ho hb hg bE; obtain ⟨dd, di, dz⟩ := Kd.R_slice aN.o; subst dz) | ((with_reducible refine qAj (f := 7) rfl ?_); refine gL 65 Try.func7 #[.slice dd bC.length di] ?_; (with_reducible refine (qAa.calls bN _ _ bC ab ac ad ae bB _ ?side1 ?side2 ca.o).mono ?_); (case side1 => repeat ((exact (Kd.R_reads' aN.o).2.2))); (case side2 => exact (Kd.R_reads' aN.o).2.1); rintro e fR ⟨bh, bi, bj, rfl, ah, an, ao, hb⟩; refine ⟨_, rfl, ?_⟩; have n0_ := am (Kd.R_elder' (by (with_reducible repeat (fail)); exact aA.o) (Kd.R_base ah) hb); have n1_ := am (Kd.S_elder' (by (with_reducible repeat (fail)); exact aC.o) (Kd.S_base an) hb); have n2_ := am (Kd.R_elder' (by (with_reducible repeat (fail)); exact aD.o) (Kd.R_base ao) hb); have n3_ := am (Kd.R_below (by (with_reducible repeat (fail)); exact aN.o) hb); have n4_ := am (Kd.R_lower (Kd.R_new' ah (Kd.R_lt (by (with_reducible repeat (fail)); exact aA.o))) (qAi (by repeat ((with_reducible (exact HB.o)))))); have n5_ := am (Kd.S_lower (Kd.S_new' an (Kd.S_lt (by (with_reducible repeat (fail)); exact aC.o))) (qAi (by repeat ((with_reducible (exact HB.o)))))); have n6_ := am (Kd.R_lower (Kd.R_new' ao (Kd.R_lt (by (with_reducible repeat (fail)); exact aD.o))) (qAi (by repeat ((with_reducible (exact HB.o)))))); have n7_ := am (qAz (g := aG) (o := .cells #[.string aJ, .slice aX aK.length aW, .slice aZ aM.length aY, .slice a6 aQ.length a5] 27 (0, 0)) (by (with_reducible repeat (fail)); exact aE.o) hb); have n8_ := am (qAo (by repeat ((with_reducible (exact HB.o)))) hb); clear aA; clear aC; clear aD; clear aN; clear aE; clear HB; have aA := n0_; have aC := n1_; have aD := n2_; have aN := n3_; have a7 := n4_; have a8 := n5_; have a9 := n6_; have aE := n7_; have HB := n8_; clear n0_ n1_ n2_ n3_ n4_ n5_ n6_ n7_ n8_; (skip); (skip); (skip)) | ((with_reducible refine qAC (N := 11) rfl ?_); (try (refine qAE (by rfl) ?_; dsimp only)); refine bx 11 #[.string ⟨#[]⟩, .slice none 0 0, .slice none 0 0, .slice none 0 0] 27 ?_; intro aH hg d7 hbox hb; have n0_ := am (Kd.R_below (by (with_reducible repeat (fail)); exact aA.o) hb); have n1_ := am (Kd.S_below (by (with_reducible repeat (fail)); exact aC.o) hb); have n2_ := am (Kd.R_below (by (with_reducible repeat (fail)); exact aD.o) hb); have n3_ := am (Kd.R_below (by (with_reducible repeat (fail)); exact aN.o) hb); have n4_ := am (Kd.R_below (by (with_reducible repeat (fail)); exact a7.o) hb); have n5_ := am (Kd.S_below (by (with_reducible repeat (fail)); exact a8.o) hb); have n6_ := am (Kd.R_below (by (with_reducible repeat (fail)); exact a9.o) hb); have n7_ := am (qAz (g := aG) (o := .cells #[.string aJ, .slice aX aK.length aW, .slice aZ aM.length aY, .slice a6 aQ.length a5] 27 (0, 0)) (by (with_reducible repeat (fail)); exact aE.o) hb); have n8_ := am (qAo (by repeat ((with_reducible (exact HB.o)))) hb); have n9_ := am (hbox); have n10_ := am ((by rw [hg]; exact (qAi (by repeat ((with_reducible (exact HB.o))))) : w.heap.size ≤ aH)); have n11_ := am ((by rw [hg]; exact (qAi (by repeat ((with_reducible (exact HB.o))))) : w.heap.size ≤ aH)); have n12_ := am ((by rw [hg]; exact Nat.ne_of_lt (qAO (g := aG) (o := .cells #[.string aJ, .slice aX aK.length aW, .slice aZ aM.length aY, .slice a6 aQ.length a5] 27 (0, 0)) (by (with_reducible repeat (fail)); exact aE.o)) : aG ≠ aH)); have n13_ := am ((by rw [hg]; exact Nat.ne_of_gt (qAO (g := aG) (o := .cells #[.string aJ, .slice aX aK.length aW, .slice aZ aM.length aY, .slice a6 aQ.length a5] 27 (0, 0)) (by (with_reducible repeat (fail)); exact aE.o)) : aH ≠ aG)); clear aA; clear aC; clear aD; clear aN; clear a7; clear a8; clear a9; clear aE; clear HB; have aA := n0_; have aC := n1_; have aD := n2_; have aN := n3_; have a7 := n4_; have a8 := n5_; have a9 := n6_; have aE := n7_; have HB := n8_; have aI := n9_; have af := n11_; have aj := n12_; clear n0_ n1_ n2_ n3_ n4_ n5_ n6_ n7_ n8_ n9_ n10_ n11_ n12_ n13_; clear hb hbox hg; have cr : d7.cell? ⟨aH, 0, none⟩ = some (.string ⟨#[]⟩) := (qAb aI.o 0).trans rfl; have ct : d7.cell? ⟨aH, 1, none⟩ = some (.slice none 0 0) := (qAb aI.o 1).trans rfl; have cu : d7.cell? ⟨aH, 2, none⟩ = some (.slice none 0 0) := (qAb aI.o 2).trans rfl; have cv : d7.cell? ⟨aH, 3, none⟩ = some (.slice none 0 0) := (qAb aI.o 3).trans rfl; have dQ := qAc aI.o 0; have dR := qAc aI.o 1; have dS := qAc aI.o 2; have dT := qAc aI.o 3; obtain ⟨ak, al, eA⟩ := Kd.R_slice a7.o; subst eA; obtain ⟨ap, aq, eB⟩ := Kd.S_slice a8.o; subst eB; obtain ⟨ar, av, eC⟩ := Kd.R_slice a9.o; subst eC; obtain ⟨i081, ba, _, hsz81, _⟩ := info_parts info5; obtain ⟨hcut81, hA81, hC81⟩ := print_take_of (P := Try.prog) (Value.int .u8) 0 22 5 .i64 Try.underlying22 ba hsz81 A0 c0 l0 a1 (of_decide_eq_true (by (with_reducible assumption))) (of_decide_eq_true (by (with_reducible assumption))) bz.o; have cB := am (Kd.C_of_reads (h1 := fun _ => rfl) (hA81 _ (Kd.reads_of_C bT.o))); have cA := am hC81; clear hA81 hC81 ba hsz81) | ((with_reducible refine qAj (f := 7) rfl ?_); refine goesL_ (some 82) rfl rfl Try.func7 (by kernel_rfl) rfl #[.slice A0 (l0.take (a1 : Int).toNat).length c0] rfl (by (try simp only [List.map_toArray, List.map_cons, List.map_nil]); (rw [show (l0.take (a1 : Int).toNat).length = a1.toNat from (by rw [List.length_take]; have h_ : (a1 : Int) ≤ (l0.length : Int) := of_decide_eq_true (by (with_reducible assumption)); omega)] <;> rfl)) ?_; (with_reducible refine (qAa.calls bN _ _ (l0.take (a1 : Int).toNat) eJ eK eL eM c1 _ ?side1 ?side2 e3.o).mono ?_); (case side1 => exact Kd.C_below cB.o (by repeat ((with_reducible first | exact HB.o | refine qAq ?_ af.o)))); (case side2 => exact cA.o); rintro e fS ⟨eu, ev, ew, rfl, ah, an, ao, hb⟩; refine ⟨_, rfl, ?_⟩; have n0_ := am (Kd.R_elder' (by (with_reducible repeat (fail)); exact (Kd.R_mono (Kd.R_far (p := ⟨aH, 3, none⟩) (Kd.R_far (p := ⟨aH, 2, none⟩) (Kd.R_far (p := ⟨aH, 1, none⟩) (Kd.R_far (p := ⟨aH, 0, none⟩) (Kd.R_types aA.o aI.o (by decide)) (fun _ hk => hk.2) (.string ab)) (fun _ hk => hk.2) (.slice ak ac.length al)) (fun _ hk => hk.2) (.slice ap ad.length aq)) (fun _ hk => hk.2) (.slice ar ae.length av)) (fun _ h_ => h_.1))) (Kd.R_base ah) hb); have n1_ := am (Kd.S_elder' (by (with_reducible repeat (fail)); exact (Kd.S_mono (Kd.S_far (p := ⟨aH, 3, none⟩) (Kd.S_far (p := ⟨aH, 2, none⟩) (Kd.S_far (p := ⟨aH, 1, none⟩) (Kd.S_far (p := ⟨aH, 0, none⟩) (Kd.S_types aC.o aI.o (by decide)) (fun _ hk => hk.2) (.string ab)) (fun _ hk => hk.2) (.slice ak ac.length al)) (fun _ hk => hk.2) (.slice ap ad.length aq)) (fun _ hk => hk.2) (.slice ar ae.length av)) (fun _ h_ => h_.1))) (Kd.S_base an) hb); have n2_ := am (Kd.R_elder' (by (with_reducible repeat (fail)); exact (Kd.R_mono (Kd.R_far (p := ⟨aH, 3, none⟩) (Kd.R_far (p := ⟨aH, 2, none⟩) (Kd.R_far (p := ⟨aH, 1, none⟩) (Kd.R_far (p := ⟨aH, 0, none⟩) (Kd.R_types aD.o aI.o (by decide)) (fun _ hk => hk.2) (.string ab)) (fun _ hk => hk.2) (.slice ak ac.length al)) (fun _ hk => hk.2) (.slice ap ad.length aq)) (fun _ hk => hk.2) (.slice ar ae.length av)) (fun _ h_ => h_.1))) (Kd.R_base ao) hb); have n3_ := am (Kd.R_below (by (with_reducible repeat (fail)); exact (Kd.R_mono (Kd.R_far (p := ⟨aH, 3, none⟩) (Kd.R_far (p := ⟨aH, 2, none⟩) (Kd.R_far (p := ⟨aH, 1, none⟩) (Kd.R_far (p := ⟨aH, 0, none⟩) (Kd.R_types aN.o aI.o (by decide)) (fun _ hk => hk.2) (.string ab)) (fun _ hk => hk.2) (.slice ak ac.length al)) (fun _ hk => hk.2) (.slice ap ad.length aq)) (fun _ hk => hk.2) (.slice ar ae.length av)) (fun _ h_ => h_.1))) hb); have n4_ := am (Kd.R_elder' (by (with_reducible repeat (fail)); exact (Kd.R_mono (Kd.R_far (p := ⟨aH, 3, none⟩) (Kd.R_far (p := ⟨aH, 2, none⟩) (Kd.R_far (p := ⟨aH, 1, none⟩) (Kd.R_far (p := ⟨aH, 0, none⟩) (Kd.R_types a7.o aI.o (by decide)) (fun _ hk => hk.2) (.string ab)) (fun _ hk => hk.2) (.slice ak ac.length al)) (fun _ hk => hk.2) (.slice ap ad.length aq)) (fun _ hk => hk.2) (.slice ar ae.length av)) (fun _ h_ => h_.1))) (Kd.R_base ah) hb); have n5_ := am (Kd.S_elder' (by (with_reducible repeat (fail)); exact (Kd.S_mono (Kd.S_far (p := ⟨aH, 3, none⟩) (Kd.S_far (p := ⟨aH, 2, none⟩) (Kd.S_far (p := ⟨aH, 1, none⟩) (Kd.S_far (p := ⟨aH, 0, none⟩) (Kd.S_types a8.o aI.o (by decide)) (fun _ hk => hk.2) (.string ab)) (fun _ hk => hk.2) (.slice ak ac.length al)) (fun _ hk => hk.2) (.slice ap ad.length aq)) (fun _ hk => hk.2) (.slice ar ae.length av)) (fun _ h_ => h_.1))) (Kd.S_base an) hb); have n6_ := am (Kd.R_elder' (by (with_reducible repeat (fail)); exact (Kd.R_mono (Kd.R_far (p := ⟨aH, 3, none⟩) (Kd.R_far (p := ⟨aH, 2, none⟩) (Kd.R_far (p := ⟨aH, 1, none⟩) (Kd.R_far (p := ⟨aH, 0, none⟩) (Kd.R_types a9.o aI.o (by decide)) (fun _ hk => hk.2) (.string ab)) (fun _ hk => hk.2) (.slice ak ac.length al)) (fun _ hk => hk.2) (.slice ap ad.length aq)) (fun _ hk => hk.2) (.slice ar ae.length av)) (fun _ h_ => h_.1))) (Kd.R_base ao) hb); have n7_ := am (Kd.R_lower (Kd.R_new' (Kd.R_new' ah (Kd.R_lt (by (with_reducible repeat (fail)); exact (Kd.R_mono (Kd.R_far (p := ⟨aH, 3, none⟩) (Kd.R_far (p := ⟨aH, 2, none⟩) (Kd.R_far (p := ⟨aH, 1, none⟩) (Kd.R_far (p := ⟨aH, 0, none⟩) (Kd.R_types aA.o aI.o (by decide)) (fun _ hk => hk.2) (.string ab)) (fun _ hk => hk.2) (.slice ak ac.length al)) (fun _ hk => hk.2) (.slice ap ad.length aq)) (fun _ hk => hk.2) (.slice ar ae.length av)) (fun _ h_ => h_.1))))) (Kd.R_lt (by (with_reducible repeat (fail)); exact (Kd.R_mono (Kd.R_far (p := ⟨aH, 3, none⟩) (Kd.R_far (p := ⟨aH, 2, none⟩) (Kd.R_far (p := ⟨aH, 1, none⟩) (Kd.R_far (p := ⟨aH, 0, none⟩) (Kd.R_types a7.o aI.o (by decide)) (fun _ hk => hk.2) (.string ab)) (fun _ hk => hk.2) (.slice ak ac.length al)) (fun _ hk => hk.2) (.slice ap ad.length aq)) (fun _ hk => hk.2) (.slice ar ae.length av)) (fun _ h_ => h_.1))))) (qAi (by repeat ((with_reducible first | exact HB.o | refine qAq ?_ af.o))))); have n8_ := am (Kd.S_lower (Kd.S_new' (Kd.S_new' an (Kd.S_lt (by (with_reducible repeat (fail)); exact (Kd.S_mono (Kd.S_far (p := ⟨aH, 3, none⟩) (Kd.S_far (p := ⟨aH, 2, none⟩) (Kd.S_far (p := ⟨aH, 1, none⟩) (Kd.S_far (p := ⟨aH, 0, none⟩) (Kd.S_types aC.o aI.o (by decide)) (fun _ hk => hk.2) (.string ab)) (fun _ hk => hk.2) (.slice ak ac.length al)) (fun _ hk => hk.2) (.slice ap ad.length aq)) (fun _ hk => hk.2) (.slice ar ae.length av)) (fun _ h_ => h_.1))))) (Kd.S_lt (by (with_reducible repeat (fail)); exact (Kd.S_mono (Kd.S_far (p := ⟨aH, 3, none⟩) (Kd.S_far (p := ⟨aH, 2, none⟩) (Kd.S_far (p := ⟨aH, 1, none⟩) (Kd.S_far (p := ⟨aH, 0, none⟩) (Kd.S_types a8.o aI.o (by decide)) (fun _ hk => hk.2) (.string ab)) (fun _ hk => hk.2) (.slice ak ac.length al)) (fun _ hk => hk.2) (.slice ap ad.length aq)) (fun _ hk => hk.2) (.slice ar ae.length av)) (fun _ h_ => h_.1))))) (qAi (by repeat ((with_reducible first | exact HB.o | refine qAq ?_ af.o))))); have n9_ := am (Kd.R_lower (Kd.R_new' (Kd.R_new' ao (Kd.R_lt (by (with_reducible repeat (fail)); exact (Kd.R_mono (Kd.R_far (p := ⟨aH, 3, none⟩) (Kd.R_far (p := ⟨aH, 2, none⟩) (Kd.R_far (p := ⟨aH, 1, none⟩) (Kd.R_far (p := ⟨aH, 0, none⟩) (Kd.R_types aD.o aI.o (by decide)) (fun _ hk => hk.2) (.string ab)) (fun _ hk => hk.2) (.slice ak ac.length al)) (fun _ hk => hk.2) (.slice ap ad.length aq)) (fun _ hk => hk.2) (.slice ar ae.length av)) (fun _ h_ => h_.1))))) (Kd.R_lt (by (with_reducible repeat (fail)); exact (Kd.R_mono (Kd.R_far (p := ⟨aH, 3, none⟩) (Kd.R_far (p := ⟨aH, 2, none⟩) (Kd.R_far (p := ⟨aH, 1, none⟩) (Kd.R_far (p := ⟨aH, 0, none⟩) (Kd.R_types a9.o aI.o (by decide)) (fun _ hk => hk.2) (.string ab)) (fun _ hk => hk.2) (.slice ak ac.length al)) (fun _ hk => hk.2) (.slice ap ad.length aq)) (fun _ hk => hk.2) (.slice ar ae.length av)) (fun _ h_ => h_.1))))) (qAi (by repeat ((with_reducible first | exact HB.o | refine qAq ?_ af.o))))); have n10_ := am (qAz (g := aG) (o := .cells #[.string aJ, .slice aX aK.length aW, .slice aZ aM.length aY, .slice a6 aQ.length a5] 27 (0, 0)) (by (with_reducible repeat (fail)); refine qA4 ?_ aj.o _; (with_reducible repeat (fail)); refine qA4 ?_ aj.o _; (with_reducible repeat (fail)); refine qA4 ?_ aj.o _; (with_reducible repeat (fail)); refine qA4 ?_ aj.o _; (with_reducible repeat (fail)); exact aE.o) hb); have n11_ := am (qAz (g := aH) (o := .cells #[.string ab, .slice ak ac.length al, .slice ap ad.length aq, .slice ar ae.length av] 27 (0, 0)) (by (with_reducible repeat (fail)); refine qAt (cs := #[.string ab, .slice ak ac.length al, .slice ap ad.length aq, .slice none 0 0]) ?_ 3 _ rfl; (with_reducible repeat (fail)); refine qAt (cs := #[.string ab, .slice ak ac.length al, .slice none 0 0, .slice none 0 0]) ?_ 2 _ rfl; (with_reducible repeat (fail)); refine qAt (cs := #[.string ab, .slice none 0 0, .slice none 0 0, .slice none 0 0]) ?_ 1 _ rfl; (with_reducible repeat (fail)); refine qAt (cs := #[.string ⟨#[]⟩, .slice none 0 0, .slice none 0 0, .slice none 0 0]) ?_ 0 _ rfl; (with_reducible repeat (fail)); exact aI.o) hb); have n12_ := am (qAo (by repeat ((with_reducible first | exact HB.o | refine qAq ?_ af.o))) hb); clear aA; clear aC; clear aD; clear aN; clear a7; clear a8; clear a9; clear aE; clear aI; clear HB; have HB := n12_; clear n0_ n1_ n2_ n3_ n4_ n5_ n6_ n7_ n8_ n9_ n10_ n11_ n12_; (skip); (skip); (skip)))
    go_ret
    exact ⟨by (rfl), by repeat ((with_reducible (exact HB.o)))⟩
 ·rw [if_neg c5] at H
  have cI : (bA == 0) = false := bf c5
  have cJ : (bA != 0) = true := bne_iff_ne.mpr c5
  by_cases bq : aJ.toList = ([] : List UInt8)
  ·rw [if_pos bq] at H
   have cM : (aJ.toList == ([] : List UInt8)) = true := beq_iff_eq.mpr bq
   have eY : (aJ.toList != ([] : List UInt8)) = false := bn bq
   clear bq
   by_cases cN : (wrap64 ((wrap64 ((aK.length : Int) + (aM.length : Int))) + (aQ.length : Int))) = 0
   ·rw [if_pos cN] at H
    have cO : ((wrap64 ((wrap64 ((aK.length : Int) + (aM.length : Int))) + (aQ.length : Int))) == 0) = true := beq_iff_eq.mpr cN
    clear cN
    replace H := bm H
    obtain ⟨bD, bw, H⟩ := H
    replace H : (some bD) = some r := H
    have e4 := am bw
    clear bw
    obtain rfl := Option.some.inj H
    go_enter Try.func3, Try.ntmps3
    go_wp2_with (first | ((with_reducible refine qAj (f := 7) rfl ?_); refine gL 15 Try.func7 #[.slice A0 l0.length c0] ?_; (with_reducible refine (qAa.calls k _ _ l0 aJ aK aM aQ bA _ ?side1 ?side2 A4.o).mono ?_); (case side1 => repeat ((exact bT.o))); (case side2 => exact bz.o); rintro e fT ⟨bb, bc, bd, rfl, ah, an, ao, hb⟩; refine ⟨_, rfl, ?_⟩; have n0_ := am (Kd.R_lower ah (qAi (by repeat ((with_reducible (exact HB.o)))))); have n1_ := am (Kd.S_lower an (qAi (by repeat ((with_reducible (exact HB.o)))))); have n2_ := am (Kd.R_lower ao (qAi (by repeat ((with_reducible (exact HB.o)))))); have n3_ := am (qAo (by repeat ((with_reducible (exact HB.o)))) hb); clear HB; have aT := n0_; have aU := n1_; have aV := n2_; have HB := n3_; clear n0_ n1_ n2_ n3_; (skip); (skip); (skip)) | ((with_reducible refine qAC (N := 7) rfl ?_); (try (refine qAE (by rfl) ?_; dsimp only)); refine bx 7 #[.string ⟨#[]⟩, .slice none 0 0, .slice none 0 0, .slice none 0 0] 27 ?_; intro aG hg d8 hbox hb; have n0_ := am (Kd.R_below (by (with_reducible repeat (fail)); exact aT.o) hb); have n1_ := am (Kd.S_below (by (with_reducible repeat (fail)); exact aU.o) hb); have n2_ := am (Kd.R_below (by (with_reducible repeat (fail)); exact aV.o) hb); have n3_ := am (qAo (by repeat ((with_reducible (exact HB.o)))) hb); have n4_ := am (hbox); have n5_ := am ((by rw [hg]; exact (qAi (by repeat ((with_reducible (exact HB.o))))) : w.heap.size ≤ aG)); have n6_ := am ((by rw [hg]; exact (qAi (by repeat ((with_reducible (exact HB.o))))) : w.heap.size ≤ aG)); clear aT; clear aU; clear aV; clear HB; have aT := n0_; have aU := n1_; have aV := n2_; have HB := n3_; have aE := n4_; have ax := n6_; clear n0_ n1_ n2_ n3_ n4_ n5_ n6_; clear hb hbox hg; have cw : d8.cell? ⟨aG, 0, none⟩ = some (.string ⟨#[]⟩) := (qAb aE.o 0).trans rfl; have cx : d8.cell? ⟨aG, 1, none⟩ = some (.slice none 0 0) := (qAb aE.o 1).trans rfl; have cy : d8.cell? ⟨aG, 2, none⟩ = some (.slice none 0 0) := (qAb aE.o 2).trans rfl; have cz : d8.cell? ⟨aG, 3, none⟩ = some (.slice none 0 0) := (qAb aE.o 3).trans rfl; have dU := qAc aE.o 0; have dV := qAc aE.o 1; have dW := qAc aE.o 2; have dX := qAc aE.o 3; obtain ⟨bP, bQ, eD⟩ := Kd.R_slice aT.o; subst eD; obtain ⟨bS, bU, eE⟩ := Kd.S_slice aU.o; subst eE; obtain ⟨bZ, b0, eF⟩ := Kd.R_slice aV.o; subst eF) | (go_at_call 8; (with_reducible refine (qA5.calls k  bD _ e4.o).mono ?_); rintro e fU ⟨rfl, hb⟩; have n0_ := am (Kd.R_below (by (with_reducible repeat (fail)); exact (Kd.R_mono (Kd.R_far (p := ⟨aG, 3, none⟩) (Kd.R_far (p := ⟨aG, 2, none⟩) (Kd.R_far (p := ⟨aG, 1, none⟩) (Kd.R_far (p := ⟨aG, 0, none⟩) (Kd.R_types aT.o aE.o (by decide)) (fun _ hk => hk.2) (.string aJ)) (fun _ hk => hk.2) (.slice bP aK.length bQ)) (fun _ hk => hk.2) (.slice bS aM.length bU)) (fun _ hk => hk.2) (.slice bZ aQ.length b0)) (fun _ h_ => h_.1))) hb); have n1_ := am (Kd.S_below (by (with_reducible repeat (fail)); exact (Kd.S_mono (Kd.S_far (p := ⟨aG, 3, none⟩) (Kd.S_far (p := ⟨aG, 2, none⟩) (Kd.S_far (p := ⟨aG, 1, none⟩) (Kd.S_far (p := ⟨aG, 0, none⟩) (Kd.S_types aU.o aE.o (by decide)) (fun _ hk => hk.2) (.string aJ)) (fun _ hk => hk.2) (.slice bP aK.length bQ)) (fun _ hk => hk.2) (.slice bS aM.length bU)) (fun _ hk => hk.2) (.slice bZ aQ.length b0)) (fun _ h_ => h_.1))) hb); have n2_ := am (Kd.R_below (by (with_reducible repeat (fail)); exact (Kd.R_mono (Kd.R_far (p := ⟨aG, 3, none⟩) (Kd.R_far (p := ⟨aG, 2, none⟩) (Kd.R_far (p := ⟨aG, 1, none⟩) (Kd.R_far (p := ⟨aG, 0, none⟩) (Kd.R_types aV.o aE.o (by decide)) (fun _ hk => hk.2) (.string aJ)) (fun _ hk => hk.2) (.slice bP aK.length bQ)) (fun _ hk => hk.2) (.slice bS aM.length bU)) (fun _ hk => hk.2) (.slice bZ aQ.length b0)) (fun _ h_ => h_.1))) hb); have n3_ := am (qAz (g := aG) (o := .cells #[.string aJ, .slice bP aK.length bQ, .slice bS aM.length bU, .slice bZ aQ.length b0] 27 (0, 0)) (by (with_reducible repeat (fail)); refine qAt (cs := #[.string aJ, .slice bP aK.length bQ, .slice bS aM.length bU, .slice none 0 0]) ?_ 3 _ rfl; (with_reducible repeat (fail)); refine qAt (cs := #[.string aJ, .slice bP aK.length bQ, .slice none 0 0, .slice none 0 0]) ?_ 2 _ rfl; (with_reducible repeat (fail)); refine qAt (cs := #[.string aJ, .slice none 0 0, .slice none 0 0, .slice none 0 0]) ?_ 1 _ rfl; (with_reducible repeat (fail)); refine qAt (cs := #[.string ⟨#[]⟩, .slice none 0 0, .slice none 0 0, .slice none 0 0]) ?_ 0 _ rfl; (with_reducible repeat (fail)); exact aE.o) hb); have n4_ := am (qAo (by repeat ((with_reducible first | exact HB.o | refine qAq ?_ ax.o))) hb); clear aT; clear aU; clear aV; clear aE; clear HB; have HB := n4_; clear n0_ n1_ n2_ n3_ n4_; (skip); (skip); (skip)))
    go_ret
    exact ⟨by (rfl), by repeat ((with_reducible (exact HB.o)))⟩
   ·rw [if_neg cN] at H
    have cO : ((wrap64 ((wrap64 ((aK.length : Int) + (aM.length : Int))) + (aQ.length : Int))) == 0) = false := bf cN
    obtain rfl := Option.some.inj H
    go_enter Try.func3, Try.ntmps3
    go_wp2_with (first | ((with_reducible refine qAj (f := 7) rfl ?_); refine gL 15 Try.func7 #[.slice A0 l0.length c0] ?_; (with_reducible refine (qAa.calls k _ _ l0 aJ aK aM aQ bA _ ?side1 ?side2 A4.o).mono ?_); (case side1 => repeat ((exact bT.o))); (case side2 => exact bz.o); rintro e fV ⟨bb, bc, bd, rfl, ah, an, ao, hb⟩; refine ⟨_, rfl, ?_⟩; have n0_ := am (Kd.R_lower ah (qAi (by repeat ((with_reducible (exact HB.o)))))); have n1_ := am (Kd.S_lower an (qAi (by repeat ((with_reducible (exact HB.o)))))); have n2_ := am (Kd.R_lower ao (qAi (by repeat ((with_reducible (exact HB.o)))))); have n3_ := am (qAo (by repeat ((with_reducible (exact HB.o)))) hb); clear HB; have aT := n0_; have aU := n1_; have aV := n2_; have HB := n3_; clear n0_ n1_ n2_ n3_; (skip); (skip); (skip)) | ((with_reducible refine qAC (N := 7) rfl ?_); (try (refine qAE (by rfl) ?_; dsimp only)); refine bx 7 #[.string ⟨#[]⟩, .slice none 0 0, .slice none 0 0, .slice none 0 0] 27 ?_; intro aG hg d9 hbox hb; have n0_ := am (Kd.R_below (by (with_reducible repeat (fail)); exact aT.o) hb); have n1_ := am (Kd.S_below (by (with_reducible repeat (fail)); exact aU.o) hb); have n2_ := am (Kd.R_below (by (with_reducible repeat (fail)); exact aV.o) hb); have n3_ := am (qAo (by repeat ((with_reducible (exact HB.o)))) hb); have n4_ := am (hbox); have n5_ := am ((by rw [hg]; exact (qAi (by repeat ((with_reducible (exact HB.o))))) : w.heap.size ≤ aG)); have n6_ := am ((by rw [hg]; exact (qAi (by repeat ((with_reducible (exact HB.o))))) : w.heap.size ≤ aG)); clear aT; clear aU; clear aV; clear HB; have aT := n0_; have aU := n1_; have aV := n2_; have HB := n3_; have aE := n4_; have ax := n6_; clear n0_ n1_ n2_ n3_ n4_ n5_ n6_; clear hb hbox hg; have dA : d9.cell? ⟨aG, 0, none⟩ = some (.string ⟨#[]⟩) := (qAb aE.o 0).trans rfl; have dB : d9.cell? ⟨aG, 1, none⟩ = some (.slice none 0 0) := (qAb aE.o 1).trans rfl; have dC : d9.cell? ⟨aG, 2, none⟩ = some (.slice none 0 0) := (qAb aE.o 2).trans rfl; have dD : d9.cell? ⟨aG, 3, none⟩ = some (.slice none 0 0) := (qAb aE.o 3).trans rfl; have dY := qAc aE.o 0; have dZ := qAc aE.o 1; have d2 := qAc aE.o 2; have d3 := qAc aE.o 3; obtain ⟨ee, eq, eG⟩ := Kd.R_slice aT.o; subst eG; obtain ⟨ef, er, eH⟩ := Kd.S_slice aU.o; subst eH; obtain ⟨eg, es, eI⟩ := Kd.R_slice aV.o; subst eI))
    go_ret
    exact ⟨by (rfl), by repeat ((with_reducible first | exact HB.o | refine qAq ?_ ax.o))⟩
  ·rw [if_neg bq] at H
   have cM : (aJ.toList == ([] : List UInt8)) = false := bf bq
   obtain rfl := Option.some.inj H
   go_enter Try.func3, Try.ntmps3
   go_wp2_with (first | ((with_reducible refine qAj (f := 7) rfl ?_); refine gL 15 Try.func7 #[.slice A0 l0.length c0] ?_; (with_reducible refine (qAa.calls k _ _ l0 aJ aK aM aQ bA _ ?side1 ?side2 A4.o).mono ?_); (case side1 => repeat ((exact bT.o))); (case side2 => exact bz.o); rintro e fW ⟨bb, bc, bd, rfl, ah, an, ao, hb⟩; refine ⟨_, rfl, ?_⟩; have n0_ := am (Kd.R_lower ah (qAi (by repeat ((with_reducible (exact HB.o)))))); have n1_ := am (Kd.S_lower an (qAi (by repeat ((with_reducible (exact HB.o)))))); have n2_ := am (Kd.R_lower ao (qAi (by repeat ((with_reducible (exact HB.o)))))); have n3_ := am (qAo (by repeat ((with_reducible (exact HB.o)))) hb); clear HB; have aT := n0_; have aU := n1_; have aV := n2_; have HB := n3_; clear n0_ n1_ n2_ n3_; (skip); (skip); (skip)) | ((with_reducible refine qAC (N := 7) rfl ?_); (try (refine qAE (by rfl) ?_; dsimp only)); refine bx 7 #[.string ⟨#[]⟩, .slice none 0 0, .slice none 0 0, .slice none 0 0] 27 ?_; intro aG hg b9 hbox hb; have n0_ := am (Kd.R_below (by (with_reducible repeat (fail)); exact aT.o) hb); have n1_ := am (Kd.S_below (by (with_reducible repeat (fail)); exact aU.o) hb); have n2_ := am (Kd.R_below (by (with_reducible repeat (fail)); exact aV.o) hb); have n3_ := am (qAo (by repeat ((with_reducible (exact HB.o)))) hb); have n4_ := am (hbox); have n5_ := am ((by rw [hg]; exact (qAi (by repeat ((with_reducible (exact HB.o))))) : w.heap.size ≤ aG)); have n6_ := am ((by rw [hg]; exact (qAi (by repeat ((with_reducible (exact HB.o))))) : w.heap.size ≤ aG)); clear aT; clear aU; clear aV; clear HB; have aT := n0_; have aU := n1_; have aV := n2_; have HB := n3_; have aE := n4_; have ax := n6_; clear n0_ n1_ n2_ n3_ n4_ n5_ n6_; clear hb hbox hg; have cS : b9.cell? ⟨aG, 0, none⟩ = some (.string ⟨#[]⟩) := (qAb aE.o 0).trans rfl; have cT : b9.cell? ⟨aG, 1, none⟩ = some (.slice none 0 0) := (qAb aE.o 1).trans rfl; have cU : b9.cell? ⟨aG, 2, none⟩ = some (.slice none 0 0) := (qAb aE.o 2).trans rfl; have cV : b9.cell? ⟨aG, 3, none⟩ = some (.slice none 0 0) := (qAb aE.o 3).trans rfl; have cW := qAc aE.o 0; have cX := qAc aE.o 1; have cY := qAc aE.o 2; have cZ := qAc aE.o 3; obtain ⟨eP, eZ, cP⟩ := Kd.R_slice aT.o; subst cP; obtain ⟨eQ, e0, cQ⟩ := Kd.S_slice aU.o; subst cQ; obtain ⟨eR, e1, cR⟩ := Kd.R_slice aV.o; subst cR))
   go_ret
   exact ⟨by (rfl), by repeat ((with_reducible first | exact HB.o | refine qAq ?_ ax.o))⟩
def foundrylaw15_ObjectBytes.Pure : Prop := ∀ (l0 : List Int) (a1 : Int) (a2 : Int), l0.length ≤ maxLen → l0.length * 1 ≤ 140737488351232 → (∀ x ∈ l0, (Lit.int .u8 x).wf = true) → (Lit.int .i64 a1).wf = true → (Lit.int .u8 a2).wf = true → ∃ k, foundrylaw15_ObjectBytes.f k l0 a1 a2 = some true
theorem foundrylaw15_ObjectBytes.walk (P : foundrylaw15_ObjectBytes.Pure) (a0 : Option Addr) (len0 cap0 : Nat) (z0 : List Int) (a1 : Int) (a2 : Int) (w : World) (w0 : (a0 = none ∧ len0 = 0 ∧ cap0 = 0 ∧ z0 = []) ∨ ∃ x, a0 = some x ∧ len0 ≤ cap0 ∧ cap0 ≤ maxLen ∧ z0.length = cap0 ∧ (∀ i, i < z0.length → w.cell? (x.add i) = some (.int .u8 (z0.getD i 0))) ∧ ∀ n ∈ z0, (Lit.int .u8 n).wf = true) (y0 : len0 * 1 ≤ 140737488351232) (w1 : (Lit.int .i64 a1).wf = true) (w2 : (Lit.int .u8 a2).wf = true) :
  Calls Try.prog 3 #[.slice a0 len0 cap0, .int .i64 a1, .int .u8 a2] w fun e w' => e = .returned (.bool true) ∧ Below w.heap.size w w' := by
 obtain ⟨l0, rfl, hr0, hm0, hw0, hc0⟩ := qB8.ofRowC w0
 obtain ⟨k, h⟩ := P l0 a1 a2 hm0 y0 hw0 w1 w2
 refine (foundrylaw15_ObjectBytes.calls k _ _ l0 a1 a2 true w (Kd.C_of_reads (d := (0 : Int)) (h1 := fun _ => rfl) hr0) hc0 h).mono ?_
 rintro e w' ⟨rfl, hd⟩
 exact ⟨rfl, hd⟩
end Q
end
section
namespace Q
open Go.RowKit PA PB PC
open DecLaw
theorem qBQ {l : List Int} (h : qAM l) (n : Nat) : qAM (l.take n) := fun x hx => h x (List.mem_of_mem_take hx)
theorem qBo {l : List Int} (h : qAM l) (n : Nat) : qAM (l.drop n) := fun x hx => h x (List.mem_of_mem_drop hx)
theorem qEd : ∀ (l : List Int), qAM l → ∀ v : Int, 0 ≤ v → 0 ≤ l.foldl (fun v x => v * 256 + x) v ∧ l.foldl (fun v x => v * 256 + x) v < (v + 1) * 256 ^ l.length := by
 intro l
 induction l with
 | nil => intro _ v hv; simp; omega
 | cons x l ih =>
  intro h v hv
  have hx := h x List.mem_cons_self
  obtain ⟨h1, h2⟩ := ih (fun y hy => h y (List.mem_cons_of_mem _ hy)) (v * 256 + x) (by omega)
  refine ⟨h1, Int.lt_of_lt_of_le h2 ?_⟩
  rw [List.length_cons, Int.pow_succ]
  have : (v * 256 + x + 1) * 256 ^ l.length ≤ ((v + 1) * 256) * 256 ^ l.length := Int.mul_le_mul_of_nonneg_right (by omega) (Int.le_of_lt (Int.pow_pos (by decide)))
  have e : (v + 1) * (256 ^ l.length * 256) = ((v + 1) * 256) * 256 ^ l.length := by rw [Int.mul_assoc, Int.mul_comm (256 ^ l.length) 256]
  rw [e]; exact this
theorem qCB (l : List Int) (h : qAM l) : 0 ≤ valB l ∧ valB l < 256 ^ l.length := by
 have := qEd l h 0 (Int.le_refl 0)
 unfold valB
 simpa using this
theorem numStep_eq (v x : Int) (hv : 0 ≤ v) (hv2 : v < 72057594037927936) (hx : 0 ≤ x) (hx2 : x < 256) : qCv v x = v * 256 + x := by
 unfold qCv
 rw [Dec.wrap_256, show IntKind.u64.wrap x = x from by simp [IntKind.wrap, IntKind.bits, IntKind.signed]; omega, Dec.or_low v x hv (by omega) hx hx2]
 omega
theorem numF_fold (l : List Int) (h : qAM l) : ∀ (v : Int), 0 ≤ v → (v + 1) * 256 ^ l.length ≤ 18446744073709551616 → l.foldl qCv v = l.foldl (fun v x => v * 256 + x) v := by
 induction l with
 | nil => intro v _ _; rfl
 | cons x l ih =>
  intro v hv hb
  have hx := h x List.mem_cons_self
  have hp : (1 : Int) ≤ 256 ^ l.length := by have := @Int.pow_pos 256 l.length (by decide); omega
  rw [List.length_cons, Int.pow_succ] at hb
  have hv2 : v < 72057594037927936 := by
   have h1 : (v + 1) * (1 * 256) ≤ (v + 1) * (256 ^ l.length * 256) := Int.mul_le_mul_of_nonneg_left (Int.mul_le_mul_of_nonneg_right hp (by decide)) (by omega)
   omega
  simp only [List.foldl_cons]
  rw [numStep_eq v x hv hv2 hx.1 hx.2]
  refine ih (fun y hy => h y (List.mem_cons_of_mem _ hy)) _ (by omega) ?_
  have h1 : (v * 256 + x + 1) * 256 ^ l.length ≤ ((v + 1) * 256) * 256 ^ l.length := Int.mul_le_mul_of_nonneg_right (by omega) (by omega)
  have e : (v + 1) * (256 ^ l.length * 256) = ((v + 1) * 256) * 256 ^ l.length := by rw [Int.mul_assoc, Int.mul_comm (256 ^ l.length) 256]
  omega
theorem qDO (l : List Int) (h : qAM l) (h8 : l.length ≤ 8) : numF l = valB l := by
 unfold numF valB
 refine numF_fold l h 0 (Int.le_refl 0) ?_
 have : ∀ n : Nat, n < 9 → (256 : Int) ^ n ≤ 18446744073709551616 := by decide
 have := this l.length (by omega)
 omega
abbrev Ps (α : Type) := List Int → Option (α × List Int)
def qCm : Ps Int := fun r => match r with | [] => none | x :: r => some (x, r)
def numP (m : Nat) : Ps Int := fun r => if m ≤ r.length then some (valB (r.take m), r.drop m) else none
def intP : Ps Int := fun r => if 4 ≤ r.length then (if valB (r.take 4) ≤ 2147483647 then some (valB (r.take 4), r.drop 4) else none) else none
def rawP (most : Int) : Ps (List Int) := fun r => (intP r).bind fun a => if a.1 ≤ most ∧ a.1 ≤ a.2.length then some (a.2.take a.1.toNat, a.2.drop a.1.toNat) else none
def qBS (most : Int) : Ps ByteArray := fun r => (rawP most r).map fun a => (strOfNums a.1, a.2)
def Rd {α : Type} (f0 : List Int) (g : Nat → Option (α × Int × Int)) (s : Option (α × List Int)) : Prop :=
 ∃ v p e, Ev g (v, p, e) ∧ match s with
  | some (x, r) => v = x ∧ e = 0 ∧ 0 ≤ p ∧ p ≤ f0.length ∧ r = f0.drop p.toNat
  | none => e ≠ 0
def Pl (f0 : List Int) (p : Int) : Prop := 0 ≤ p ∧ p ≤ f0.length
theorem Rd.ok {α : Type} {f0 : List Int} {g : Nat → Option (α × Int × Int)} {x : α} {p : Int} (h : Ev g (x, p, 0)) (hp : Pl f0 p) : Rd f0 g (some (x, f0.drop p.toNat)) := ⟨x, p, 0, h, rfl, rfl, hp.1, hp.2, rfl⟩
theorem Rd.no {α : Type} {f0 : List Int} {g : Nat → Option (α × Int × Int)} {x : α} {p e : Int} (h : Ev g (x, p, e)) (he : e ≠ 0) : Rd f0 g none := ⟨x, p, e, h, he⟩
theorem Rd.bind {α β : Type} {f0 : List Int} {g : Nat → Option (α × Int × Int)} {s : Option (α × List Int)} {h : Nat → α × Int × Int → Option (β × Int × Int)} {t : α × List Int → Option (β × List Int)} (hg : Rd f0 g s)
  (good : ∀ x p, Pl f0 p → s = some (x, f0.drop p.toNat) → Rd f0 (fun k => h k (x, p, 0)) (t (x, f0.drop p.toNat))) (bad : ∀ x p e, e ≠ 0 → Rd f0 (fun k => h k (x, p, e)) none) : Rd f0 (fun k => (g k).bind (h k)) (s.bind t) := by
 obtain ⟨v, p, e, hv, hs⟩ := hg
 cases s with
 | none =>
  obtain ⟨v2, p2, e2, h2, hs2⟩ := bad v p e hs
  exact ⟨v2, p2, e2, Ev.bind hv h2, hs2⟩
 | some a =>
  obtain ⟨x, r⟩ := a
  obtain ⟨rfl, rfl, h0, h1, rfl⟩ := hs
  obtain ⟨v2, p2, e2, h2, hs2⟩ := good v p ⟨h0, h1⟩ rfl
  exact ⟨v2, p2, e2, Ev.bind hv h2, hs2⟩
theorem Rd.congr {α : Type} {f0 : List Int} {g h : Nat → Option (α × Int × Int)} {s t : Option (α × List Int)} (hg : Rd f0 g s) (e : ∀ k, h k = g k) (es : t = s) : Rd f0 h t := by
 subst es
 obtain ⟨v, p, e', hv, hs⟩ := hg
 exact ⟨v, p, e', Ev.congr e hv, hs⟩
theorem qDF (f0 : List Int) (p : Int) (hp : Pl f0 p) : (f0.drop p.toNat).length = f0.length - p.toNat := List.length_drop
theorem qBV (f0 : List Int) (p : Int) (n : Nat) (hp : Pl f0 p) : (f0.drop p.toNat).drop n = f0.drop (p + n).toNat := by
 rw [List.drop_drop]; congr 1; have := hp.1; omega
theorem qCq (f0 : List Int) (hb : qAM f0) (p : Int) (hp : Pl f0 p) : Rd f0 (fun _ => qAg.f f0 p 0) (qCm (f0.drop p.toNat)) := by
 obtain ⟨h0, h1⟩ := hp
 by_cases hlt : p < f0.length
 rotate_left
 ·rw [List.drop_eq_nil_of_le (by omega)]
  refine Rd.no (x := 0) (p := p) (e := 40) (Ev.congr (f := fun _ => some (0, p, 40)) (fun k => ?_) (Ev.now _)) (by decide)
  simp [qAg.f, hlt]
 have hc : f0.drop p.toNat = f0.getD p.toNat 0 :: f0.drop (p + 1).toNat := by
  rw [show (p + 1).toNat = p.toNat + 1 from by omega, List.drop_eq_getElem_cons (by omega), List.getD_eq_getElem?_getD, List.getElem?_eq_getElem (by omega)]; rfl
 rw [hc]
 refine Rd.ok (f0 := f0) (p := p + 1) ?_ ⟨by omega, by omega⟩
 refine Ev.congr (f := fun _ => some (f0.getD p.toNat 0, p + 1, 0)) (fun k => ?_) (Ev.now _)
 simp [qAg.f, hlt]
theorem short_good (f0 : List Int) (hb : qAM f0) (p : Int) (hp : Pl f0 p) : Rd f0 (fun _ => qA3.f f0 p 0) (numP 2 (f0.drop p.toNat)) := by
 have hd := qDF f0 p hp
 unfold numP
 by_cases h : 2 ≤ (f0.drop p.toNat).length
 rotate_left
 ·rw [if_neg h]
  have hp2 : ¬ p + 2 ≤ f0.length := by have := hp.1; omega
  exact Rd.no (x := 0) (p := p) (e := 40) (Ev.congr (f := fun _ => some (0, p, 40)) (fun k => by simp [qA3.f, hp2]) (Ev.now _)) (by decide)
 rw [if_pos h, qBV f0 p 2 hp]
 have hp2 : p + 2 ≤ f0.length := by have := hp.1; omega
 have hv := qCB _ (qBQ (qBo hb p.toNat) 2)
 have h2 : ((f0.drop p.toNat).take 2).length = 2 := by rw [List.length_take]; omega
 rw [h2] at hv
 have hn : wrap64 (numF ((f0.drop p.toNat).take 2)) = valB ((f0.drop p.toNat).take 2) := by
  rw [qDO _ (qBQ (qBo hb p.toNat) 2) (by omega)]
  unfold wrap64; omega
 exact Rd.ok (Ev.congr (f := fun _ => some (valB ((f0.drop p.toNat).take 2), p + (2 : Nat), 0)) (fun k => by simp [qA3.f, hp2, hn]) (Ev.now _)) ⟨by have := hp.1; omega, hp2⟩
theorem long_good (f0 : List Int) (hb : qAM f0) (p : Int) (hp : Pl f0 p) : Rd f0 (fun _ => qAB.f f0 p 0) (numP 8 (f0.drop p.toNat)) := by
 have hd := qDF f0 p hp
 unfold numP
 by_cases h : 8 ≤ (f0.drop p.toNat).length
 rotate_left
 ·rw [if_neg h]
  have hp2 : ¬ p + 8 ≤ f0.length := by have := hp.1; omega
  exact Rd.no (x := 0) (p := p) (e := 40) (Ev.congr (f := fun _ => some (0, p, 40)) (fun k => by simp [qAB.f, hp2]) (Ev.now _)) (by decide)
 rw [if_pos h, qBV f0 p 8 hp]
 have hp2 : p + 8 ≤ f0.length := by have := hp.1; omega
 have h2 : ((f0.drop p.toNat).take 8).length = 8 := by rw [List.length_take]; omega
 have hn : numF ((f0.drop p.toNat).take 8) = valB ((f0.drop p.toNat).take 8) := qDO _ (qBQ (qBo hb p.toNat) 8) (by omega)
 exact Rd.ok (Ev.congr (f := fun _ => some (valB ((f0.drop p.toNat).take 8), p + (8 : Nat), 0)) (fun k => by simp [qAB.f, hp2, hn]) (Ev.now _)) ⟨by have := hp.1; omega, hp2⟩
theorem num4_eq (f0 : List Int) (hb : qAM f0) (p : Int) (hp : Pl f0 p) (h : 4 ≤ (f0.drop p.toNat).length) : num4 f0 p = valB ((f0.drop p.toNat).take 4) := by
 unfold num4
 exact qDO _ (qBQ (qBo hb p.toNat) 4) (by rw [List.length_take]; omega)
theorem int_good (f0 : List Int) (hb : qAM f0) (p : Int) (hp : Pl f0 p) : Rd f0 (fun _ => qA2.f f0 p 0) (intP (f0.drop p.toNat)) := by
 have hd := qDF f0 p hp
 unfold intP
 by_cases h : 4 ≤ (f0.drop p.toNat).length
 rotate_left
 ·rw [if_neg h]
  have hp2 : ¬ p + 4 ≤ f0.length := by have := hp.1; omega
  exact Rd.no (x := 0) (p := p) (e := 40) (Ev.congr (f := fun _ => some (0, p, 40)) (fun k => by simp [qA2.f, hp2]) (Ev.now _)) (by decide)
 rw [if_pos h, qBV f0 p 4 hp]
 have hp2 : p + 4 ≤ f0.length := by have := hp.1; omega
 have hn := num4_eq f0 hb p hp h
 by_cases hv : valB ((f0.drop p.toNat).take 4) ≤ 2147483647
 rotate_left
 ·rw [if_neg hv]
  exact Rd.no (x := 0) (p := p + 4) (e := 42) (Ev.congr (f := fun _ => some (0, p + 4, 42)) (fun k => by simp [qA2.f, hp2, hn, hv]) (Ev.now _)) (by decide)
 rw [if_pos hv]
 exact Rd.ok (Ev.congr (f := fun _ => some (valB ((f0.drop p.toNat).take 4), p + (4 : Nat), 0)) (fun k => by simp [qA2.f, hp2, hn, hv]) (Ev.now _)) ⟨by have := hp.1; omega, hp2⟩
theorem raw_good (f0 : List Int) (hb : qAM f0) (most : Int) (hm : 0 ≤ most) (p : Int) (hp : Pl f0 p) : Rd f0 (fun _ => qAs.f f0 p 0 most) (rawP most (f0.drop p.toNat)) := by
 have hd := qDF f0 p hp
 have hmx : mx most 0 = most := by unfold mx; omega
 unfold rawP intP
 by_cases h : 4 ≤ (f0.drop p.toNat).length
 rotate_left
 ·rw [if_neg h]
  have hp2 : ¬ p + 4 ≤ f0.length := by have := hp.1; omega
  refine Rd.no (x := []) (p := p) (e := 40) (Ev.congr (f := fun _ => some ([], p, 40)) (fun k => ?_) (Ev.now _)) (by decide)
  unfold qAs.f
  rw [if_neg (by simp), if_neg hp2]
 rw [if_pos h, qBV f0 p 4 hp]
 have hp2 : p + 4 ≤ f0.length := by have := hp.1; omega
 have hp4 : Pl f0 (p + (4 : Nat)) := ⟨by have := hp.1; omega, hp2⟩
 have hn := num4_eq f0 hb p hp h
 have hd4 := qDF f0 _ hp4
 have hv0 := (qCB _ (qBQ (qBo hb p.toNat) 4)).1
 generalize valB ((f0.drop p.toNat).take 4) = n at *
 by_cases hv : n ≤ 2147483647
 rotate_left
 ·rw [if_neg hv]
  refine Rd.no (x := []) (p := p + 4) (e := 42) (Ev.congr (f := fun _ => some ([], p + 4, 42)) (fun k => ?_) (Ev.now _)) (by decide)
  unfold qAs.f
  rw [hn, hmx, if_neg (by simp), if_pos hp2, if_neg hv]
 rw [if_pos hv]
 simp only [Option.bind_some]
 by_cases hq : n ≤ most ∧ n ≤ (f0.drop (p + (4 : Nat)).toNat).length
 ·rw [if_pos hq]
  have hq2 : p + 4 + n ≤ f0.length := by have := hp.1; omega
  have hdd := qBV f0 (p + (4 : Nat)) n.toNat hp4
  rw [hdd]
  refine Rd.ok (p := p + (4 : Nat) + (n.toNat : Nat)) (Ev.congr (f := fun _ => some ((f0.drop (p + (4 : Nat)).toNat).take n.toNat, p + (4 : Nat) + (n.toNat : Nat), 0)) (fun k => ?_) (Ev.now _)) ⟨by have := hp.1; omega, by omega⟩
  unfold qAs.f
  rw [hn, hmx, if_neg (by simp), if_pos hp2, if_pos hv, if_pos hq.1, if_pos hq2]
  rw [show ((n.toNat : Nat) : Int) = n from by omega]; rfl
 rw [if_neg hq]
 by_cases hq1 : n ≤ most
 rotate_left
 ·refine Rd.no (x := []) (p := p + 4) (e := 3) (Ev.congr (f := fun _ => some ([], p + 4, 3)) (fun k => ?_) (Ev.now _)) (by decide)
  unfold qAs.f
  rw [hn, hmx, if_neg (by simp), if_pos hp2, if_pos hv, if_neg hq1]
 have hq2 : ¬ p + 4 + n ≤ f0.length := fun hh => hq ⟨hq1, by have := hp.1; omega⟩
 refine Rd.no (x := []) (p := p + 4) (e := 40) (Ev.congr (f := fun _ => some ([], p + 4, 40)) (fun k => ?_) (Ev.now _)) (by decide)
 unfold qAs.f
 rw [hn, hmx, if_neg (by simp), if_pos hp2, if_pos hv, if_pos hq1, if_neg hq2]
theorem qC2 (f0 : List Int) (hb : qAM f0) (most : Int) (hm : 0 ≤ most) (p : Int) (hp : Pl f0 p) : Rd f0 (fun _ => qAp.f f0 p 0 most) (qBS most (f0.drop p.toNat)) := by
 have h := raw_good f0 hb most hm p hp
 refine Rd.congr (g := fun k => (qAs.f f0 p 0 most).bind fun b => some (strOfNums b.1, b.2.1, b.2.2)) (s := (rawP most (f0.drop p.toNat)).bind fun a => some (strOfNums a.1, a.2)) ?_ (fun k => rfl) (by unfold qBS; cases rawP most (f0.drop p.toNat) <;> rfl)
 exact Rd.bind h (fun x p hp _ => Rd.ok (Ev.now _) hp) (fun x p e he => Rd.no (Ev.now _) he)
end Q
end
section
namespace Q
open Go.RowKit PA PB PC
theorem drop_cons' {α : Type} (l : List α) (d : α) (i : Int) (h0 : 0 ≤ i) (h : i < l.length) : l.drop i.toNat = l.getD i.toNat d :: l.drop (i + 1).toNat := by
 rw [show (i + 1).toNat = i.toNat + 1 from by omega, List.drop_eq_getElem_cons (by omega), List.getD_eq_getElem?_getD, List.getElem?_eq_getElem (by omega)]; rfl
end Q
end
section
namespace Q
open Go.RowKit PA PB PC
open DecLaw
theorem numP_bound (m : Nat) (r : List Int) (hb : qAM r) (a : Int × List Int) (h : numP m r = some a) : 0 ≤ a.1 ∧ a.1 < 256 ^ m := by
 unfold numP at h
 split at h
 ·rename_i hl
  obtain rfl := Option.some.inj h
  have := qCB _ (qBQ hb m)
  rw [List.length_take, Nat.min_eq_left hl] at this
  exact this
 cases h
theorem intP_eq (r : List Int) : intP r = (numP 4 r).bind fun a => if a.1 ≤ 2147483647 then some a else none := by
 unfold intP numP
 by_cases h : 4 ≤ r.length
 ·rw [if_pos h, if_pos h]; rfl
 rw [if_neg h, if_neg h]; rfl
theorem qB6 (r : List Int) (hb : qAM r) (a : Int × List Int) (h : intP r = some a) : 0 ≤ a.1 ∧ a.1 ≤ 2147483647 := by
 unfold intP at h
 split at h
 ·split at h
  ·rename_i h2
   obtain rfl := Option.some.inj h
   exact ⟨(qCB _ (qBQ hb 4)).1, h2⟩
  cases h
 cases h
def qCh : Nat → List Int → Ps (List Int)
 | 0, acc => fun r => some (acc, r)
 | n + 1, acc => fun r => (qCm r).bind fun a => qCh n (acc ++ [a.1]) a.2
def qBB : Ps (List Int) := fun r => (qCm r).bind fun a => qCh a.1.toNat [] a.2
def decP (c : List Int) : List Enc.InsD × Int := decL (c.length + 1) [] c
def qCj : Ps (List S115) := fun r => (rawP 16384 r).bind fun a => if (decP a.1).2 = 0 then some ((decP a.1).1.map toS, a.2) else none
abbrev Fn4 := List Int × Int × List Int × List S115
def fnP : Ps Fn4 := fun r => (qBB r).bind fun a => (qCm a.2).bind fun b => (qBB b.2).bind fun c => (qCj c.2).bind fun d => some ((a.1, b.1, c.1, d.1), d.2)
def varP : Ps S71 := fun r => (qBS 32 r).bind fun a => (qCm a.2).bind fun b => (numP 8 b.2).bind fun c => some (⟨a.1, ⟨b.1, c.1⟩⟩, c.2)
def nfnP : Ps S80 := fun r => (qBS 32 r).bind fun a => (fnP a.2).bind fun b => some (⟨a.1, ⟨⟨b.1.1, b.1.2.1⟩, b.1.2.2.1, b.1.2.2.2⟩⟩, b.2)
def relP : Ps S82 := fun r => (numP 2 r).bind fun a => (numP 2 a.2).bind fun b => (qCm b.2).bind fun c => (qBS 32 c.2).bind fun d => (qBS 32 d.2).bind fun e => some (⟨a.1, b.1, c.1, d.1, e.1⟩, e.2)
abbrev Obj4 := ByteArray × List S71 × List S80 × List S82
def endO (o : Obj4) (r : List Int) : Option Obj4 := if r = [] then some o else none
def qD2 : Nat → ByteArray → List S71 → List S80 → List S82 → List Int → Option Obj4
 | 0, m, vs, fs, acc, r => endO (m, vs, fs, acc) r
 | n + 1, m, vs, fs, acc, r => (relP r).bind fun a => qD2 n m vs fs (acc ++ [a.1]) a.2
def relsI (m : ByteArray) (vs : List S71) (fs : List S80) (r : List Int) : Option Obj4 := (intP r).bind fun a => qD2 a.1.toNat m vs fs [] a.2
def fnsC : Nat → ByteArray → List S71 → List S80 → List Int → Option Obj4
 | 0, m, vs, acc, r => relsI m vs acc r
 | n + 1, m, vs, acc, r => (nfnP r).bind fun a => fnsC n m vs (acc ++ [a.1]) a.2
def fnsI (m : ByteArray) (vs : List S71) (r : List Int) : Option Obj4 := (intP r).bind fun a => fnsC a.1.toNat m vs [] a.2
def qDp : Nat → ByteArray → List S71 → List Int → Option Obj4
 | 0, m, acc, r => fnsI m acc r
 | n + 1, m, acc, r => (varP r).bind fun a => qDp n m (acc ++ [a.1]) a.2
def objC (r : List Int) : Option Obj4 := (qBS 32 r).bind fun a => (intP a.2).bind fun b => qDp b.1.toNat a.1 [] b.2
structure Fin {σ γ : Type} (tail : σ → Nat → Option γ) (err : γ) (s : Option σ) (R : γ) : Prop where
 yes : ∀ o, s = some o → Ev (tail o) R
 no : s = none → R = err
theorem Rd.fin {α σ γ : Type} {f0 : List Int} {g : Nat → Option (α × Int × Int)} {s : Option (α × List Int)} {h : Nat → α × Int × Int → Option γ} {t : α × List Int → Option σ} {tail : σ → Nat → Option γ} {err R : γ} (hg : Rd f0 g s) (hF : Fin tail err (s.bind t) R)
  (good : ∀ x p, Pl f0 p → s = some (x, f0.drop p.toNat) → Fin tail err (t (x, f0.drop p.toNat)) R → Ev (fun k => h k (x, p, 0)) R) (bad : ∀ x p e, e ≠ 0 → R = err → Ev (fun k => h k (x, p, e)) R) : Ev (fun k => (g k).bind (h k)) R := by
 obtain ⟨v, p, e, hv, hs⟩ := hg
 cases s with
 | none => exact Ev.bind hv (bad v p e hs (hF.no rfl))
 | some a =>
  obtain ⟨x, r⟩ := a
  obtain ⟨rfl, rfl, h0, h1, rfl⟩ := hs
  exact Ev.bind hv (good v p ⟨h0, h1⟩ rfl ⟨fun o ho => hF.yes o ho, fun hn => hF.no hn⟩)
theorem qBb {r : List Int} (hb : qAM r) {a : Int × List Int} (h : qCm r = some a) : 0 ≤ a.1 ∧ a.1 < 256 := by
 cases r with
 | nil => cases h
 | cons x r => obtain rfl := Option.some.inj h; exact hb x List.mem_cons_self
theorem qCb {x : Int} (h : 0 ≤ x ∧ x < 256) : wrap64 x = x := by unfold wrap64; omega
section
variable (f0 : List Int) (hb : qAM f0) (hl : f0.length ≤ 4294967296)
theorem kinds_bad (n : Int) (hn : 0 ≤ n ∧ n < 256) (p e : Int) (he : e ≠ 0) : ∀ (d : Nat) (i : Int) (acc : List Int), 0 ≤ i → n - i = d → acc.length + d ≤ 512 → ∃ l, Ev (fun k => qAr.l0 k acc n i f0 p e) (l, p, e) := by
 intro d
 induction d with
 | zero =>
  intro i acc h0 hd ha
  refine ⟨acc, Ev.step (f := fun _ => some (acc, p, e)) (fun k => ?_) (Ev.now _)⟩
  simp only [qAr.l0]; rw [if_neg (by omega)]
 | succ d ih =>
  intro i acc h0 hd ha
  obtain ⟨l, hl⟩ := ih (i + 1) (acc ++ [wrap64 0]) (by omega) (by omega) (by simp; omega)
  refine ⟨l, Ev.step (fun k => ?_) hl⟩
  simp only [qAr.l0]
  rw [if_pos (by omega), show qAg.f f0 p e = some (0, p, e) from by simp [qAg.f, he]]
  simp only [Option.bind_some]
  rw [if_pos (by omega), show wrap64 (i + 1) = i + 1 from by unfold wrap64; omega]
theorem kinds_loop (hb : qAM f0) (n : Int) (hn : 0 ≤ n ∧ n < 256) : ∀ (d : Nat) (i : Int) (acc : List Int) (p : Int), 0 ≤ i → n - i = d → acc.length + d ≤ 512 → Pl f0 p → Rd f0 (fun k => qAr.l0 k acc n i f0 p 0) (qCh d acc (f0.drop p.toNat)) := by
 intro d
 induction d with
 | zero =>
  intro i acc p h0 hd ha hp
  refine Rd.ok (Ev.step (f := fun _ => some (acc, p, 0)) (fun k => ?_) (Ev.now _)) hp
  simp only [qAr.l0]; rw [if_neg (by omega)]
 | succ d ih =>
  intro i acc p h0 hd ha hp
  have hw : wrap64 (i + 1) = i + 1 := by unfold wrap64; omega
  have hstep : Rd f0 (fun k => (qAg.f f0 p 0).bind fun b => (if acc.length < 17592186044416 then qAr.l0 k (acc ++ [wrap64 b.1]) n (wrap64 (i + 1)) f0 b.2.1 b.2.2 else none)) ((qCm (f0.drop p.toNat)).bind fun a => qCh d (acc ++ [a.1]) a.2) := by
   refine Rd.bind (qCq f0 hb p hp) (h := fun k b => (if acc.length < 17592186044416 then qAr.l0 k (acc ++ [wrap64 b.1]) n (wrap64 (i + 1)) f0 b.2.1 b.2.2 else none)) (fun x p2 hp2 hs => ?_) (fun x p2 e he => ?_)
   ·have hx := qBb (qBo hb _) hs
    simp only [show acc.length < 17592186044416 from by omega, if_true, hw, qCb hx]
    exact ih (i + 1) _ p2 (by omega) (by omega) (by simp; omega) hp2
   simp only [show acc.length < 17592186044416 from by omega, if_true, hw]
   obtain ⟨l, hl⟩ := kinds_bad f0 n hn p2 e he d (i + 1) (acc ++ [wrap64 x]) (by omega) (by omega) (by simp; omega)
   exact Rd.no hl he
  obtain ⟨v, p', e', hev, hs⟩ := hstep
  refine ⟨v, p', e', Ev.step (fun k => ?_) hev, hs⟩
  simp only [qAr.l0]
  rw [if_pos (by omega)]
theorem kinds_good (hb : qAM f0) (p : Int) (hp : Pl f0 p) : Rd f0 (fun k => qAr.f k f0 p 0) (qBB (f0.drop p.toNat)) := by
 cases hs : qCm (f0.drop p.toNat) with
 | none =>
  have hlt : ¬ p < f0.length := by
   intro hlt
   have hc : (f0.drop p.toNat).length ≠ 0 := by rw [List.length_drop]; have := hp.1; omega
   cases hd : f0.drop p.toNat with
   | nil => rw [hd] at hc; exact hc rfl
   | cons x r => rw [hd] at hs; cases hs
  have e : qBB (f0.drop p.toNat) = none := by unfold qBB; rw [hs]; rfl
  rw [e]
  refine Rd.no (x := []) (p := p) (e := 40) (Ev.congr (f := fun k => qAr.l0 k [] 0 0 f0 p 40) (fun k => ?_) (Ev.step (f := fun _ => some ([], p, 40)) (fun k => ?_) (Ev.now _))) (by decide)
  ·unfold qAr.f
   rw [show qAg.f f0 p 0 = some (0, p, 40) from by simp [qAg.f, hlt]]
   simp only [Option.bind_some]
   rw [show wrap64 0 = 0 from by unfold wrap64; omega]
  simp only [qAr.l0]; rw [if_neg (by omega)]
 | some a =>
  obtain ⟨x, r⟩ := a
  have hx := qBb (qBo hb _) hs
  obtain ⟨v, q, e, hev, hq⟩ := qCq f0 hb p hp
  rw [hs] at hq
  obtain ⟨rfl, rfl, q0, q1, rfl⟩ := hq
  have e : qBB (f0.drop p.toNat) = qCh v.toNat [] (f0.drop q.toNat) := by unfold qBB; rw [hs]; rfl
  rw [e]
  obtain ⟨v2, p2, e2, h2, hs2⟩ := kinds_loop f0 hb v hx v.toNat 0 [] q (by omega) (by have := hx.1; simp only at this; omega) (by have := hx.2; simp only at this; simp; omega) ⟨q0, q1⟩
  refine ⟨v2, p2, e2, ?_, hs2⟩
  refine Ev.congr (f := fun k => (qAg.f f0 p 0).bind fun b => qAr.l0 k [] (wrap64 b.1) 0 f0 b.2.1 b.2.2) (fun k => rfl) (Ev.bind hev ?_)
  simp only [qCb hx]
  exact h2
theorem kinds_badF (p e : Int) (he : e ≠ 0) : Ev (fun k => qAr.f k f0 p e) ([], p, e) := by
 refine Ev.congr (f := fun k => qAr.l0 k [] 0 0 f0 p e) (fun k => ?_) (Ev.step (f := fun _ => some ([], p, e)) (fun k => ?_) (Ev.now _))
 ·unfold qAr.f
  rw [show qAg.f f0 p e = some (0, p, e) from by simp [qAg.f, he]]
  simp only [Option.bind_some]
  rw [show wrap64 0 = 0 from by unfold wrap64; omega]
 simp only [qAr.l0]; rw [if_neg (by omega)]
def RdF (g : Nat → Option (List Int × Int × List Int × List S115 × Int × Int)) (s : Option (Fn4 × List Int)) : Prop :=
 ∃ a b c d p e, Ev g (a, b, c, d, p, e) ∧ match s with
  | some (x, r) => x = (a, b, c, d) ∧ e = 0 ∧ 0 ≤ p ∧ p ≤ f0.length ∧ r = f0.drop p.toNat
  | none => e ≠ 0
theorem qCr (c : List Int) (hb : qAM c) : qAI.f c = some ((decP c).1.map toS, (decP c).2) := by
 unfold qAI.f
 rw [if_pos (List.all_eq_true.2 fun x hx => decide_eq_true (hb x hx))]; rfl
theorem rawP_bytes {most : Int} {r : List Int} (hb : qAM r) {a : List Int × List Int} (h : rawP most r = some a) : qAM a.1 := by
 unfold rawP at h
 cases hi : intP r with
 | none => rw [hi] at h; cases h
 | some b =>
  rw [hi] at h
  simp only [Option.bind_some] at h
  split at h
  ·obtain rfl := Option.some.inj h
   refine qBQ ?_ _
   unfold intP at hi
   split at hi
   ·split at hi
    ·obtain rfl := Option.some.inj hi
     exact qBo hb 4
    cases hi
   cases hi
  cases h
theorem raw_empty (most p : Int) (v : List Int) (q e : Int) (h : qAs.f f0 p 0 most = some (v, q, e)) (he : e ≠ 0) : v = [] := by
 unfold qAs.f at h
 replace h := Option.some.inj h
 rw [if_neg (by simp)] at h
 (repeat' split at h) <;> (simp only [Prod.mk.injEq] at h; first | exact h.1.symm | exact absurd h.2.2.symm he)
theorem readFn_bad (p e : Int) (he : e ≠ 0) : ∃ a b c d, Ev (fun k => qAU.f k f0 p e) (a, b, c, d, p, e) := by
 have h1 := kinds_badF f0 p e he
 refine ⟨[], wrap64 0, [], (decP []).1.map toS, ?_⟩
 refine Ev.congr (f := fun k => (qAr.f k f0 p e).bind fun b1 => ((qAg.f f0 b1.2.1 b1.2.2).bind fun b2 => ((qAr.f k f0 b2.2.1 b2.2.2).bind fun b3 => ((qAs.f f0 b3.2.1 b3.2.2 16384).bind fun b4 => ((qAI.f b4.1).bind fun b5 => (if b5.2 = 0 then (some (b1.1, wrap64 (b2.1), b3.1, b5.1, b4.2.1, b4.2.2)) else ((qAy.f f0 b4.2.1 b4.2.2 52).bind fun b6 => (some (b1.1, wrap64 (b2.1), b3.1, b5.1, b6.1, b6.2))))))))) (fun k => rfl) (Ev.bind h1 ?_)
 simp only [show qAg.f f0 p e = some (0, p, e) from by simp [qAg.f, he], Option.bind_some]
 refine Ev.bind h1 ?_
 have hr : qAs.f f0 p e 16384 = some ([], p, e) := by unfold qAs.f; rw [if_pos he]
 simp only [hr, Option.bind_some, qCr [] (by intro x hx; cases hx)]
 have hz : (decP []).2 = 0 := rfl
 simp only [hz, if_true]
 exact Ev.now _
theorem readFn_good (hb : qAM f0) (p : Int) (hp : Pl f0 p) : RdF f0 (fun k => qAU.f k f0 p 0) (fnP (f0.drop p.toNat)) := by
 have hun : ∀ k, qAU.f k f0 p 0 = (qAr.f k f0 p 0).bind fun b1 => ((qAg.f f0 b1.2.1 b1.2.2).bind fun b2 => ((qAr.f k f0 b2.2.1 b2.2.2).bind fun b3 => ((qAs.f f0 b3.2.1 b3.2.2 16384).bind fun b4 => ((qAI.f b4.1).bind fun b5 => (if b5.2 = 0 then (some (b1.1, wrap64 (b2.1), b3.1, b5.1, b4.2.1, b4.2.2)) else ((qAy.f f0 b4.2.1 b4.2.2 52).bind fun b6 => (some (b1.1, wrap64 (b2.1), b3.1, b5.1, b6.1, b6.2)))))))) := fun k => rfl
 have tail4 : ∀ (q1 : List Int) (q2 : Int) (q3 : List Int) (p e : Int), e ≠ 0 → Ev (fun _ => (qAs.f f0 p e 16384).bind fun b4 => ((qAI.f b4.1).bind fun b5 => (if b5.2 = 0 then (some (q1, q2, q3, b5.1, b4.2.1, b4.2.2)) else ((qAy.f f0 b4.2.1 b4.2.2 52).bind fun b6 => (some (q1, q2, q3, b5.1, b6.1, b6.2)))))) (q1, q2, q3, (decP []).1.map toS, p, e) := fun q1 q2 q3 p e he => by
  have hr : qAs.f f0 p e 16384 = some ([], p, e) := by unfold qAs.f; rw [if_pos he]
  simp only [hr, Option.bind_some, qCr [] (by intro x hx; cases hx)]
  have hz : (decP []).2 = 0 := rfl
  simp only [hz, if_true]
  exact Ev.now _
 have tail3 : ∀ (q1 : List Int) (q2 : Int) (p e : Int), e ≠ 0 → ∃ l, Ev (fun k => (qAr.f k f0 p e).bind fun b3 => ((qAs.f f0 b3.2.1 b3.2.2 16384).bind fun b4 => ((qAI.f b4.1).bind fun b5 => (if b5.2 = 0 then (some (q1, q2, b3.1, b5.1, b4.2.1, b4.2.2)) else ((qAy.f f0 b4.2.1 b4.2.2 52).bind fun b6 => (some (q1, q2, b3.1, b5.1, b6.1, b6.2))))))) (q1, q2, [], l, p, e) := fun q1 q2 p e he =>
  ⟨_, Ev.bind (kinds_badF f0 p e he) (tail4 q1 q2 [] p e he)⟩
 obtain ⟨v1, p1, e1, h1, s1⟩ := kinds_good f0 hb p hp
 unfold fnP
 cases hk1 : qBB (f0.drop p.toNat) with
 | none =>
  rw [hk1] at s1
  obtain ⟨l, hl⟩ := tail3 v1 (wrap64 0) p1 e1 s1
  refine ⟨v1, wrap64 0, [], l, p1, e1, Ev.congr hun (Ev.bind h1 ?_), s1⟩
  simp only [show qAg.f f0 p1 e1 = some (0, p1, e1) from by simp [qAg.f, show e1 ≠ 0 from s1], Option.bind_some]
  exact hl
 | some a1 =>
  obtain ⟨x1, r1⟩ := a1
  rw [hk1] at s1
  obtain ⟨rfl, rfl, g0, g1, rfl⟩ := s1
  simp only [Option.bind_some]
  obtain ⟨v2, p2, e2, h2, s2⟩ := qCq f0 hb p1 ⟨g0, g1⟩
  cases hk2 : qCm (f0.drop p1.toNat) with
  | none =>
   rw [hk2] at s2
   obtain ⟨l, hl⟩ := tail3 v1 (wrap64 v2) p2 e2 s2
   exact ⟨v1, wrap64 v2, [], l, p2, e2, Ev.congr hun (Ev.bind h1 (Ev.bind h2 hl)), s2⟩
  | some a2 =>
   obtain ⟨x2, r2⟩ := a2
   have hx2 := qBb (qBo hb _) hk2
   rw [hk2] at s2
   obtain ⟨rfl, rfl, g0, g1, rfl⟩ := s2
   simp only [Option.bind_some]
   obtain ⟨v3, p3, e3, h3, s3⟩ := kinds_good f0 hb p2 ⟨g0, g1⟩
   cases hk3 : qBB (f0.drop p2.toNat) with
   | none =>
    rw [hk3] at s3
    exact ⟨v1, wrap64 v2, v3, _, p3, e3, Ev.congr hun (Ev.bind h1 (Ev.bind h2 (Ev.bind h3 (tail4 _ _ _ p3 e3 s3)))), s3⟩
   | some a3 =>
    obtain ⟨x3, r3⟩ := a3
    rw [hk3] at s3
    obtain ⟨rfl, rfl, g0, g1, rfl⟩ := s3
    simp only [Option.bind_some]
    obtain ⟨v4, p4, e4, h4, s4⟩ := raw_good f0 hb 16384 (by decide) p3 ⟨g0, g1⟩
    cases hk4 : rawP 16384 (f0.drop p3.toNat) with
    | none =>
     rw [hk4] at s4
     have he : qCj (f0.drop p3.toNat) = none := by unfold qCj; rw [hk4]; rfl
     rw [he]
     have hv4 : v4 = [] := by
      obtain ⟨k, hk⟩ := h4.rounds
      exact raw_empty f0 16384 p3 _ _ _ hk s4
     subst hv4
     by_cases hz : (decP []).2 = 0
     rotate_left
     ·exact absurd rfl hz
     refine ⟨v1, wrap64 v2, v3, (decP []).1.map toS, p4, e4, Ev.congr hun (Ev.bind h1 (Ev.bind h2 (Ev.bind h3 (Ev.bind h4 ?_)))), s4⟩
     simp only [qCr [] (by intro x hx; cases hx), Option.bind_some, hz, if_true]
     exact Ev.now _
    | some a4 =>
     obtain ⟨x4, r4⟩ := a4
     have hb4 := rawP_bytes (qBo hb _) hk4
     rw [hk4] at s4
     obtain ⟨rfl, rfl, g0, g1, rfl⟩ := s4
     have he : qCj (f0.drop p3.toNat) = (if (decP v4).2 = 0 then some ((decP v4).1.map toS, f0.drop p4.toNat) else none) := by unfold qCj; rw [hk4]; rfl
     rw [he]
     by_cases hz : (decP v4).2 = 0
     ·rw [if_pos hz]
      refine ⟨v1, v2, v3, (decP v4).1.map toS, p4, 0, Ev.congr hun (Ev.bind h1 (Ev.bind h2 (Ev.bind h3 (Ev.bind h4 ?_)))), rfl, rfl, g0, g1, rfl⟩
      simp only [qCr v4 hb4, Option.bind_some, hz, if_true, qCb hx2]
      exact Ev.now _
     rw [if_neg hz]
     refine ⟨v1, v2, v3, (decP v4).1.map toS, p4, 52, Ev.congr hun (Ev.bind h1 (Ev.bind h2 (Ev.bind h3 (Ev.bind h4 ?_)))), (by show (52 : Int) ≠ 0; decide)⟩
     simp only [qCr v4 hb4, Option.bind_some, hz, if_false, qCb hx2, qAy.f, if_true]
     exact Ev.now _
theorem qD5 (p e : Int) (he : e ≠ 0) : qAg.f f0 p e = some (0, p, e) := by simp [qAg.f, he]
theorem short_err (p e : Int) (he : e ≠ 0) : qA3.f f0 p e = some (0, p, e) := by simp [qA3.f, he]
theorem long_err (p e : Int) (he : e ≠ 0) : qAB.f f0 p e = some (0, p, e) := by simp [qAB.f, he]
theorem int_err (p e : Int) (he : e ≠ 0) : qA2.f f0 p e = some (0, p, e) := by simp [qA2.f, he]
theorem raw_err (most p e : Int) (he : e ≠ 0) : qAs.f f0 p e most = some ([], p, e) := by unfold qAs.f; rw [if_pos he]
theorem qDa (most p e : Int) (he : e ≠ 0) : qAp.f f0 p e most = some (strOfNums [], p, e) := by unfold qAp.f; rw [raw_err f0 most p e he]; rfl
theorem done_err (p e : Int) (he : e ≠ 0) : qAA.f f0 p e = some (e, p, e) := by
 unfold qAA.f qAL.f qAv.f
 simp [he]
abbrev Res := ByteArray × List S71 × List S80 × List S82 × Int
def errP : Res := (⟨#[]⟩, [], [], [], 52)
def tailP (x0 : List Int) (o : Obj4) (k : Nat) : Option Res := (qA7.f o.1 o.2.1 o.2.2.1 o.2.2.2).bind fun b => (if b.2 = 0 then ((qAl.f k x0 b.1).bind fun t => (if t = true then some (o.1, o.2.1, o.2.2.1, o.2.2.2, 0) else some errP)) else some errP)
theorem j6_bad (x0 : List Int) (n p e : Int) (he : e ≠ 0) (m : ByteArray) (vs : List S71) (fs : List S80) (acc : List S82) : Ev (fun k => qAa.j6 k x0 n false f0 p e m vs fs acc) errP := by
 refine Ev.step (f := fun _ => some errP) (fun k => ?_) (Ev.now _)
 simp only [qAa.j6]
 rw [if_neg (by decide), done_err f0 p e he]
 simp only [Option.bind_some]
 rw [if_neg he]; rfl
theorem l3_bad (x0 : List Int) (n p e : Int) (he : e ≠ 0) (m : ByteArray) (vs : List S71) (fs : List S80) (acc : List S82) : Ev (fun k => qAa.l3 k x0 n f0 p e m vs fs acc) errP := by
 refine Ev.step (fun k => ?_) (j6_bad f0 x0 n p e he m vs fs acc)
 simp only [qAa.l3, qAv.f, Option.bind_some, beq_eq_false_iff_ne.mpr he, ite_self]
theorem j4_bad (x0 : List Int) (n p e : Int) (he : e ≠ 0) (m : ByteArray) (vs : List S71) (fs : List S80) : Ev (fun k => qAa.j4 k x0 n false f0 p e m vs fs) errP := by
 refine Ev.step (fun k => ?_) (l3_bad f0 x0 0 p e he m vs fs [])
 simp only [qAa.j4]
 rw [if_neg (by decide), int_err f0 p e he]; rfl
theorem l2_bad (x0 : List Int) (n p e : Int) (he : e ≠ 0) (m : ByteArray) (vs : List S71) (fs : List S80) : Ev (fun k => qAa.l2 k x0 n f0 p e m vs fs) errP := by
 refine Ev.step (fun k => ?_) (j4_bad f0 x0 n p e he m vs fs)
 simp only [qAa.l2, qAv.f, Option.bind_some, beq_eq_false_iff_ne.mpr he, ite_self]
theorem j2_bad (x0 : List Int) (n p e : Int) (he : e ≠ 0) (m : ByteArray) (vs : List S71) : Ev (fun k => qAa.j2 k x0 n false f0 p e m vs) errP := by
 refine Ev.step (fun k => ?_) (l2_bad f0 x0 0 p e he m vs [])
 simp only [qAa.j2]
 rw [if_neg (by decide), int_err f0 p e he]; rfl
theorem l1_bad (x0 : List Int) (n p e : Int) (he : e ≠ 0) (m : ByteArray) (vs : List S71) : Ev (fun k => qAa.l1 k x0 n f0 p e m vs) errP := by
 refine Ev.step (fun k => ?_) (j2_bad f0 x0 n p e he m vs)
 simp only [qAa.l1, qAv.f, Option.bind_some, beq_eq_false_iff_ne.mpr he, ite_self]
theorem done_end (p : Int) (hp : Pl f0 p) (h : f0.drop p.toNat = []) : qAA.f f0 p 0 = some (0, p, 0) := by
 have h1 := hp.1; have h2 := hp.2
 have h3 := congrArg List.length h
 rw [List.length_drop] at h3
 simp only [List.length_nil] at h3
 unfold qAA.f qAL.f qAv.f
 simp only [Option.bind_some, if_true]
 rw [if_neg (by omega)]
theorem done_more (p : Int) (hp : Pl f0 p) (h : f0.drop p.toNat ≠ []) : qAA.f f0 p 0 = some (41, p, 0) := by
 have h1 := hp.1; have h2 := hp.2
 have h3 : 0 < (f0.drop p.toNat).length := List.length_pos_iff.2 h
 rw [List.length_drop] at h3
 unfold qAA.f qAL.f qAv.f
 simp only [Option.bind_some, if_true]
 rw [if_pos (by omega)]
theorem l3_good (hb : qAM f0) (x0 : List Int) (m : ByteArray) (vs : List S71) (fs : List S80) (R : Res) : ∀ (n : Nat) (p : Int) (acc : List S82), Pl f0 p → acc.length + n ≤ 2147483647 → Fin (tailP x0) errP (qD2 n m vs fs acc (f0.drop p.toNat)) R →
  Ev (fun k => qAa.l3 k x0 (n : Int) f0 p 0 m vs fs acc) R := by
 intro n
 induction n with
 | zero =>
  intro p acc hp hn hF
  refine Ev.step (f := fun k => qAa.j6 k x0 0 false f0 p 0 m vs fs acc) (fun k => ?_) ?_
  ·simp only [qAa.l3]; rw [if_neg (by decide)]; rfl
  simp only [qD2, endO] at hF
  by_cases hr : f0.drop p.toNat = []
  ·rw [if_pos hr] at hF
   refine Ev.step (f := tailP x0 (m, vs, fs, acc)) (fun k => ?_) (hF.yes _ rfl)
   simp only [qAa.j6]
   rw [if_neg (by decide), done_end f0 p hp hr]; rfl
  rw [if_neg hr] at hF
  rw [hF.no rfl]
  refine Ev.step (f := fun _ => some errP) (fun k => ?_) (Ev.now _)
  simp only [qAa.j6]
  rw [if_neg (by decide), done_more f0 p hp hr]; rfl
 | succ n ih =>
  intro p acc hp hn hF
  simp only [qD2, relP, Option.bind_assoc, Option.bind_some] at hF
  have hw : wrap64 (((n + 1 : Nat) : Int) - 1) = (n : Int) := by unfold wrap64; omega
  have hlen : acc.length < 2513169434916 := by omega
  refine Ev.step (f := fun k => qAa.j6 k x0 ((n + 1 : Nat) : Int) true f0 p 0 m vs fs acc) (fun k => ?_) (Ev.step (f := fun k => (qA3.f f0 p 0).bind fun b1 => ((qA3.f f0 b1.2.1 b1.2.2).bind fun b2 => ((qAg.f f0 b2.2.1 b2.2.2).bind fun b3 => ((qAp.f f0 b3.2.1 b3.2.2 32).bind fun b4 => ((qAp.f f0 b4.2.1 b4.2.2 32).bind fun b5 => qAa.l3 k x0 (n : Int) f0 b5.2.1 b5.2.2 m vs fs (acc ++ [⟨b1.1, b2.1, wrap64 b3.1, b4.1, b5.1⟩])))))) (fun k => ?_) ?_)
  ·simp only [qAa.l3, qAv.f, Option.bind_some]; rw [if_pos (by omega)]; rfl
  ·simp only [qAa.j6, if_true, hw]
   simp only [hlen, if_true]
  have bad : ∀ (x : List S82) (p e : Int), e ≠ 0 → R = errP → Ev (fun k => qAa.l3 k x0 (n : Int) f0 p e m vs fs x) R := fun x p e he hR => hR ▸ l3_bad f0 x0 n p e he m vs fs x
  refine Rd.fin (short_good f0 hb p hp) hF (fun x1 p1 hp1 hs1 hF1 => ?_) (fun x1 p1 e he hR => ?_)
  ·refine Rd.fin (short_good f0 hb p1 hp1) hF1 (fun x2 p2 hp2 hs2 hF2 => ?_) (fun x2 p2 e he hR => ?_)
   ·refine Rd.fin (qCq f0 hb p2 hp2) hF2 (fun x3 p3 hp3 hs3 hF3 => ?_) (fun x3 p3 e he hR => ?_)
    ·refine Rd.fin (qC2 f0 hb 32 (by decide) p3 hp3) hF3 (fun x4 p4 hp4 hs4 hF4 => ?_) (fun x4 p4 e he hR => ?_)
     ·refine Rd.fin (qC2 f0 hb 32 (by decide) p4 hp4) hF4 (fun x5 p5 hp5 hs5 hF5 => ?_) (fun x5 p5 e he hR => ?_)
      ·simp only [qCb (qBb (qBo hb _) hs3)]
       exact ih p5 _ hp5 (by simp; omega) hF5
      exact bad _ _ _ he hR
     simp only [qDa f0 _ _ _ he, Option.bind_some]; exact bad _ _ _ he hR
    simp only [qDa f0 _ _ _ he, Option.bind_some]; exact bad _ _ _ he hR
   simp only [qD5 f0 _ _ he, qDa f0 _ _ _ he, Option.bind_some]; exact bad _ _ _ he hR
  simp only [short_err f0 _ _ he, qD5 f0 _ _ he, qDa f0 _ _ _ he, Option.bind_some]; exact bad _ _ _ he hR
theorem RdF.fin {σ γ : Type} {g : Nat → Option (List Int × Int × List Int × List S115 × Int × Int)} {s : Option (Fn4 × List Int)} {h : Nat → List Int × Int × List Int × List S115 × Int × Int → Option γ} {t : Fn4 × List Int → Option σ} {tail : σ → Nat → Option γ} {err R : γ} (hg : RdF f0 g s) (hF : Fin tail err (s.bind t) R)
  (good : ∀ a b c d p, Pl f0 p → s = some ((a, b, c, d), f0.drop p.toNat) → Fin tail err (t ((a, b, c, d), f0.drop p.toNat)) R → Ev (fun k => h k (a, b, c, d, p, 0)) R) (bad : ∀ a b c d p e, e ≠ 0 → R = err → Ev (fun k => h k (a, b, c, d, p, e)) R) : Ev (fun k => (g k).bind (h k)) R := by
 obtain ⟨a, b, c, d, p, e, hv, hs⟩ := hg
 cases s with
 | none => exact Ev.bind hv (bad a b c d p e hs (hF.no rfl))
 | some x =>
  obtain ⟨x, r⟩ := x
  obtain ⟨rfl, rfl, h0, h1, rfl⟩ := hs
  exact Ev.bind hv (good a b c d p ⟨h0, h1⟩ rfl ⟨fun o ho => hF.yes o ho, fun hn => hF.no hn⟩)
theorem l2_good (hb : qAM f0) (x0 : List Int) (m : ByteArray) (vs : List S71) (R : Res) : ∀ (n : Nat) (p : Int) (acc : List S80), Pl f0 p → acc.length + n ≤ 2147483647 → Fin (tailP x0) errP (fnsC n m vs acc (f0.drop p.toNat)) R →
  Ev (fun k => qAa.l2 k x0 (n : Int) f0 p 0 m vs acc) R := by
 intro n
 induction n with
 | zero =>
  intro p acc hp hn hF
  refine Ev.step (f := fun k => qAa.j4 k x0 0 false f0 p 0 m vs acc) (fun k => ?_) (Ev.step (f := fun k => (qA2.f f0 p 0).bind fun b => qAa.l3 k x0 b.1 f0 b.2.1 b.2.2 m vs acc []) (fun k => ?_) ?_)
  ·simp only [qAa.l2]; rw [if_neg (by decide)]; rfl
  ·simp only [qAa.j4]; rw [if_neg (by decide)]
  simp only [fnsC, relsI] at hF
  refine Rd.fin (int_good f0 hb p hp) hF (fun x1 p1 hp1 hs1 hF1 => ?_) (fun x1 p1 e he hR => ?_)
  ·have hx := qB6 _ (qBo hb _) _ hs1
   obtain ⟨q, rfl⟩ := Int.eq_ofNat_of_zero_le hx.1
   exact l3_good f0 hb x0 m vs acc R q p1 [] hp1 (by have := hx.2; simp only at this; simp; omega) hF1
  exact hR ▸ l3_bad f0 x0 x1 p1 e he m vs acc []
 | succ n ih =>
  intro p acc hp hn hF
  simp only [fnsC, nfnP, Option.bind_assoc, Option.bind_some] at hF
  have hw : wrap64 (((n + 1 : Nat) : Int) - 1) = (n : Int) := by unfold wrap64; omega
  have hlen : acc.length < 1466015503701 := by omega
  refine Ev.step (f := fun k => qAa.j4 k x0 ((n + 1 : Nat) : Int) true f0 p 0 m vs acc) (fun k => ?_) (Ev.step (f := fun k => (qAp.f f0 p 0 32).bind fun b1 => ((qAU.f k f0 b1.2.1 b1.2.2).bind fun b2 => qAa.l2 k x0 (n : Int) f0 b2.2.2.2.2.1 b2.2.2.2.2.2 m vs (acc ++ [⟨b1.1, ⟨⟨b2.1, b2.2.1⟩, b2.2.2.1, b2.2.2.2.1⟩⟩]))) (fun k => ?_) ?_)
  ·simp only [qAa.l2, qAv.f, Option.bind_some]; rw [if_pos (by omega)]; rfl
  ·simp only [qAa.j4, if_true, hw]
   simp only [hlen, if_true]
  have bad : ∀ (x : List S80) (p e : Int), e ≠ 0 → R = errP → Ev (fun k => qAa.l2 k x0 (n : Int) f0 p e m vs x) R := fun x p e he hR => hR ▸ l2_bad f0 x0 n p e he m vs x
  refine Rd.fin (qC2 f0 hb 32 (by decide) p hp) hF (fun x1 p1 hp1 hs1 hF1 => ?_) (fun x1 p1 e he hR => ?_)
  ·refine RdF.fin f0 (readFn_good f0 hb p1 hp1) hF1 (fun a b c d p2 hp2 hs2 hF2 => ?_) (fun a b c d p2 e he hR => ?_)
   ·exact ih p2 _ hp2 (by simp; omega) hF2
   exact bad _ _ _ he hR
  obtain ⟨a, b, c, d, hrf⟩ := readFn_bad f0 p1 e he
  exact Ev.bind hrf (bad _ _ _ he hR)
theorem l1_good (hb : qAM f0) (x0 : List Int) (m : ByteArray) (R : Res) : ∀ (n : Nat) (p : Int) (acc : List S71), Pl f0 p → acc.length + n ≤ 2147483647 → Fin (tailP x0) errP (qDp n m acc (f0.drop p.toNat)) R →
  Ev (fun k => qAa.l1 k x0 (n : Int) f0 p 0 m acc) R := by
 intro n
 induction n with
 | zero =>
  intro p acc hp hn hF
  refine Ev.step (f := fun k => qAa.j2 k x0 0 false f0 p 0 m acc) (fun k => ?_) (Ev.step (f := fun k => (qA2.f f0 p 0).bind fun b => qAa.l2 k x0 b.1 f0 b.2.1 b.2.2 m acc []) (fun k => ?_) ?_)
  ·simp only [qAa.l1]; rw [if_neg (by decide)]; rfl
  ·simp only [qAa.j2]; rw [if_neg (by decide)]
  simp only [qDp, fnsI] at hF
  refine Rd.fin (int_good f0 hb p hp) hF (fun x1 p1 hp1 hs1 hF1 => ?_) (fun x1 p1 e he hR => ?_)
  ·have hx := qB6 _ (qBo hb _) _ hs1
   obtain ⟨q, rfl⟩ := Int.eq_ofNat_of_zero_le hx.1
   exact l2_good f0 hb x0 m acc R q p1 [] hp1 (by have := hx.2; simp only at this; simp; omega) hF1
  exact hR ▸ l2_bad f0 x0 x1 p1 e he m acc []
 | succ n ih =>
  intro p acc hp hn hF
  simp only [qDp, varP, Option.bind_assoc, Option.bind_some] at hF
  have hw : wrap64 (((n + 1 : Nat) : Int) - 1) = (n : Int) := by unfold wrap64; omega
  have hlen : acc.length < 4398046511104 := by omega
  refine Ev.step (f := fun k => qAa.j2 k x0 ((n + 1 : Nat) : Int) true f0 p 0 m acc) (fun k => ?_) (Ev.step (f := fun k => (qAp.f f0 p 0 32).bind fun b1 => ((qAg.f f0 b1.2.1 b1.2.2).bind fun b2 => ((qAB.f f0 b2.2.1 b2.2.2).bind fun b3 => qAa.l1 k x0 (n : Int) f0 b3.2.1 b3.2.2 m (acc ++ [⟨b1.1, ⟨wrap64 b2.1, b3.1⟩⟩])))) (fun k => ?_) ?_)
  ·simp only [qAa.l1, qAv.f, Option.bind_some]; rw [if_pos (by omega)]; rfl
  ·simp only [qAa.j2, if_true, hw]
   simp only [hlen, if_true]
  have bad : ∀ (x : List S71) (p e : Int), e ≠ 0 → R = errP → Ev (fun k => qAa.l1 k x0 (n : Int) f0 p e m x) R := fun x p e he hR => hR ▸ l1_bad f0 x0 n p e he m x
  refine Rd.fin (qC2 f0 hb 32 (by decide) p hp) hF (fun x1 p1 hp1 hs1 hF1 => ?_) (fun x1 p1 e he hR => ?_)
  ·refine Rd.fin (qCq f0 hb p1 hp1) hF1 (fun x2 p2 hp2 hs2 hF2 => ?_) (fun x2 p2 e he hR => ?_)
   ·refine Rd.fin (long_good f0 hb p2 hp2) hF2 (fun x3 p3 hp3 hs3 hF3 => ?_) (fun x3 p3 e he hR => ?_)
    ·simp only [qCb (qBb (qBo hb _) hs2)]
     exact ih p3 _ hp3 (by simp; omega) hF3
    exact bad _ _ _ he hR
   simp only [long_err f0 _ _ he, Option.bind_some]; exact bad _ _ _ he hR
  simp only [qD5 f0 _ _ he, long_err f0 _ _ he, Option.bind_some]; exact bad _ _ _ he hR
def MK : List Int := [102, 111, 98, 106]
theorem mk_rd (i : Int) (h0 : 0 ≤ i) (h : i < 4) : rd MK i ≠ 0 ∧ rd MK i = MK.getD i.toNat 0 := by
 refine ⟨?_, rfl⟩
 have hc : i = 0 ∨ i = 1 ∨ i = 2 ∨ i = 3 := by omega
 rcases hc with rfl | rfl | rfl | rfl <;> decide
theorem l0_bad (x0 : List Int) (p e : Int) (he : e ≠ 0) : ∀ (d : Nat) (i : Int), 0 ≤ i → 4 - i = d → Ev (fun k => qAa.l0 k x0 MK 4 i f0 p e) errP := by
 intro d
 induction d with
 | zero =>
  intro i h0 hd
  refine Ev.step (fun k => ?_) (l1_bad f0 x0 0 p e he (strOfNums []) [])
  simp only [qAa.l0]
  rw [if_neg (by omega), qDa f0 32 p e he]
  simp only [Option.bind_some, int_err f0 p e he]
 | succ d ih =>
  intro i h0 hd
  refine Ev.step (fun k => ?_) (ih (i + 1) (by omega) (by omega))
  simp only [qAa.l0]
  rw [if_pos (by omega), if_pos h0, if_pos (by show i < 4; omega), qD5 f0 p e he]
  simp only [Option.bind_some]
  rw [if_neg (fun hh => (mk_rd i h0 (by omega)).1 hh.symm), show wrap64 (i + 1) = i + 1 from by unfold wrap64; omega]
  simp only [qAy.f, if_neg he, Option.bind_some]
theorem l0_good (hb : qAM f0) (x0 : List Int) (R : Res) : ∀ (d : Nat) (i : Int), 0 ≤ i → 4 - i = d → i ≤ f0.length → Fin (tailP x0) errP (if (f0.drop i.toNat).take d = MK.drop i.toNat then objC (f0.drop 4) else none) R →
  Ev (fun k => qAa.l0 k x0 MK 4 i f0 i 0) R := by
 intro d
 induction d with
 | zero =>
  intro i h0 hd hl hF
  have hi : i = 4 := by omega
  subst hi
  rw [if_pos (by rfl)] at hF
  have hp : Pl f0 4 := ⟨by omega, hl⟩
  refine Ev.step (f := fun k => (qAp.f f0 4 0 32).bind fun b1 => ((qA2.f f0 b1.2.1 b1.2.2).bind fun b2 => qAa.l1 k x0 b2.1 f0 b2.2.1 b2.2.2 b1.1 [])) (fun k => ?_) ?_
  ·simp only [qAa.l0]; rw [if_neg (by omega)]
  unfold objC at hF
  refine Rd.fin (qC2 f0 hb 32 (by decide) 4 hp) hF (fun x1 p1 hp1 hs1 hF1 => ?_) (fun x1 p1 e he hR => ?_)
  ·refine Rd.fin (int_good f0 hb p1 hp1) hF1 (fun x2 p2 hp2 hs2 hF2 => ?_) (fun x2 p2 e he hR => ?_)
   ·have hx := qB6 _ (qBo hb _) _ hs2
    obtain ⟨q, rfl⟩ := Int.eq_ofNat_of_zero_le hx.1
    exact l1_good f0 hb x0 x1 R q p2 [] hp2 (by have := hx.2; simp only at this; simp; omega) hF2
   exact hR ▸ l1_bad f0 x0 x2 p2 e he x1 []
  simp only [int_err f0 _ _ he, Option.bind_some]
  exact hR ▸ l1_bad f0 x0 0 p1 e he x1 []
 | succ d ih =>
  intro i h0 hd hl hF
  have hi4 : i < 4 := by omega
  obtain ⟨m1, m2⟩ := mk_rd i h0 hi4
  have hmk := drop_cons' MK 0 i h0 (by show i < 4; omega)
  rw [← m2] at hmk
  have hw : wrap64 (i + 1) = i + 1 := by unfold wrap64; omega
  by_cases hlt : i < f0.length
  rotate_left
  ·have hnil : f0.drop i.toNat = [] := List.drop_eq_nil_of_le (by omega)
   rw [hnil, hmk] at hF
   rw [if_neg (by simp)] at hF
   rw [hF.no rfl]
   refine Ev.step (fun k => ?_) (l0_bad f0 x0 i 40 (by decide) d (i + 1) (by omega) (by omega))
   simp only [qAa.l0]
   rw [if_pos hi4, if_pos h0, if_pos (by show i < 4; omega), show qAg.f f0 i 0 = some (0, i, 40) from by simp [qAg.f, hlt]]
   simp only [Option.bind_some]
   rw [if_neg (fun hh => m1 hh.symm), hw]
   simp only [qAy.f, Option.bind_some]; rfl
  have hc := drop_cons' f0 0 i h0 hlt
  rw [hc, hmk, List.take_succ_cons] at hF
  have hby : qAg.f f0 i 0 = some (f0.getD i.toNat 0, i + 1, 0) := by simp [qAg.f, hlt]
  by_cases he : f0.getD i.toNat 0 = rd MK i
  ·refine Ev.step (fun k => ?_) (ih (i + 1) (by omega) (by omega) (by omega) ?_)
   ·simp only [qAa.l0]
    rw [if_pos hi4, if_pos h0, if_pos (by show i < 4; omega), hby]
    simp only [Option.bind_some]
    rw [if_pos he, hw]
   rw [he] at hF
   simpa using hF
  have hne : ¬ (f0.getD i.toNat 0 :: (f0.drop (i + 1).toNat).take d = rd MK i :: MK.drop (i + 1).toNat) := fun hh => he (List.cons.inj hh).1
  rw [if_neg hne] at hF
  rw [hF.no rfl]
  refine Ev.step (fun k => ?_) (l0_bad f0 x0 (i + 1) 52 (by decide) d (i + 1) (by omega) (by omega))
  simp only [qAa.l0]
  rw [if_pos hi4, if_pos h0, if_pos (by show i < 4; omega), hby]
  simp only [Option.bind_some]
  rw [if_neg he, hw]
  simp only [qAy.f, if_true, Option.bind_some]
def qBZ (b : List Int) : Option Obj4 := if b.take 4 = MK then objC (b.drop 4) else none
theorem qEa (hb : qAM f0) (R : Res) (h4 : ¬ 16384 < f0.length) (hF : Fin (tailP f0) errP (qBZ f0) R) : Ev (fun k => qAa.f k f0) R := by
 refine Ev.congr (f := fun k => qAa.l0 k f0 MK 4 0 f0 0 0) (fun k => ?_) (l0_good f0 hb f0 R 4 0 (by omega) (by omega) (by omega) hF)
 unfold qAa.f qBI.f
 rw [if_neg (by omega), if_pos (by omega)]; rfl
theorem unpack_big (h4 : 16384 < f0.length) : Ev (fun k => qAa.f k f0) ((⟨#[]⟩, [], [], [], 3) : Res) := by
 refine Ev.congr (f := fun _ => some ((⟨#[]⟩, [], [], [], 3) : Res)) (fun k => ?_) (Ev.now _)
 unfold qAa.f
 rw [if_pos (by omega)]
end
end Q
end
section
namespace Q
open Go.RowKit PA PB PC
open DecLaw Wr Enc Val
theorem qCL {r : List Int} {a : Int × List Int} (h : qCm r = some a) : r = [a.1] ++ a.2 := by
 cases r with
 | nil => cases h
 | cons x r => obtain rfl := Option.some.inj h; rfl
theorem numP_eq {m : Nat} {r : List Int} (hb : qAM r) {a : Int × List Int} (h : numP m r = some a) : r = be a.1 m m ++ a.2 := by
 unfold numP at h
 split at h
 ·rename_i hl
  obtain rfl := Option.some.inj h
  rw [qDC m _ (by rw [List.length_take]; omega) (qBQ hb m), List.take_append_drop]
 cases h
theorem intP_wr {r : List Int} (hb : qAM r) {a : Int × List Int} (h : intP r = some a) : r = be a.1 4 4 ++ a.2 := by
 rw [intP_eq] at h
 cases hn : numP 4 r with
 | none => rw [hn] at h; cases h
 | some b =>
  rw [hn] at h
  simp only [Option.bind_some] at h
  split at h
  ·obtain rfl := Option.some.inj h; exact numP_eq hb hn
  cases h
theorem qAN {r a b : List Int} (hb : qAM r) (h : r = a ++ b) : qAM b := fun x hx => hb x (by rw [h]; exact List.mem_append_right _ hx)
theorem rawP_wr {most : Int} {r : List Int} (hb : qAM r) {a : List Int × List Int} (h : rawP most r = some a) : r = rawB a.1 ++ a.2 ∧ (a.1.length : Int) ≤ most := by
 unfold rawP at h
 cases hi : intP r with
 | none => rw [hi] at h; cases h
 | some b =>
  rw [hi] at h
  simp only [Option.bind_some] at h
  split at h
  ·rename_i hq
   obtain rfl := Option.some.inj h
   have hn := qB6 r hb b hi
   have hw := intP_wr hb hi
   have hlen : (b.2.take b.1.toNat).length = b.1.toNat := by rw [List.length_take]; omega
   refine ⟨?_, by simp only; rw [hlen]; omega⟩
   unfold rawB
   simp only
   rw [hlen, show ((b.1.toNat : Nat) : Int) = b.1 from by omega, List.append_assoc, List.take_append_drop]
   exact hw
  cases h
theorem bytesI_strOf (l : List Int) (hb : qAM l) : qBv (strOfNums l) = l := by
 unfold qBv
 rw [strOfNums_data, List.map_map]
 conv => rhs; rw [← List.map_id l]
 refine List.map_congr_left fun x hx => ?_
 have := hb x hx
 simp only [Function.comp, id]
 rw [UInt8.toNat_ofNat']
 omega
theorem qCY {most : Int} {r : List Int} (hb : qAM r) {a : ByteArray × List Int} (h : qBS most r = some a) : r = rawB (qBv a.1) ++ a.2 ∧ (a.1.size : Int) ≤ most := by
 unfold qBS at h
 cases hr : rawP most r with
 | none => rw [hr] at h; cases h
 | some b =>
  rw [hr] at h
  simp only [Option.map_some, Option.some.injEq] at h
  subst h
  obtain ⟨h1, h2⟩ := rawP_wr hb hr
  have hbb := rawP_bytes hb hr
  simp only
  rw [bytesI_strOf _ hbb, strOfNums_size]
  exact ⟨h1, h2⟩
theorem bytesP_wr : ∀ (n : Nat) (acc : List Int) (r : List Int) (a : List Int × List Int), qAM r → qCh n acc r = some a → ∃ l, a.1 = acc ++ l ∧ l.length = n ∧ qAM l ∧ r = l ++ a.2
 | 0, acc, r, a, hb, h => by
  simp only [qCh, Option.some.injEq] at h
  subst h
  exact ⟨[], by simp, rfl, (fun y hy => by cases hy), rfl⟩
 | n + 1, acc, r, a, hb, h => by
  simp only [qCh] at h
  cases hx : qCm r with
  | none => rw [hx] at h; cases h
  | some b =>
   rw [hx] at h
   simp only [Option.bind_some] at h
   have e := qCL hx
   obtain ⟨l, h1, h2, h3, h4⟩ := bytesP_wr n _ _ a (qAN hb e) h
   refine ⟨b.1 :: l, by rw [h1]; simp, by simp [h2], fun y hy => ?_, by rw [e, h4]; rfl⟩
   rcases List.mem_cons.1 hy with e2 | hy
   ·rw [e2]; exact qBb hb hx
   exact h3 y hy
theorem byB_id {l : List Int} (hb : qAM l) : byB l = l := by
 unfold byB
 conv => rhs; rw [← List.map_id l]
 exact List.map_congr_left fun x hx => by have := hb x hx; simp only [id]; omega
theorem kindsP_wr {r : List Int} (hb : qAM r) {a : List Int × List Int} (h : qBB r = some a) : r = ([(a.1.length : Int) % 256] ++ byB a.1) ++ a.2 ∧ a.1.length ≤ 255 := by
 unfold qBB at h
 cases hx : qCm r with
 | none => rw [hx] at h; cases h
 | some b =>
  rw [hx] at h
  simp only [Option.bind_some] at h
  have e := qCL hx
  have hbd := qBb hb hx
  obtain ⟨l, h1, h2, h3, h4⟩ := bytesP_wr b.1.toNat [] _ a (qAN hb e) h
  rw [List.nil_append] at h1
  rw [h1, byB_id h3, h2]
  refine ⟨?_, by omega⟩
  rw [show (((b.1.toNat : Nat) : Int)) % 256 = b.1 from by omega, List.append_assoc, ← h4]
  exact e
theorem map_toD_toS (l : List InsD) : (l.map toS).map toD = l := by
 rw [List.map_map]
 conv => rhs; rw [← List.map_id l]
 exact List.map_congr_left fun x _ => rfl
theorem decP_ok {c : List Int} (h : (decP c).2 = 0) : DecOk c (decP c).1 := by
 unfold decP at h ⊢
 rcases decL_spec c (c.length + 1) [] c (by omega) (by simp) (by simp) (by simp [encB]) with ⟨m, hm, hok⟩ | ⟨hm, _⟩ | ⟨hm, _⟩
 ·rw [hm]; exact hok
 ·rw [hm] at h; cases h
 rw [hm] at h; cases h
theorem codeP_wr {r : List Int} (hb : qAM r) {a : List S115 × List Int} (h : qCj r = some a) : r = rawB (encB (a.1.map toD)) ++ a.2 ∧ a.1.length ≤ 4096 ∧ a.1.all u64S = true := by
 unfold qCj at h
 cases hr : rawP 16384 r with
 | none => rw [hr] at h; cases h
 | some b =>
  rw [hr] at h
  simp only [Option.bind_some] at h
  split at h
  ·rename_i hz
   obtain rfl := Option.some.inj h
   obtain ⟨h1, h2, h3⟩ := decP_ok hz
   have e : ((decP b.1).1.map toS).map toD = (decP b.1).1 := map_toD_toS _
   refine ⟨?_, by simpa using h2, List.all_eq_true.2 fun x hx => ?_⟩
   ·simp only; rw [e, ← h3]; exact (rawP_wr hb hr).1
   obtain ⟨y, hy, rfl⟩ := List.mem_map.1 hx
   exact decide_eq_true ((h1 y hy).2)
  cases h
theorem fnP_wr {r : List Int} (hb : qAM r) {a : Fn4 × List Int} (h : fnP r = some a) : r = fnB a.1.1 a.1.2.1 a.1.2.2.1 a.1.2.2.2 ++ a.2 ∧ a.1.1.length ≤ 255 ∧ a.1.2.2.1.length ≤ 255 ∧ a.1.2.2.2.length ≤ 4096 ∧ a.1.2.2.2.all u64S = true := by
 unfold fnP at h
 cases h1 : qBB r with
 | none => rw [h1] at h; cases h
 | some b1 =>
  rw [h1] at h; simp only [Option.bind_some] at h
  obtain ⟨e1, l1⟩ := kindsP_wr hb h1
  have hb1 := qAN hb e1
  cases h2 : qCm b1.2 with
  | none => rw [h2] at h; cases h
  | some b2 =>
   rw [h2] at h; simp only [Option.bind_some] at h
   have e2 := qCL h2
   have hx2 := qBb hb1 h2
   have hb2 := qAN hb1 e2
   cases h3 : qBB b2.2 with
   | none => rw [h3] at h; cases h
   | some b3 =>
    rw [h3] at h; simp only [Option.bind_some] at h
    obtain ⟨e3, l3⟩ := kindsP_wr hb2 h3
    have hb3 := qAN hb2 e3
    cases h4 : qCj b3.2 with
    | none => rw [h4] at h; cases h
    | some b4 =>
     rw [h4] at h; simp only [Option.bind_some, Option.some.injEq] at h
     subst h
     obtain ⟨e4, l4, u4⟩ := codeP_wr hb3 h4
     refine ⟨?_, l1, l3, l4, u4⟩
     unfold fnB
     simp only
     rw [show b2.1 % 256 = b2.1 from by omega]
     rw [e1, e2, e3, e4]
     simp only [List.append_assoc, List.cons_append, List.nil_append]
theorem varP_wr {r : List Int} (hb : qAM r) {a : S71 × List Int} (h : varP r = some a) : r = varB a.1 ++ a.2 ∧ (qBi a.1.f0 ∧ 0 ≤ a.1.f1.f1 ∧ a.1.f1.f1 < 18446744073709551616) := by
 unfold varP at h
 cases h1 : qBS 32 r with
 | none => rw [h1] at h; cases h
 | some b1 =>
  rw [h1] at h; simp only [Option.bind_some] at h
  obtain ⟨e1, l1⟩ := qCY hb h1
  have hb1 := qAN hb e1
  cases h2 : qCm b1.2 with
  | none => rw [h2] at h; cases h
  | some b2 =>
   rw [h2] at h; simp only [Option.bind_some] at h
   have e2 := qCL h2
   have hx2 := qBb hb1 h2
   have hb2 := qAN hb1 e2
   cases h3 : numP 8 b2.2 with
   | none => rw [h3] at h; cases h
   | some b3 =>
    rw [h3] at h; simp only [Option.bind_some, Option.some.injEq] at h
    subst h
    have e3 := numP_eq hb2 h3
    have hx3 := numP_bound 8 _ hb2 _ h3
    have e8 : (256 : Int) ^ 8 = 18446744073709551616 := by decide
    refine ⟨?_, by unfold qBi; simp only; omega, hx3.1, by rw [e8] at hx3; exact hx3.2⟩
    unfold varB
    simp only
    rw [show b2.1 % 256 = b2.1 from by omega]
    rw [e1, e2, e3]
    simp only [List.append_assoc, List.cons_append, List.nil_append]
theorem nfnP_wr {r : List Int} (hb : qAM r) {a : S80 × List Int} (h : nfnP r = some a) : r = nfnB a.1 ++ a.2 ∧ (qBi a.1.f0 ∧ a.1.f1.f0.f0.length ≤ 4611686018427387904 ∧ a.1.f1.f1.length ≤ 4611686018427387904 ∧ a.1.f1.f2.length ≤ 4611686018427387904 ∧ a.1.f1.f2.all u64S = true) := by
 unfold nfnP at h
 cases h1 : qBS 32 r with
 | none => rw [h1] at h; cases h
 | some b1 =>
  rw [h1] at h; simp only [Option.bind_some] at h
  obtain ⟨e1, l1⟩ := qCY hb h1
  have hb1 := qAN hb e1
  cases h2 : fnP b1.2 with
  | none => rw [h2] at h; cases h
  | some b2 =>
   rw [h2] at h; simp only [Option.bind_some, Option.some.injEq] at h
   subst h
   obtain ⟨e2, g1, g2, g3, g4⟩ := fnP_wr hb1 h2
   refine ⟨?_, by unfold qBi; simp only; omega, by simp only; omega, by simp only; omega, by simp only; omega, g4⟩
   unfold nfnB
   simp only
   rw [List.append_assoc, ← e2]; exact e1
theorem relP_wr {r : List Int} (hb : qAM r) {a : S82 × List Int} (h : relP r = some a) : r = relB a.1 ++ a.2 ∧ (qBi a.1.f3 ∧ qBi a.1.f4) := by
 unfold relP at h
 cases h1 : numP 2 r with
 | none => rw [h1] at h; cases h
 | some b1 =>
  rw [h1] at h; simp only [Option.bind_some] at h
  have e1 := numP_eq hb h1
  have hb1 := qAN hb e1
  cases h2 : numP 2 b1.2 with
  | none => rw [h2] at h; cases h
  | some b2 =>
   rw [h2] at h; simp only [Option.bind_some] at h
   have e2 := numP_eq hb1 h2
   have hb2 := qAN hb1 e2
   cases h3 : qCm b2.2 with
   | none => rw [h3] at h; cases h
   | some b3 =>
    rw [h3] at h; simp only [Option.bind_some] at h
    have e3 := qCL h3
    have hx3 := qBb hb2 h3
    have hb3 := qAN hb2 e3
    cases h4 : qBS 32 b3.2 with
    | none => rw [h4] at h; cases h
    | some b4 =>
     rw [h4] at h; simp only [Option.bind_some] at h
     obtain ⟨e4, l4⟩ := qCY hb3 h4
     have hb4 := qAN hb3 e4
     cases h5 : qBS 32 b4.2 with
     | none => rw [h5] at h; cases h
     | some b5 =>
      rw [h5] at h; simp only [Option.bind_some, Option.some.injEq] at h
      subst h
      obtain ⟨e5, l5⟩ := qCY hb4 h5
      refine ⟨?_, by unfold qBi; simp only; omega, by unfold qBi; simp only; omega⟩
      unfold relB
      simp only
      rw [show b3.1 % 256 = b3.1 from by omega]
      rw [e1, e2, e3, e4, e5]
      simp only [List.append_assoc, List.cons_append, List.nil_append]
theorem relsC_wr : ∀ (n : Nat) (m : ByteArray) (vs : List S71) (fs : List S80) (acc : List S82) (r : List Int) (o : Obj4), qAM r → qD2 n m vs fs acc r = some o →
  ∃ l, o = (m, vs, fs, acc ++ l) ∧ l.length = n ∧ r = l.flatMap relB ∧ ∀ x ∈ l, qBi x.f3 ∧ qBi x.f4
 | 0, m, vs, fs, acc, r, o, hb, h => by
  simp only [qD2, endO] at h
  split at h
  ·rename_i hr
   obtain rfl := Option.some.inj h
   exact ⟨[], by simp, rfl, by simpa using hr, by simp⟩
  cases h
 | n + 1, m, vs, fs, acc, r, o, hb, h => by
  simp only [qD2] at h
  cases h1 : relP r with
  | none => rw [h1] at h; cases h
  | some b =>
   rw [h1] at h; simp only [Option.bind_some] at h
   obtain ⟨e1, g1⟩ := relP_wr hb h1
   obtain ⟨l, h2, h3, h4, h5⟩ := relsC_wr n m vs fs _ _ o (qAN hb e1) h
   refine ⟨b.1 :: l, by rw [h2]; simp, by simp [h3], by rw [List.flatMap_cons, ← h4]; exact e1, fun x hx => ?_⟩
   rcases List.mem_cons.1 hx with e | hx
   ·rw [e]; exact g1
   exact h5 x hx
theorem fnsC_wr : ∀ (n : Nat) (m : ByteArray) (vs : List S71) (acc : List S80) (r : List Int) (o : Obj4), qAM r → fnsC n m vs acc r = some o →
  ∃ l rs, o = (m, vs, acc ++ l, rs) ∧ l.length = n ∧ r = l.flatMap nfnB ++ (be rs.length 4 4 ++ rs.flatMap relB) ∧ rs.length ≤ 2147483647 ∧ (∀ x ∈ l, qBi x.f0 ∧ x.f1.f0.f0.length ≤ 4611686018427387904 ∧ x.f1.f1.length ≤ 4611686018427387904 ∧ x.f1.f2.length ≤ 4611686018427387904 ∧ x.f1.f2.all u64S = true) ∧ ∀ x ∈ rs, qBi x.f3 ∧ qBi x.f4
 | 0, m, vs, acc, r, o, hb, h => by
  simp only [fnsC, relsI] at h
  cases h1 : intP r with
  | none => rw [h1] at h; cases h
  | some b =>
   rw [h1] at h; simp only [Option.bind_some] at h
   have e1 := intP_wr hb h1
   have hx := qB6 r hb _ h1
   obtain ⟨l, h2, h3, h4, h5⟩ := relsC_wr _ m vs acc [] _ o (qAN hb e1) h
   rw [List.nil_append] at h2
   refine ⟨[], l, by rw [h2]; simp, rfl, ?_, by omega, by simp, h5⟩
   rw [h3, show ((b.1.toNat : Nat) : Int) = b.1 from by omega, ← h4]
   simpa using e1
 | n + 1, m, vs, acc, r, o, hb, h => by
  simp only [fnsC] at h
  cases h1 : nfnP r with
  | none => rw [h1] at h; cases h
  | some b =>
   rw [h1] at h; simp only [Option.bind_some] at h
   obtain ⟨e1, g1⟩ := nfnP_wr hb h1
   obtain ⟨l, rs, h2, h3, h4, h5, h6, h7⟩ := fnsC_wr n m vs _ _ o (qAN hb e1) h
   refine ⟨b.1 :: l, rs, by rw [h2]; simp, by simp [h3], by rw [List.flatMap_cons, List.append_assoc, ← h4]; exact e1, h5, fun x hx => ?_, h7⟩
   rcases List.mem_cons.1 hx with e | hx
   ·rw [e]; exact g1
   exact h6 x hx
theorem varsC_wr : ∀ (n : Nat) (m : ByteArray) (acc : List S71) (r : List Int) (o : Obj4), qAM r → qDp n m acc r = some o →
  ∃ l fs rs, o = (m, acc ++ l, fs, rs) ∧ l.length = n ∧ r = l.flatMap varB ++ ((be fs.length 4 4 ++ fs.flatMap nfnB) ++ (be rs.length 4 4 ++ rs.flatMap relB)) ∧ fs.length ≤ 2147483647 ∧ rs.length ≤ 2147483647 ∧ (∀ x ∈ l, qBi x.f0 ∧ 0 ≤ x.f1.f1 ∧ x.f1.f1 < 18446744073709551616) ∧ (∀ x ∈ fs, qBi x.f0 ∧ x.f1.f0.f0.length ≤ 4611686018427387904 ∧ x.f1.f1.length ≤ 4611686018427387904 ∧ x.f1.f2.length ≤ 4611686018427387904 ∧ x.f1.f2.all u64S = true) ∧ ∀ x ∈ rs, qBi x.f3 ∧ qBi x.f4
 | 0, m, acc, r, o, hb, h => by
  simp only [qDp, fnsI] at h
  cases h1 : intP r with
  | none => rw [h1] at h; cases h
  | some b =>
   rw [h1] at h; simp only [Option.bind_some] at h
   have e1 := intP_wr hb h1
   have hx := qB6 r hb _ h1
   obtain ⟨l, rs, h2, h3, h4, h5, h6, h7⟩ := fnsC_wr _ m acc [] _ o (qAN hb e1) h
   rw [List.nil_append] at h2
   refine ⟨[], l, rs, by rw [h2]; simp, rfl, ?_, by omega, h5, by simp, h6, h7⟩
   rw [h3, show ((b.1.toNat : Nat) : Int) = b.1 from by omega, List.append_assoc, ← h4]
   simpa using e1
 | n + 1, m, acc, r, o, hb, h => by
  simp only [qDp] at h
  cases h1 : varP r with
  | none => rw [h1] at h; cases h
  | some b =>
   rw [h1] at h; simp only [Option.bind_some] at h
   obtain ⟨e1, g1⟩ := varP_wr hb h1
   obtain ⟨l, fs, rs, h2, h3, h4, h5, h5', h6, h7, h8⟩ := varsC_wr n m _ _ o (qAN hb e1) h
   refine ⟨b.1 :: l, fs, rs, by rw [h2]; simp, by simp [h3], by rw [List.flatMap_cons, List.append_assoc, ← h4]; exact e1, h5, h5', fun x hx => ?_, h7, h8⟩
   rcases List.mem_cons.1 hx with e | hx
   ·rw [e]; exact g1
   exact h6 x hx
theorem whole_wr {b : List Int} (hb : qAM b) {o : Obj4} (h : qBZ b = some o) : b = qBX o.1 o.2.1 o.2.2.1 o.2.2.2 ∧ GoodO o.1 o.2.1 o.2.2.1 o.2.2.2 := by
 unfold qBZ at h
 split at h
 ·rename_i hmk
  unfold objC at h
  have hbd := qBo hb 4
  cases h1 : qBS 32 (b.drop 4) with
  | none => rw [h1] at h; cases h
  | some b1 =>
   rw [h1] at h; simp only [Option.bind_some] at h
   obtain ⟨e1, l1⟩ := qCY hbd h1
   have hb1 := qAN hbd e1
   cases h2 : intP b1.2 with
   | none => rw [h2] at h; cases h
   | some b2 =>
    rw [h2] at h; simp only [Option.bind_some] at h
    have e2 := intP_wr hb1 h2
    have hx := qB6 _ hb1 _ h2
    obtain ⟨l, fs, rs, h3, h4, h5, h6, h6', h7, h8, h9⟩ := varsC_wr _ b1.1 [] _ o (qAN hb1 e2) h
    rw [List.nil_append] at h3
    subst h3
    refine ⟨?_, by unfold qBi; simp only; omega, by simp only; omega, h7, by simp only; omega, h8, by simp only; omega, h9⟩
    rw [← List.take_append_drop 4 b, hmk, e1, e2, h5]
    unfold qBX MK
    simp only
    rw [h4, show ((b2.1.toNat : Nat) : Int) = b2.1 from by omega]
    simp only [List.append_assoc]
 cases h
end Q
end
section
namespace Q
open Go.RowKit PA PB PC
open Val Ins DecLaw Wr Enc
theorem equal_self (l : List Int) (hl : l.length ≤ 4611686018427387904) : Ev (fun k => qAl.f k l l) true := by
 have hloop : ∀ (d : Nat) (i : Int), 0 ≤ i → (l.length : Int) - i = d → Ev (fun k => qAl.l0 k l l (l.length : Int) i) true := by
  intro d
  induction d with
  | zero =>
   intro i h0 hd
   refine Ev.step (f := fun _ => some true) (fun k => ?_) (Ev.now _)
   simp only [qAl.l0]
   rw [if_neg (by omega)]
  | succ d ih =>
   intro i h0 hd
   refine Ev.step (fun k => ?_) (ih (i + 1) (by omega) (by omega))
   simp only [qAl.l0]
   rw [if_pos (by omega), if_pos h0, if_pos (by omega), if_pos (by omega), if_pos trivial, qCa (n := l.length) h0 (by omega) hl]
 refine Ev.congr (fun k => ?_) (hloop l.length 0 (by omega) (by omega))
 unfold qAl.f
 rw [if_pos rfl]
theorem tailP_ev (m : ByteArray) (vs : List S71) (fs : List S80) (rs : List S82) (hg : GoodO m vs fs rs) (hl : ¬ 16384 < (qBX m vs fs rs).length) : Ev (tailP (qBX m vs fs rs) (m, vs, fs, rs)) (if qBH m vs fs rs = 0 then (m, vs, fs, rs, 0) else errP) := by
 have hp : qA7.f m vs fs rs = (if qBH m vs fs rs ≠ 0 then some ([], qBH m vs fs rs) else if 16384 < (qBX m vs fs rs).length then some ([], 3) else some (qBX m vs fs rs, 0)) := if_pos hg
 by_cases h : qBH m vs fs rs = 0
 rotate_left
 ·rw [if_pos h] at hp
  rw [if_neg h]
  refine Ev.congr (f := fun _ => some errP) (fun k => ?_) (Ev.now _)
  unfold tailP
  rw [hp, Option.bind_some, if_neg h]
 rw [if_neg (fun q => q h), if_neg hl] at hp
 rw [if_pos h]
 refine Ev.congr (f := fun k => (qAl.f k (qBX m vs fs rs) (qBX m vs fs rs)).bind fun t => (if t = true then some (m, vs, fs, rs, 0) else some errP)) (fun k => ?_) (Ev.bind (equal_self _ (by omega)) ?_)
 ·unfold tailP
  rw [hp, Option.bind_some, if_pos rfl]
 simp only [if_true]; exact Ev.now _
def aliveB : List Int := [102, 111, 98, 106, 0, 0, 0, 1, 109, 0, 0, 0, 1, 0, 0, 0, 1, 118, 1, 0, 0, 0, 0, 0, 0, 0, 1, 0, 0, 0, 0, 0, 0, 0, 0]
def qDq : ByteArray := ⟨#[109]⟩
def qDr : List S71 := [⟨⟨#[118]⟩, ⟨1, 1⟩⟩]
theorem alive_good : GoodO qDq qDr [] [] := by decide
theorem qCE : qBX qDq qDr [] [] = aliveB := by
 unfold qBX qDq qDr qBv varB qBv
 simp only [Lib.toList_data]
 rfl
theorem qDA : qBH qDq qDr [] [] = 0 := by kernel_rfl
theorem qDB : qBZ aliveB = some (qDq, qDr, [], []) := by kernel_rfl
theorem alive0_ev : Ev (fun k => alive0.f k) true := by
 have hp : qA7.f qDq qDr [] [] = some (aliveB, 0) := by
  unfold qA7.f
  rw [if_pos alive_good, if_neg (fun q => q qDA), qCE, if_neg (by decide)]
 have ht := tailP_ev qDq qDr [] [] alive_good (by rw [qCE]; decide)
 rw [if_pos qDA, qCE] at ht
 have hu := qEa aliveB (by unfold qAM aliveB; decide) _ (by decide) ⟨fun o ho => by rw [qDB] at ho; obtain rfl := Option.some.inj ho; exact ht, fun hn => by rw [qDB] at hn; cases hn⟩
 unfold alive0.f
 rw [show qA7.f (⟨#[109]⟩ : ByteArray) ([(⟨(⟨#[118]⟩ : ByteArray), (⟨1, 1⟩ : S69)⟩ : S71)]) [] [] = some (aliveB, 0) from hp]
 simp only [Option.bind_some]
 refine Ev.bind hu ?_
 refine Ev.congr (fun k => ?_) (Ev.now _)
 unfold qDq qDr
 simp only [Lib.toList_data, strOfNums]
 rfl
theorem alive_ev : Ev (fun k => qA5.f k) true := by
 obtain ⟨K, hK⟩ := alive0_ev
 exact ⟨K, fun k hk => if_pos (hK k hk)⟩
end Q
end
end Go.Proofs.Ytfjpnjbinbhcfaa
