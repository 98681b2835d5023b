/- CodePatches, where what it reads is of bulk at most 1048576: any instructions: the program's Patch and the document's make the same of them; what is handed in stays. -/
import Derived.Test.YtfddibbignedkaaGreatDoorD1
import Derived.Test.YtfddibbignedkaaGreatDoorH1
import Derived.Test.YtfddibbignedkaaGreatDoorCards
import Derived.Test.YtfddibbignedkaaGreatDoorTie
import Derived.WalkKit
import Derived.ProofKit
import Derived.OpenShut
import Derived.ShutString
import Derived.Below
import Derived.LaidMore
import Derived.Lay
import Derived.SevenTiedAt
import Derived.Stop.Joined
import Derived.MakeChecks
import Derived.JoinedCond
import Derived.Deep.DeepHandedRow
set_option maxHeartbeats 8000000
set_option maxRecDepth 100000
set_option linter.unusedVariables false
set_option linter.unusedSimpArgs false
namespace Go.Proofs.YtfddibbignedkaaGreatDoor
section
namespace Q
open Go.RowKit YA YC YB
theorem vinfo_ins : (Tryz.prog.info? 51).map (fun i => (i.zero, i.size, i.bytes)) = some (some (.agg #[.int .i64 0, .int .i64 0, .int .i64 0, .int .u64 0]), 4, 32) := by kernel_rfl
theorem cloneN_ins (A : Option Addr) (c : Nat) (st : List (S51)) (W : World) (HC0 : Kd.C k51 W A st.length st) (hn : st.length ≤ 2000000) :
  Calls Tryz.prog 57 #[.slice A st.length c] W fun e w' => ∃ v, e = .returned v ∧ Kd.R k51 51 w' W.heap.size (fun _ => True) v st ∧ Below W.heap.size W w' := by
 obtain ⟨n, hnn⟩ : ∃ n, n = st.length := ⟨_, rfl⟩
 rw [← hnn] at HC0 hn ⊢
 cases A with
 | none =>
  have h0 : n = 0 := by
   rcases Nat.eq_zero_or_pos n with h | h
   ·exact h
   obtain ⟨ad, had, _⟩ := HC0.2.2 h; cases had
  subst h0
  obtain rfl : st = [] := List.length_eq_zero_iff.1 hnn.symm
  have hq := Lib.run_eql_slice_nil (P := Tryz.prog) W 35 51 none 0 c 0 0 Tryz.underlying35
  clear HC0 hn hnn
  go_enter Tryz.func57, Tryz.ntmps57
  go_wp2
  go_ret
  exact ⟨_, rfl, Kd.R_nil _ _ _ _ _, Below.refl _ _⟩
 | some a =>
  have hq := Lib.run_eql_slice_nil (P := Tryz.prog) W 35 51 (some a) n c 0 0 Tryz.underlying35
  have hown : (W.alloc (.cells #[] 51)).ownsRow W.heap.size 51 4 (.slice (some ⟨W.heap.size, 0, none⟩) 0 0) 0 [] := World.ownsRow_made W #[] 0 (Nat.le_refl _) (by unfold maxLen; omega) rfl
  have HR : qAd (Kd.R k51 51 (W.alloc (.cells #[] 51)) W.heap.size (fun _ => True) (.slice (some ⟨W.heap.size, 0, none⟩) 0 0) []) := ⟨fun k hk => trivial, [], hown, Reps.none _ _⟩
  have HRR : qAd (Kd.C k51 (W.alloc (.cells #[] 51)) (some a) n st) := ⟨Kd.C_below HC0 ((Below.refl _ _).alloc (Nat.le_refl _) _)⟩
  have HNN := am hnn
  have HN0 := am hn
  clear HC0 hown hn hnn
  go_enter Tryz.func57, Tryz.ntmps57
  go_wp2_with (at_builtin; refine Kd.R_append_rows k51 (w0 := W) W.heap.size rfl (.tmp 5) (.tmp 6) 35 51 _ 32 rfl Tryz.underlying35 vinfo_ins rfl (by decide) (by decide) _ [] st (some a) n c _ (fun _ => False) rfl rfl HR.out HRR.out ?h0 ?h1 ?h2 ?h3 ?h4 ?h5 ?_; (case h0 => exact fun x cs h => by obtain rfl := k51_open h; exact qCW _ _ _ x); (case h1 => exact fun k hk => hk.elim); (case h2 => intro k hk; exact trivial); (case h3 => exact (Below.refl _ _).alloc (Nat.le_refl _) _); (case h4 => simp); (case h5 => have := HN0.out; simp; omega); intro v1 w1 hN hB _ _; have HN1 := am hN; have HB1 := am hB; clear hN hB)
  go_ret
  exact ⟨_, rfl, HN1.out, HB1.out⟩
def code_Ins.f (l0 : List (S51)) : Option (List (S51)) := if l0.length ≤ 2000000 then some l0 else none
theorem code_Ins.calls (A0 : Option Addr) (c0 : Nat) (l0 : List (S51)) (r : List (S51)) (w : World) (hr0 : Kd.C k51 w A0 l0.length l0) (hc0 : l0.length ≤ c0) (h : code_Ins.f l0 = some r) :
  Calls Tryz.prog 57 #[.slice A0 l0.length c0] w fun e w' => ∃ v0_ : Value, e = .returned (v0_) ∧ Kd.R k51 51 w' w.heap.size (fun _ => True) v0_ r ∧ Below w.heap.size w w' := by
 unfold code_Ins.f at h
 split at h
 ·rename_i hl
  injection h with h
  subst h
  exact cloneN_ins A0 c0 l0 w hr0 hl
 ·cases h
end Q
end
section
namespace Q
open Go.RowKit YA YC YB
attribute [local go_sem] max2_int min2_int max_two min_two max_three min_three max_four min_four
def code_Patch.j0 : Nat → List (S51) → Int → Int → Bool → Option ((List (S51)) × Int)
 | 0, _, _, _, _ => none
 | k + 1, x0, x1, x2, an => if an = true then (some (([] : List (S51)), 1)) else ((code_Ins.f x0).bind fun aA => (if 0 ≤ x1 then (if x1 < (aA.length : Int) then ((some (aA.set (x1 : Int).toNat (⟨(qA0 aA x1).f0, x2, (⟨(qA0 aA x1).f2.f0, (qA0 aA x1).f2.f1⟩ : S48)⟩ : S51) : List (S51))).bind fun aB => ((qDJ.f ((qA0 aB x1).f0) ((qA0 aB x1).f1) ((qA0 aB x1).f2.f0) ((qA0 aB x1).f2.f1)).bind fun aH => (if aH = true then (some (aB, 0)) else (some (([] : List (S51)), 51))))) else (none)) else (none)))
def code_Patch.f (k : Nat) (l0 : List (S51)) (a1 : Int) (a2 : Int) : Option ((List (S51)) × Int) := if a1 < 0 then (code_Patch.j0 k l0 a1 a2 true) else (code_Patch.j0 k l0 a1 a2 (decide (a1 ≥ (l0.length : Int))))
theorem code_Patch.calls (k : Nat) (A0 : Option Addr) (c0 : Nat) (l0 : List (S51)) (a1 : Int) (a2 : Int) (r1 : List (S51)) (r2 : Int) (w : World) (hr0 : Kd.C k51 w A0 l0.length l0) (hc0 : l0.length ≤ c0) (h : code_Patch.f k l0 a1 a2 = some (r1, r2)) :
  Calls Tryz.prog 33 #[.slice A0 l0.length c0, .int .i64 a1, .int .i64 a2] w fun e w' => ∃ v0_ : Value, e = .returned (.tuple #[v0_, .int .i64 r2]) ∧ Kd.R k51 51 w' w.heap.size (fun _ => True) v0_ r1 ∧ Below w.heap.size w w' := by
 have hu51 := Tryz.underlying51
 have ai := am hr0
 have ah := am hc0
 clear hr0 hc0
 have HB := am (Below.refl w.heap.size w)
 have H : (if a1 < 0 then (code_Patch.j0 k l0 a1 a2 true) else (code_Patch.j0 k l0 a1 a2 (decide (a1 ≥ (l0.length : Int))))) = some (r1, r2) := h
 clear h
 have ab := am H
 clear H
 go_enter Tryz.func33, Tryz.ntmps33
 go_upto_region 1 with (fail)
 go_cut [16] (fun al wc => ∃ (kq : Nat) (aM : Bool), al = .bool aM ∧ qAd (code_Patch.j0 kq l0 a1 a2 aM = some (r1, r2)) ∧ qAd (kq ≤ k) ∧ qAd (Below w.heap.size w wc))
 case first =>
  have H := ab.o
  clear ab
  by_cases c5 : a1 < 0
  ·rw [if_pos c5] at H
   replace c5 := d1 c5
   (first | rw [c5] | (simp only [qAr, i32_w]; rw [c5]) | skip)
   have H' := am H
   clear H
   go_wp2
   go_meet
   case rel => exact ⟨_, (true), (by first | rfl | (simp; done) | (simp [*]; done)), H', ⟨by first | omega | exact Nat.le_refl _⟩, ⟨by repeat (first | (with_reducible first | exact HB.o | apply qAg | apply qAe | apply qAj) | exact HB.o)⟩⟩
  rw [if_neg c5] at H
  replace c5 := d0 c5
  (first | rw [c5] | (simp only [qAr, i32_w]; rw [c5]) | skip)
  have H' := am H
  clear H
  go_wp2
  go_meet
  case rel => exact ⟨_, (decide (a1 ≥ (l0.length : Int))), (by first | rfl | (simp; done) | (simp [*]; done)), H', ⟨by first | omega | exact Nat.le_refl _⟩, ⟨by repeat (first | (with_reducible first | exact HB.o | apply qAg | apply qAe | apply qAj) | exact HB.o)⟩⟩
 case rest =>
  clear ab
  obtain ⟨kq, aM, rfl, HA, ao, HB⟩ := hcut
  cases kq with
  | zero => exact absurd HA.o (by simp [code_Patch.j0])
  | succ ap =>
   have H := HA.o
   clear HA
   simp only [code_Patch.j0] at H
   by_cases c6 : aM = true
   ·subst c6
    replace H : (some (([] : List (S51)), 1)) = some (r1, r2) := by rw [if_pos rfl] at H; exact H
    simp only [Option.some.injEq, Prod.mk.injEq] at H
    obtain ⟨rfl, rfl⟩ := H
    go_wp2
    go_ret2
    exact ⟨_, by first | rfl | (simp [errW_none, errW_some] <;> rfl) | (simp [*, errW_none, errW_some] <;> rfl), by first | exact Kd.R_nil _ _ _ _ _ | exact Kd.N_nil _ _ _ _ _ | exact Kd.V_nil _ _ _ _ _ | exact Kd.Q_nil _ _ _ _ _ | exact Kd.S_nil _ _ _ _ _, by repeat (first | (with_reducible first | exact HB.o | apply qAg | apply qAe | apply qAj) | exact HB.o)⟩
   replace c6 := Bool.eq_false_iff.mpr c6
   subst c6
   replace H : ((code_Ins.f l0).bind fun aA => (if 0 ≤ a1 then (if a1 < (aA.length : Int) then ((some (aA.set (a1 : Int).toNat (⟨(qA0 aA a1).f0, a2, (⟨(qA0 aA a1).f2.f0, (qA0 aA a1).f2.f1⟩ : S48)⟩ : S51) : List (S51))).bind fun aB => ((qDJ.f ((qA0 aB a1).f0) ((qA0 aB a1).f1) ((qA0 aB a1).f2.f0) ((qA0 aB a1).f2.f1)).bind fun aH => (if aH = true then (some (aB, 0)) else (some (([] : List (S51)), 51))))) else (none)) else (none))) = some (r1, r2) := by rw [if_neg (show ¬ (false = true) by decide)] at H; exact H
   replace H := bm H
   obtain ⟨aA, ag, H⟩ := H
   replace H : (if 0 ≤ a1 then (if a1 < (aA.length : Int) then ((some (aA.set (a1 : Int).toNat (⟨(qA0 aA a1).f0, a2, (⟨(qA0 aA a1).f2.f0, (qA0 aA a1).f2.f1⟩ : S48)⟩ : S51) : List (S51))).bind fun aB => ((qDJ.f ((qA0 aB a1).f0) ((qA0 aB a1).f1) ((qA0 aB a1).f2.f0) ((qA0 aB a1).f2.f1)).bind fun aH => (if aH = true then (some (aB, 0)) else (some (([] : List (S51)), 51))))) else (none)) else (none)) = some (r1, r2) := H
   have A7 := am ag
   clear ag
   obtain ⟨c8, H⟩ := gd H
   replace c8 := d1 c8
   obtain ⟨c9, H⟩ := gd H
   replace c9 := d1 c9
   obtain ⟨aB, aI⟩ : ∃ y_ : List (S51), y_ = (aA.set (a1 : Int).toNat (⟨(qA0 aA a1).f0, a2, (⟨(qA0 aA a1).f2.f0, (qA0 aA a1).f2.f1⟩ : S48)⟩ : S51)) := ⟨_, rfl⟩
   replace H : ((qDJ.f ((qA0 aB a1).f0) ((qA0 aB a1).f1) ((qA0 aB a1).f2.f0) ((qA0 aB a1).f2.f1)).bind fun aH => (if aH = true then (some (aB, 0)) else (some (([] : List (S51)), 51)))) = some (r1, r2) := by first | (rw [aI]; with_reducible exact H) | (have H2_ := (Option.bind_some _ _).symm.trans H; rw [aI]; with_reducible exact H2_) | (have H2_ := (Option.bind_some _ _).symm.trans H; with_reducible exact H2_) | with_reducible exact H | (rw [aI]; exact H) | exact H
   have aL := am aI
   clear aI
   replace H := bm H
   obtain ⟨aH, a8, H⟩ := H
   replace H : (if aH = true then (some (aB, 0)) else (some (([] : List (S51)), 51))) = some (r1, r2) := H
   have af := am a8
   clear a8
   by_cases aa : aH = true
   ·subst aa
    replace H : (some (aB, 0)) = some (r1, r2) := by rw [if_pos rfl] at H; exact H
    simp only [Option.some.injEq, Prod.mk.injEq] at H
    obtain ⟨rfl, rfl⟩ := H
    go_wp2_with (first | ((with_reducible refine qA7 (f := 57) rfl ?_); refine qBG (some 18) rfl rfl Tryz.func57 (by kernel_rfl) rfl #[.slice A0 l0.length c0] rfl (by (try simp only [List.map_toArray, List.map_cons, List.map_nil]); first | done | rfl | (simp only [List.length_drop, List.length_take]; rfl)) ?_; (with_reducible refine (code_Ins.calls _ _ l0 aA _ ?side1 ?side2 A7.o).mono ?_); (case side1 => repeat (first | exact (Kd.C_below ai.o HB.o) | (with_reducible refine Kd.C_alloc ?_ _) | (with_reducible refine Kd.C_drewN ?_ _) | (with_reducible refine Kd.C_drew ?_))); (case side2 => exact ah.o); rintro e aS ⟨ac, rfl, a9, hb⟩; refine ⟨_, rfl, ?_⟩; have n0_ := am (Kd.R_lower a9 (qAm (by repeat (first | (with_reducible first | exact HB.o | apply qAg | apply qAe | apply qAj) | exact HB.o)))); have n1_ := am (qAq (by repeat (first | (with_reducible first | exact HB.o | apply qAg | apply qAe | apply qAj) | exact HB.o)) hb); clear HB; have aC := n0_; have HB := n1_; clear n0_ n1_; have a6 : 0 ≤ (a1 : Int) := of_decide_eq_true (by first | (with_reducible assumption) | assumption); have a7 : (a1 : Int) < ((aA.length : Int) : Int) := of_decide_eq_true (by first | (with_reducible assumption) | assumption); obtain ⟨go10, aP, aQ, aR, gl10, cl10, HG10⟩ := Kd.R_form aC.o (by omega); (first | cases aQ | (injection aQ with ea_ en_ ec_; (first | subst ea_ | (injection ea_ with ea_; subst ea_)); subst ec_; clear en_)); have GB10 := am aR; have GG10 := am HG10; clear aR gl10 HG10; obtain ⟨ce10, hcl10, hM10, hcc10, hfr10⟩ := Kd.R_elem aC.o z51 (a1 : Int) a6 a7; obtain rfl := k51_openM hM10; have aX : aS.cell? ⟨go10, (a1 : Int).toNat * 4, none⟩ = some (.int .i64 ((qA0 aA a1).f0)) := hcc10 0 _ rfl; have aY : aS.cell? ⟨go10, (a1 : Int).toNat * 4 + 1, none⟩ = some (.int .i64 ((qA0 aA a1).f1)) := hcc10 1 _ rfl; have aZ : aS.cell? ⟨go10, (a1 : Int).toNat * 4 + 2, none⟩ = some (.int .i64 ((qA0 aA a1).f2.f0)) := hcc10 2 _ rfl; have a3 : aS.cell? ⟨go10, (a1 : Int).toNat * 4 + 3, none⟩ = some (.int .u64 ((qA0 aA a1).f2.f1)) := hcc10 3 _ rfl; have hf10_0 : aS.frozen? ⟨go10, (a1 : Int).toNat * 4, none⟩ = false := hfr10 0; have hf10_1 : aS.frozen? ⟨go10, (a1 : Int).toNat * 4 + 1, none⟩ = false := hfr10 1; have hf10_2 : aS.frozen? ⟨go10, (a1 : Int).toNat * 4 + 2, none⟩ = false := hfr10 2; have hf10_3 : aS.frozen? ⟨go10, (a1 : Int).toNat * 4 + 3, none⟩ = false := hfr10 3; clear hcl10 hcc10 hfr10 hM10; replace a6 := eq_true a6; replace a7 := eq_true a7; have HX14 := am (show Kd.R k51 51 aS w.heap.size (fun _ => True) (.slice (some ⟨go10, 0, none⟩) aA.length aP) aA from (by (with_reducible repeat (first | apply Kd.R_alloc | apply Kd.R_drewN | apply Kd.R_drew)); exact aC.o)); obtain ⟨ce14, hcl14, hM14, hcc14, hfr14⟩ := Kd.R_elem HX14.o z51 (a1 : Int) (of_decide_eq_true (by first | (with_reducible assumption) | assumption)) (by have h_ : (a1 : Int) < ((aA.length : Int) : Int) := of_decide_eq_true (by first | (with_reducible assumption) | assumption); first | exact h_ | (have e_ := (Kd.R_reads' aC.o).1; omega) | simpa using h_); obtain rfl := k51_openM hM14; have aU := Kd.R_seg HX14.o (a1 : Int) (of_decide_eq_true (by first | (with_reducible assumption) | assumption)) (by have h_ : (a1 : Int) < ((aA.length : Int) : Int) := of_decide_eq_true (by first | (with_reducible assumption) | assumption); first | exact h_ | (have e_ := (Kd.R_reads' aC.o).1; omega) | simpa using h_) (seg := [.int .i64 a2]) (j := 1) hcl14 hcc14 (show 2 ≤ 4 from by decide) (x' := (⟨(qA0 aA a1).f0, a2, (⟨(qA0 aA a1).f2.f0, (qA0 aA a1).f2.f1⟩ : S48)⟩ : S51)) (qCW _ _ _ (⟨(qA0 aA a1).f0, a2, (⟨(qA0 aA a1).f2.f0, (qA0 aA a1).f2.f1⟩ : S48)⟩ : S51) ) (fun _ hk => hk); have a4 := hcc14 1 _ rfl; (try simp only [show (k51).sz = 4 from rfl, Nat.mul_one, Nat.add_zero] at a4); have hf14_1 := hfr14 1; (try simp only [show (k51).sz = 4 from rfl, Nat.mul_one, Nat.add_zero] at hf14_1); clear hcl14 hcc14 hfr14 hM14) | ((with_reducible refine gate_store (t := 3) (p := 23) rfl ?_); refine store_event (t := 3) (p := 23) (v := ?vo_w15) (w1 := (aS.setCell ⟨go10, (a1 : Int).toNat * 4 + 1, none⟩ (.int .i64 a2))) ?hg ?ho ?hn ?hr ?_; (case ho => rfl); (case hg => rfl); (case hn => rfl); (case hr => first | (go_simp; done) | (go_simp; rfl)); intro ad hw; have hg : aS.grownBy ad (some go10) := (by rw [hw]; exact aU.2); have hp_ : Kd.R k51 51 ad w.heap.size (fun _ => True) (.slice (some ⟨go10, 0, none⟩) aA.length aP) aB := (by rw [hw, aL.o]; exact aU.1); clear aU; have n0_ := am (hp_); have n1_ := am ((by rw [hw]; exact qAi (HB.o) GB10.o : Below w.heap.size w ad)); clear aC; clear HB; have aC := n0_; have HB := n1_; clear n0_ n1_; clear hg hw hp_; have aJ : 0 ≤ (a1 : Int) := of_decide_eq_true (by first | (with_reducible assumption) | assumption); have aK : a1 < (aB.length : Int) := (by have h_ : (a1 : Int) < ((aA.length : Int) : Int) := of_decide_eq_true (by first | (with_reducible assumption) | assumption); first | (have e_ := (Kd.R_reads' aC.o).1; omega) | simpa only [aL.o, List.length_set] using h_); have ql791 : ((a1 : Int) < ((aA.length : Int) : Int)) = True := eq_true (of_decide_eq_true (by first | (with_reducible assumption) | assumption)); obtain ⟨aO, aW, aD, aE, aF, aG⟩ := qBM (Kd.R_reads' aC.o).2.2 a1 aJ aK; obtain rfl : (⟨go10, 0, none⟩ : Addr) = aO := (by injection aW); (first | simp only [add_plain] at aD | simp only [add_at] at aD | simp only [Addr.add, Nat.zero_add] at aD | skip); (first | simp only [add_plain] at aE | simp only [add_at] at aE | simp only [Addr.add, Nat.zero_add] at aE | skip); (first | simp only [add_plain] at aF | simp only [add_at] at aF | simp only [Addr.add, Nat.zero_add] at aF | skip); (first | simp only [add_plain] at aG | simp only [add_at] at aG | simp only [Addr.add, Nat.zero_add] at aG | skip); replace aJ := eq_true aJ; replace aK := eq_true aK) | ((with_reducible refine qA7 (f := 18) rfl ?_); refine qBG (some 28) rfl rfl Tryz.func18 (by kernel_rfl) rfl #[.agg #[.int .i64 ((qA0 aB a1).f0), .int .i64 ((qA0 aB a1).f1), .int .i64 ((qA0 aB a1).f2.f0), .int .u64 ((qA0 aB a1).f2.f1)]] rfl (by (try simp only [List.map_toArray, List.map_cons, List.map_nil]); first | done | rfl | (simp only [List.length_drop, List.length_take]; rfl)) ?_; (with_reducible refine (qDJ.calls ((qA0 aB a1).f0) ((qA0 aB a1).f1) ((qA0 aB a1).f2.f0) ((qA0 aB a1).f2.f1) true _ af.o).mono ?_); rintro e aq ⟨rfl, hb⟩; refine ⟨_, rfl, ?_⟩; have n0_ := am (Kd.R_below (by (with_reducible repeat (first | apply Kd.R_alloc | apply Kd.R_drewN | apply Kd.R_drew)); exact aC.o) hb); have n1_ := am (qAq (by repeat (first | (with_reducible first | exact HB.o | apply qAg | apply qAe | apply qAj) | exact HB.o)) hb); clear aC; clear HB; have aC := n0_; have HB := n1_; clear n0_ n1_))
    go_ret2
    exact ⟨_, by first | rfl | (simp [errW_none, errW_some] <;> rfl) | (simp [*, errW_none, errW_some] <;> rfl), by (with_reducible repeat (first | apply Kd.R_alloc | apply Kd.R_drewN | apply Kd.R_drew)); exact aC.o, by repeat (first | (with_reducible first | exact HB.o | apply qAg | apply qAe | apply qAj) | exact HB.o)⟩
   replace aa := Bool.eq_false_iff.mpr aa
   subst aa
   replace H : (some (([] : List (S51)), 51)) = some (r1, r2) := by rw [if_neg (show ¬ (false = true) by decide)] at H; exact H
   simp only [Option.some.injEq, Prod.mk.injEq] at H
   obtain ⟨rfl, rfl⟩ := H
   go_wp2_with (first | ((with_reducible refine qA7 (f := 57) rfl ?_); refine qBG (some 18) rfl rfl Tryz.func57 (by kernel_rfl) rfl #[.slice A0 l0.length c0] rfl (by (try simp only [List.map_toArray, List.map_cons, List.map_nil]); first | done | rfl | (simp only [List.length_drop, List.length_take]; rfl)) ?_; (with_reducible refine (code_Ins.calls _ _ l0 aA _ ?side1 ?side2 A7.o).mono ?_); (case side1 => repeat (first | exact (Kd.C_below ai.o HB.o) | (with_reducible refine Kd.C_alloc ?_ _) | (with_reducible refine Kd.C_drewN ?_ _) | (with_reducible refine Kd.C_drew ?_))); (case side2 => exact ah.o); rintro e aT ⟨ac, rfl, a9, hb⟩; refine ⟨_, rfl, ?_⟩; have n0_ := am (Kd.R_lower a9 (qAm (by repeat (first | (with_reducible first | exact HB.o | apply qAg | apply qAe | apply qAj) | exact HB.o)))); have n1_ := am (qAq (by repeat (first | (with_reducible first | exact HB.o | apply qAg | apply qAe | apply qAj) | exact HB.o)) hb); clear HB; have aC := n0_; have HB := n1_; clear n0_ n1_; have a6 : 0 ≤ (a1 : Int) := of_decide_eq_true (by first | (with_reducible assumption) | assumption); have a7 : (a1 : Int) < ((aA.length : Int) : Int) := of_decide_eq_true (by first | (with_reducible assumption) | assumption); obtain ⟨go10, aP, aQ, aR, gl10, cl10, HG10⟩ := Kd.R_form aC.o (by omega); (first | cases aQ | (injection aQ with ea_ en_ ec_; (first | subst ea_ | (injection ea_ with ea_; subst ea_)); subst ec_; clear en_)); have GB10 := am aR; have GG10 := am HG10; clear aR gl10 HG10; obtain ⟨ce10, hcl10, hM10, hcc10, hfr10⟩ := Kd.R_elem aC.o z51 (a1 : Int) a6 a7; obtain rfl := k51_openM hM10; have aX : aT.cell? ⟨go10, (a1 : Int).toNat * 4, none⟩ = some (.int .i64 ((qA0 aA a1).f0)) := hcc10 0 _ rfl; have aY : aT.cell? ⟨go10, (a1 : Int).toNat * 4 + 1, none⟩ = some (.int .i64 ((qA0 aA a1).f1)) := hcc10 1 _ rfl; have aZ : aT.cell? ⟨go10, (a1 : Int).toNat * 4 + 2, none⟩ = some (.int .i64 ((qA0 aA a1).f2.f0)) := hcc10 2 _ rfl; have a3 : aT.cell? ⟨go10, (a1 : Int).toNat * 4 + 3, none⟩ = some (.int .u64 ((qA0 aA a1).f2.f1)) := hcc10 3 _ rfl; have hf10_0 : aT.frozen? ⟨go10, (a1 : Int).toNat * 4, none⟩ = false := hfr10 0; have hf10_1 : aT.frozen? ⟨go10, (a1 : Int).toNat * 4 + 1, none⟩ = false := hfr10 1; have hf10_2 : aT.frozen? ⟨go10, (a1 : Int).toNat * 4 + 2, none⟩ = false := hfr10 2; have hf10_3 : aT.frozen? ⟨go10, (a1 : Int).toNat * 4 + 3, none⟩ = false := hfr10 3; clear hcl10 hcc10 hfr10 hM10; replace a6 := eq_true a6; replace a7 := eq_true a7; have HX18 := am (show Kd.R k51 51 aT w.heap.size (fun _ => True) (.slice (some ⟨go10, 0, none⟩) aA.length aP) aA from (by (with_reducible repeat (first | apply Kd.R_alloc | apply Kd.R_drewN | apply Kd.R_drew)); exact aC.o)); obtain ⟨ce18, hcl18, hM18, hcc18, hfr18⟩ := Kd.R_elem HX18.o z51 (a1 : Int) (of_decide_eq_true (by first | (with_reducible assumption) | assumption)) (by have h_ : (a1 : Int) < ((aA.length : Int) : Int) := of_decide_eq_true (by first | (with_reducible assumption) | assumption); first | exact h_ | (have e_ := (Kd.R_reads' aC.o).1; omega) | simpa using h_); obtain rfl := k51_openM hM18; have aV := Kd.R_seg HX18.o (a1 : Int) (of_decide_eq_true (by first | (with_reducible assumption) | assumption)) (by have h_ : (a1 : Int) < ((aA.length : Int) : Int) := of_decide_eq_true (by first | (with_reducible assumption) | assumption); first | exact h_ | (have e_ := (Kd.R_reads' aC.o).1; omega) | simpa using h_) (seg := [.int .i64 a2]) (j := 1) hcl18 hcc18 (show 2 ≤ 4 from by decide) (x' := (⟨(qA0 aA a1).f0, a2, (⟨(qA0 aA a1).f2.f0, (qA0 aA a1).f2.f1⟩ : S48)⟩ : S51)) (qCW _ _ _ (⟨(qA0 aA a1).f0, a2, (⟨(qA0 aA a1).f2.f0, (qA0 aA a1).f2.f1⟩ : S48)⟩ : S51) ) (fun _ hk => hk); have a5 := hcc18 1 _ rfl; (try simp only [show (k51).sz = 4 from rfl, Nat.mul_one, Nat.add_zero] at a5); have hf18_1 := hfr18 1; (try simp only [show (k51).sz = 4 from rfl, Nat.mul_one, Nat.add_zero] at hf18_1); clear hcl18 hcc18 hfr18 hM18) | ((with_reducible refine gate_store (t := 3) (p := 23) rfl ?_); refine store_event (t := 3) (p := 23) (v := ?vo_w19) (w1 := (aT.setCell ⟨go10, (a1 : Int).toNat * 4 + 1, none⟩ (.int .i64 a2))) ?hg ?ho ?hn ?hr ?_; (case ho => rfl); (case hg => rfl); (case hn => rfl); (case hr => first | (go_simp; done) | (go_simp; rfl)); intro ae hw; have hg : aT.grownBy ae (some go10) := (by rw [hw]; exact aV.2); have hp_ : Kd.R k51 51 ae w.heap.size (fun _ => True) (.slice (some ⟨go10, 0, none⟩) aA.length aP) aB := (by rw [hw, aL.o]; exact aV.1); clear aV; have n0_ := am (hp_); have n1_ := am ((by rw [hw]; exact qAi (HB.o) GB10.o : Below w.heap.size w ae)); clear aC; clear HB; have aC := n0_; have HB := n1_; clear n0_ n1_; clear hg hw hp_; have aJ : 0 ≤ (a1 : Int) := of_decide_eq_true (by first | (with_reducible assumption) | assumption); have aK : a1 < (aB.length : Int) := (by have h_ : (a1 : Int) < ((aA.length : Int) : Int) := of_decide_eq_true (by first | (with_reducible assumption) | assumption); first | (have e_ := (Kd.R_reads' aC.o).1; omega) | simpa only [aL.o, List.length_set] using h_); have ql791 : ((a1 : Int) < ((aA.length : Int) : Int)) = True := eq_true (of_decide_eq_true (by first | (with_reducible assumption) | assumption)); obtain ⟨aO, aW, aD, aE, aF, aG⟩ := qBM (Kd.R_reads' aC.o).2.2 a1 aJ aK; obtain rfl : (⟨go10, 0, none⟩ : Addr) = aO := (by injection aW); (first | simp only [add_plain] at aD | simp only [add_at] at aD | simp only [Addr.add, Nat.zero_add] at aD | skip); (first | simp only [add_plain] at aE | simp only [add_at] at aE | simp only [Addr.add, Nat.zero_add] at aE | skip); (first | simp only [add_plain] at aF | simp only [add_at] at aF | simp only [Addr.add, Nat.zero_add] at aF | skip); (first | simp only [add_plain] at aG | simp only [add_at] at aG | simp only [Addr.add, Nat.zero_add] at aG | skip); replace aJ := eq_true aJ; replace aK := eq_true aK) | ((with_reducible refine qA7 (f := 18) rfl ?_); refine qBG (some 28) rfl rfl Tryz.func18 (by kernel_rfl) rfl #[.agg #[.int .i64 ((qA0 aB a1).f0), .int .i64 ((qA0 aB a1).f1), .int .i64 ((qA0 aB a1).f2.f0), .int .u64 ((qA0 aB a1).f2.f1)]] rfl (by (try simp only [List.map_toArray, List.map_cons, List.map_nil]); first | done | rfl | (simp only [List.length_drop, List.length_take]; rfl)) ?_; (with_reducible refine (qDJ.calls ((qA0 aB a1).f0) ((qA0 aB a1).f1) ((qA0 aB a1).f2.f0) ((qA0 aB a1).f2.f1) false _ af.o).mono ?_); rintro e ar ⟨rfl, hb⟩; refine ⟨_, rfl, ?_⟩; have n0_ := am (Kd.R_below (by (with_reducible repeat (first | apply Kd.R_alloc | apply Kd.R_drewN | apply Kd.R_drew)); exact aC.o) hb); have n1_ := am (qAq (by repeat (first | (with_reducible first | exact HB.o | apply qAg | apply qAe | apply qAj) | exact HB.o)) hb); clear aC; clear HB; have aC := n0_; have HB := n1_; clear n0_ n1_))
   go_ret2
   exact ⟨_, by first | rfl | (simp [errW_none, errW_some] <;> rfl) | (simp [*, errW_none, errW_some] <;> rfl), by first | exact Kd.R_nil _ _ _ _ _ | exact Kd.N_nil _ _ _ _ _ | exact Kd.V_nil _ _ _ _ _ | exact Kd.Q_nil _ _ _ _ _ | exact Kd.S_nil _ _ _ _ _, by repeat (first | (with_reducible first | exact HB.o | apply qAg | apply qAe | apply qAj) | exact HB.o)⟩
end Q
end
section
namespace Q
open Go.RowKit YA YC YB
open Val Ins
namespace RP
theorem vinfo_rins : (Tryz.prog.info? 50).map (fun i => (i.zero, i.size, i.bytes)) = some (some (.agg #[.int .i64 0, .int .i64 0, .int .i64 0, .int .u64 0]), 4, 32) := by kernel_rfl
def patchR (l : List S50) (a n : Int) : List S50 × Int :=
 if a < 0 ∨ (l.length : Int) ≤ a then ([], 1)
 else if okI (qA3 l a).f0 n (qA3 l a).f2.f0 (qA3 l a).f2.f1 = true then (l.set a.toNat ⟨(qA3 l a).f0, n, (qA3 l a).f2⟩, 0)
 else ([], 51)
theorem patch_out (A : Option Addr) (c : Nat) (l : List S50) (a n : Int) (W : World) (h : a < 0 ∨ (l.length : Int) ≤ a) :
  Calls Tryz.prog 34 #[.slice A l.length c, .int .i64 a, .int .i64 n] W fun e w' => e = .returned (.tuple #[.slice none 0 0, .int .i64 1]) ∧ Below W.heap.size W w' := by
 obtain ⟨m, hm⟩ : ∃ m, m = l.length := ⟨_, rfl⟩
 rw [← hm] at h ⊢
 clear hm
 by_cases h0 : a < 0
 ·go_enter Tryz.func34, Tryz.ntmps34
  go_wp2
  go_ret2
  exact ⟨rfl, Below.refl _ _⟩
 ·have h1 : (m : Int) ≤ a := by omega
  clear h
  go_enter Tryz.func34, Tryz.ntmps34
  go_wp2
  go_ret2
  exact ⟨rfl, Below.refl _ _⟩
theorem patch_in (A : Option Addr) (c : Nat) (l : List S50) (a n : Int) (W : World) (hr : Kd.C k50 W A l.length l) (h0 : 0 ≤ a) (h1 : a < l.length) (hl : l.length ≤ 2000000) (hu : 0 ≤ (qA3 l a).f2.f1 ∧ (qA3 l a).f2.f1 < 18446744073709551616) :
  Calls Tryz.prog 34 #[.slice A l.length c, .int .i64 a, .int .i64 n] W fun e w' => ∃ v, e = .returned (.tuple #[v, .int .i64 (patchR l a n).2]) ∧ Kd.R k50 50 w' W.heap.size (fun _ => True) v (patchR l a n).1 ∧ Below W.heap.size W w' := by
 obtain ⟨ad, e1, k0, k1, k2, k3⟩ := qCr hr a h0 h1
 subst e1
 have hP : patchR l a n = if okI (qA3 l a).f0 n (qA3 l a).f2.f0 (qA3 l a).f2.f1 = true then (l.set a.toNat ⟨(qA3 l a).f0, n, (qA3 l a).f2⟩, 0) else ([], 51) := by unfold patchR; rw [if_neg (by omega)]
 rw [hP]
 clear hP
 generalize hx : qA3 l a = x at hu k0 k1 k2 k3 ⊢
 obtain ⟨x0, x1, x2, x3⟩ := x
 simp only at hu k0 k1 k2 k3 ⊢
 obtain ⟨b, hb⟩ : ∃ b, b = okI x0 n x2 x3 := ⟨_, rfl⟩
 have hR := fun w => RIns.rright_ins x0 n x2 x3 hu w
 rw [← hb] at hR ⊢
 have HR := am hR
 obtain ⟨m, hm⟩ : ∃ m, m = l.length := ⟨_, rfl⟩
 rw [← hm] at hr h1 hl ⊢
 have HC := am hr
 have HM := am hm
 have HL := am hl
 clear hx hR hb hu hr hm hl
 have HBB : qAd (Below W.heap.size W (W.alloc (.cells #[.int .i64 x0, .int .i64 n, .int .i64 x2, .int .u64 x3] 50))) := ⟨(Below.refl _ _).alloc (Nat.le_refl _) _⟩
 have HBX : qAd ((W.alloc (.cells #[.int .i64 x0, .int .i64 n, .int .i64 x2, .int .u64 x3] 50)).heap[W.heap.size]? = some (.cells #[.int .i64 x0, .int .i64 n, .int .i64 x2, .int .u64 x3] 50 (0, 0))) := ⟨qBb W _⟩
 cases b with
 | false =>
  rw [if_neg (by decide)]
  go_enter Tryz.func34, Tryz.ntmps34
  go_wp2_with (go_at_call 23; refine (HR.out _).mono ?_; rintro e w1 ⟨rfl, hb1⟩; have HB1 : qAd (Below W.heap.size W w1) := ⟨HBB.out.trans (hb1.mono HBB.out.size)⟩; clear hb1)
  go_ret2
  exact ⟨_, rfl, Kd.R_nil _ _ _ _ _, HB1.out⟩
 | true =>
  rw [if_pos rfl]
  go_enter Tryz.func34, Tryz.ntmps34
  go_wp2_with (first
    | (go_at_call 23; refine (HR.out _).mono ?_; rintro e w1 ⟨rfl, hb1⟩; have HB1 : qAd (Below W.heap.size W w1) := ⟨HBB.out.trans (hb1.mono HBB.out.size)⟩; have HB8 := am (qAk HBX.out hb1); have g0 := (qAa HB8.out 0).trans rfl; have g1 := (qAa HB8.out 1).trans rfl; have g2 := (qAa HB8.out 2).trans rfl; have g3 := (qAa HB8.out 3).trans rfl; clear hb1)
    | (at_builtin; refine Kd.R_append_rows k50 (w0 := W) W.heap.size rfl (.tmp 27) (.tmp 28) 25 50 _ 32 rfl Tryz.underlying25 vinfo_rins rfl (by decide) (by decide) _ [] l (some ad) m c (fun k_ => k_ ≠ W.heap.size) (fun _ => False) rfl rfl (Kd.R_nil _ _ _ _ (fun k_ => k_ ≠ W.heap.size)) (Kd.C_below HC.out HB1.out) ?h0 ?h1 ?h2 ?h3 ?h4 ?h5 ?_; (case h0 => exact fun x cs h => by obtain rfl := k50_open h; exact k50_mkM _ _ _ x); (case h1 => exact fun k hk => hk.elim); (case h2 => exact fun k_ hk => Kd.freshB (g := W.heap.size) (o := .cells #[.int .i64 x0, .int .i64 n, .int .i64 x2, .int .u64 x3] 50 (0, 0)) HB8.out k_ hk); (case h3 => exact HB1.out); (case h4 => exact HB1.out.size); (case h5 => have := HL.out; simp; omega); intro v1 w2 hN hB hg hat; rw [List.nil_append] at hN; have HB8' := am (qBN (g := W.heap.size) (o := .cells #[.int .i64 x0, .int .i64 n, .int .i64 x2, .int .u64 x3] 50 (0, 0)) HB8.out hg (show some W.heap.size ≠ (Value.slice none 0 0).ownBlock by simp [Value.ownBlock])); clear hg hat g0 g1 g2 g3; have h1' : a < (l.length : Int) := by rw [← HM.out]; exact h1
       obtain ⟨go, co, eo, gb, gl, cl, HG⟩ := Kd.R_form hN (by omega)
       subst eo
       obtain ⟨ce, hcl, hK, hcc, hfr⟩ := Kd.R_elem hN z50 a h0 h1'
       obtain rfl := k50_openM hK
       have HP := am (Kd.R_seg hN a h0 h1' (seg := [.int .i64 x0, .int .i64 n, .int .i64 x2, .int .u64 x3]) (j := 0) hcl hcc (show 4 ≤ 4 from by decide) (x' := ⟨x0, n, ⟨x2, x3⟩⟩) (k50_mkM _ _ _ ⟨x0, n, ⟨x2, x3⟩⟩) (fun _ hk => hk)).1
       have y0 : w2.cell? ⟨go, a.toNat * 4, none⟩ = some (.int .i64 (qA3 l a).f0) := hcc 0 _ rfl
       have y1 : w2.cell? ⟨go, a.toNat * 4 + 1, none⟩ = some (.int .i64 (qA3 l a).f1) := hcc 1 _ rfl
       have y2 : w2.cell? ⟨go, a.toNat * 4 + 2, none⟩ = some (.int .i64 (qA3 l a).f2.f0) := hcc 2 _ rfl
       have y3 : w2.cell? ⟨go, a.toNat * 4 + 3, none⟩ = some (.int .u64 (qA3 l a).f2.f1) := hcc 3 _ rfl
       have q0 : w2.frozen? ⟨go, a.toNat * 4, none⟩ = false := hfr 0
       have q1 : w2.frozen? ⟨go, a.toNat * 4 + 1, none⟩ = false := hfr 1
       have q2 : w2.frozen? ⟨go, a.toNat * 4 + 2, none⟩ = false := hfr 2
       have q3 : w2.frozen? ⟨go, a.toNat * 4 + 3, none⟩ = false := hfr 3
       have g0 := (qAa HB8'.out 0).trans rfl
       have g1 := (qAa HB8'.out 1).trans rfl
       have g2 := (qAa HB8'.out 2).trans rfl
       have g3 := (qAa HB8'.out 3).trans rfl
       have HB2 := am hB
       have HGB := am gb
       clear hB gb gl cl HG hcl hK hcc hfr hN HB8 k0 k1 k2 k3))
  go_ret2
  exact ⟨_, rfl, Kd.R_mono HP.out (fun _ _ => trivial), qAi (qAi (qAi (qAi HB2.out HGB.out) HGB.out) HGB.out) HGB.out⟩
end RP
end Q
end
section
namespace Q
open Go.RowKit YA YC YB
def foundryref14_Patch.f (_k : Nat) (l0 : List S50) (a1 a2 : Int) : Option (List S50 × Int) :=
 if l0.length ≤ 2000000 ∧ (¬(a1 < 0 ∨ (l0.length : Int) ≤ a1) → 0 ≤ (qA3 l0 a1).f2.f1 ∧ (qA3 l0 a1).f2.f1 < 18446744073709551616) then some (RP.patchR l0 a1 a2) else none
theorem foundryref14_Patch.calls (k : Nat) (A0 : Option Addr) (c0 : Nat) (l0 : List S50) (a1 : Int) (a2 : Int) (r1 : List S50) (r2 : Int) (w : World) (hr0 : Kd.C k50 w A0 l0.length l0) (hc0 : l0.length ≤ c0) (h : foundryref14_Patch.f k l0 a1 a2 = some (r1, r2)) :
  Calls Tryz.prog 34 #[.slice A0 l0.length c0, .int .i64 a1, .int .i64 a2] w fun e w' => ∃ v0_, e = .returned (.tuple #[v0_, .int .i64 r2]) ∧ Kd.R k50 50 w' w.heap.size (fun _ => True) v0_ r1 ∧ Below w.heap.size w w' := by
 unfold foundryref14_Patch.f at h
 split at h
 ·rename_i hg
  have e : RP.patchR l0 a1 a2 = (r1, r2) := Option.some.inj h
  by_cases ho : a1 < 0 ∨ (l0.length : Int) ≤ a1
  ·refine (RP.patch_out A0 c0 l0 a1 a2 w ho).mono ?_
   rintro e' w' ⟨rfl, hb⟩
   unfold RP.patchR at e
   rw [if_pos ho] at e
   cases e
   exact ⟨_, rfl, Kd.R_nil _ _ _ _ _, hb⟩
  ·refine (RP.patch_in A0 c0 l0 a1 a2 w hr0 (by omega) (by omega) hg.1 (hg.2 ho)).mono ?_
   rw [e]
   exact fun _ _ h => h
 ·cases h
end Q
end
section
namespace Q
open Go.RowKit YA YC YB
attribute [local go_sem] max2_int min2_int max_two min_two max_three min_three max_four min_four
mutual
def foundrylaw14_CodePatches.j0 : Nat → List (S50) → List (S51) → List (S51) → Bool → Option (Bool)
 | 0, _, _, _, _ => none
 | k + 1, x0, x7, x8, bd => if bd = true then (none) else (foundrylaw14_CodePatches.l0 k x0 x7 x8 0)
def foundrylaw14_CodePatches.l0 : Nat → List (S50) → List (S51) → List (S51) → Int → Option (Bool)
 | 0, _, _, _, _ => none
 | k + 1, x0, x7, x8, a7 => if a7 < (x8.length : Int) then (if 0 ≤ a7 then (foundrylaw14_CodePatches.l0 k x0 x7 (x8.set (a7 : Int).toNat (⟨77, (qA0 x8 a7).f1, (⟨(qA0 x8 a7).f2.f0, (qA0 x8 a7).f2.f1⟩ : S48)⟩ : S51)) (wrap64 (a7 + 1))) else (none)) else ((qAl.f k x7 x0).bind fun aY => (if aY = true then ((qAz.f).bind fun aS => (some aS)) else (none)))
end
def foundrylaw14_CodePatches.f (k : Nat) (l0 : List (S50)) (a1 : Int) (a2 : Int) : Option (Bool) := (qAy.f k l0).bind fun aB => ((code_Patch.f k aB a1 a2).bind fun aG => ((foundryref14_Patch.f k l0 a1 a2).bind fun aJ => ((qAl.f k aG.1 aJ.1).bind fun aM => (if aM = true then (if aG.2 = aJ.2 then ((qAl.f k aB l0).bind fun aK => (foundrylaw14_CodePatches.j0 k l0 aB aG.1 (!aK))) else (foundrylaw14_CodePatches.j0 k l0 aB aG.1 true)) else (foundrylaw14_CodePatches.j0 k l0 aB aG.1 true)))))
theorem foundrylaw14_CodePatches.calls (k : Nat) (A0 : Option Addr) (c0 : Nat) (l0 : List (S50)) (a1 : Int) (a2 : Int) (r : Bool) (w : World) (hr0 : Kd.C k50 w A0 l0.length l0) (hc0 : l0.length ≤ c0) (h : foundrylaw14_CodePatches.f k l0 a1 a2 = some r) :
  Calls Tryz.prog 9 #[.slice A0 l0.length c0, .int .i64 a1, .int .i64 a2] w fun e w' => e = .returned (.bool r) ∧ Below w.heap.size w w' := by
 have al := am hr0
 have ak := am hc0
 clear hr0 hc0
 have HB := am (Below.refl w.heap.size w)
 have H : ((qAy.f k l0).bind fun aB => ((code_Patch.f k aB a1 a2).bind fun aG => ((foundryref14_Patch.f k l0 a1 a2).bind fun aJ => ((qAl.f k aG.1 aJ.1).bind fun aM => (if aM = true then (if aG.2 = aJ.2 then ((qAl.f k aB l0).bind fun aK => (foundrylaw14_CodePatches.j0 k l0 aB aG.1 (!aK))) else (foundrylaw14_CodePatches.j0 k l0 aB aG.1 true)) else (foundrylaw14_CodePatches.j0 k l0 aB aG.1 true)))))) = some r := h
 clear h
 replace H := bm H
 obtain ⟨aB, bV, H⟩ := H
 replace H : ((code_Patch.f k aB a1 a2).bind fun aG => ((foundryref14_Patch.f k l0 a1 a2).bind fun aJ => ((qAl.f k aG.1 aJ.1).bind fun aM => (if aM = true then (if aG.2 = aJ.2 then ((qAl.f k aB l0).bind fun aK => (foundrylaw14_CodePatches.j0 k l0 aB aG.1 (!aK))) else (foundrylaw14_CodePatches.j0 k l0 aB aG.1 true)) else (foundrylaw14_CodePatches.j0 k l0 aB aG.1 true))))) = some r := H
 have A4 := am bV
 clear bV
 replace H := bm H
 obtain ⟨⟨aH, aO⟩, bW, H⟩ := H
 replace H : ((foundryref14_Patch.f k l0 a1 a2).bind fun aJ => ((qAl.f k aH aJ.1).bind fun aM => (if aM = true then (if aO = aJ.2 then ((qAl.f k aB l0).bind fun aK => (foundrylaw14_CodePatches.j0 k l0 aB aH (!aK))) else (foundrylaw14_CodePatches.j0 k l0 aB aH true)) else (foundrylaw14_CodePatches.j0 k l0 aB aH true)))) = some r := H
 have A5 := am bW
 clear bW
 replace H := bm H
 obtain ⟨⟨aR, aP⟩, bX, H⟩ := H
 replace H : ((qAl.f k aH aR).bind fun aM => (if aM = true then (if aO = aP then ((qAl.f k aB l0).bind fun aK => (foundrylaw14_CodePatches.j0 k l0 aB aH (!aK))) else (foundrylaw14_CodePatches.j0 k l0 aB aH true)) else (foundrylaw14_CodePatches.j0 k l0 aB aH true))) = some r := H
 have A6 := am bX
 clear bX
 have ay := am H
 clear H
 go_enter Tryz.func9, Tryz.ntmps9
 go_upto_region 4 with (first | ((with_reducible refine qA7 (f := 32) rfl ?_); refine qBG (some 14) rfl rfl Tryz.func32 (by kernel_rfl) rfl #[.slice A0 l0.length c0] rfl (by (try simp only [List.map_toArray, List.map_cons, List.map_nil]); first | done | rfl | (simp only [List.length_drop, List.length_take]; rfl)) ?_; (with_reducible refine (qAy.calls k _ _ l0 aB _ ?side1 ?side2 A4.o).mono ?_); (case side1 => repeat (first | exact al.o | (with_reducible refine Kd.C_alloc ?_ _) | (with_reducible refine Kd.C_drewN ?_ _) | (with_reducible refine Kd.C_drew ?_))); (case side2 => exact ak.o); rintro e w8 ⟨bb, rfl, aX, hb⟩; refine ⟨_, rfl, ?_⟩; have n0_ := am (Kd.R_lower aX (qAm (by repeat (first | (with_reducible first | exact HB.o | apply qAg | apply qAe | apply qAj) | exact HB.o)))); have n1_ := am (qAq (by repeat (first | (with_reducible first | exact HB.o | apply qAg | apply qAe | apply qAj) | exact HB.o)) hb); clear HB; have aC := n0_; have HB := n1_; clear n0_ n1_; obtain ⟨a3, a4, b8⟩ := Kd.R_slice aC.o; subst b8) | ((with_reducible refine qA7 (f := 33) rfl ?_); refine qBG (some 19) rfl rfl Tryz.func33 (by kernel_rfl) rfl #[.slice a3 aB.length a4, .int .i64 a1, .int .i64 a2] rfl (by (try simp only [List.map_toArray, List.map_cons, List.map_nil]); first | done | rfl | (simp only [List.length_drop, List.length_take]; rfl)) ?_; (with_reducible refine (code_Patch.calls k _ _ aB a1 a2 aH aO _ ?side1 ?side2 A5.o).mono ?_); (case side1 => repeat (first | exact (Kd.R_reads' aC.o).2.2 | (with_reducible refine Kd.C_alloc ?_ _) | (with_reducible refine Kd.C_drewN ?_ _) | (with_reducible refine Kd.C_drew ?_))); (case side2 => exact (Kd.R_reads' aC.o).2.1); rintro e bg ⟨aZ, rfl, aX, hb⟩; refine ⟨_, rfl, ?_⟩; have n0_ := am (Kd.R_elder' (by (with_reducible repeat (first | apply Kd.R_alloc | apply Kd.R_drewN | apply Kd.R_drew)); exact aC.o) (Kd.R_base aX) hb); have n1_ := am (Kd.R_lower (Kd.R_new' aX (Kd.R_lt (by (with_reducible repeat (first | apply Kd.R_alloc | apply Kd.R_drewN | apply Kd.R_drew)); exact aC.o))) (qAm (by repeat (first | (with_reducible first | exact HB.o | apply qAg | apply qAe | apply qAj) | exact HB.o)))); have n2_ := am (qAq (by repeat (first | (with_reducible first | exact HB.o | apply qAg | apply qAe | apply qAj) | exact HB.o)) hb); clear aC; clear HB; have aC := n0_; have aD := n1_; have HB := n2_; clear n0_ n1_ n2_) | ((with_reducible refine qA7 (f := 34) rfl ?_); refine qBG (some 26) rfl rfl Tryz.func34 (by kernel_rfl) rfl #[.slice A0 l0.length c0, .int .i64 a1, .int .i64 a2] rfl (by (try simp only [List.map_toArray, List.map_cons, List.map_nil]); first | done | rfl | (simp only [List.length_drop, List.length_take]; rfl)) ?_; (with_reducible refine (foundryref14_Patch.calls k _ _ l0 a1 a2 aR aP _ ?side1 ?side2 A6.o).mono ?_); (case side1 => repeat (first | exact (Kd.C_below al.o HB.o) | (with_reducible refine Kd.C_alloc ?_ _) | (with_reducible refine Kd.C_drewN ?_ _) | (with_reducible refine Kd.C_drew ?_))); (case side2 => exact ak.o); rintro e bh ⟨bc, rfl, aX, hb⟩; refine ⟨_, rfl, ?_⟩; have n0_ := am (Kd.R_below (by (with_reducible repeat (first | apply Kd.R_alloc | apply Kd.R_drewN | apply Kd.R_drew)); exact aC.o) hb); have n1_ := am (Kd.R_below (by (with_reducible repeat (first | apply Kd.R_alloc | apply Kd.R_drewN | apply Kd.R_drew)); exact aD.o) hb); have n2_ := am (Kd.R_lower aX (qAm (by repeat (first | (with_reducible first | exact HB.o | apply qAg | apply qAe | apply qAj) | exact HB.o)))); have n3_ := am (qAq (by repeat (first | (with_reducible first | exact HB.o | apply qAg | apply qAe | apply qAj) | exact HB.o)) hb); clear aC; clear aD; clear HB; have aC := n0_; have aD := n1_; have aE := n2_; have HB := n3_; clear n0_ n1_ n2_ n3_))
 (try simp only [Act.put, List.setIfInBounds_toArray, List.set_cons_zero, List.set_cons_succ])
 go_cut [43] (fun ba wc => ∃ (kq : Nat) (aT : Bool), ba = .bool aT ∧ qAd (foundrylaw14_CodePatches.j0 kq l0 aB aH aT = some r) ∧ qAd (kq ≤ k) ∧ qAd (Kd.R k51 51 wc w.heap.size (fun k_ => some k_ ≠ (aZ : Value).ownBlock) (.slice a3 aB.length a4) aB) ∧ qAd (Kd.R k51 51 wc w.heap.size (fun k_ => some k_ ≠ ((.slice a3 aB.length a4) : Value).ownBlock) aZ aH) ∧ qAd (Below w.heap.size w wc))
 case first =>
  have H := ay.o
  clear ay
  replace H := bm H
  obtain ⟨aM, ab, H⟩ := H
  replace H : (if aM = true then (if aO = aP then ((qAl.f k aB l0).bind fun aK => (foundrylaw14_CodePatches.j0 k l0 aB aH (!aK))) else (foundrylaw14_CodePatches.j0 k l0 aB aH true)) else (foundrylaw14_CodePatches.j0 k l0 aB aH true)) = some r := H
  have ap := am ab
  clear ab
  by_cases a9 : aM = true
  rotate_left
  ·replace a9 := Bool.eq_false_iff.mpr a9
   subst a9
   replace H : (foundrylaw14_CodePatches.j0 k l0 aB aH true) = some r := by rw [if_neg (show ¬ (false = true) by decide)] at H; exact H
   have H' := am H
   clear H
   obtain ⟨aw, bD, bJ⟩ := Kd.R_slice aD.o
   subst bJ
   obtain ⟨ax, bE, bK⟩ := Kd.R_slice aE.o
   subst bK
   go_wp2_with (first | ((with_reducible refine qA7 (f := 35) rfl ?_); refine qBG (some 31) rfl rfl Tryz.func35 (by kernel_rfl) rfl #[.slice aw aH.length bD, .slice ax aR.length bE] rfl (by (try simp only [List.map_toArray, List.map_cons, List.map_nil]); first | done | rfl | (simp only [List.length_drop, List.length_take]; rfl)) ?_; (with_reducible refine (qAl.calls k _ _ aH _ _ aR false _ ?side1 ?side2 ?side3 ?side4 ap.o).mono ?_); (case side1 => repeat (first | exact (Kd.R_reads' aD.o).2.2 | (with_reducible refine Kd.C_alloc ?_ _) | (with_reducible refine Kd.C_drewN ?_ _) | (with_reducible refine Kd.C_drew ?_))); (case side2 => exact (Kd.R_reads' aD.o).2.1); (case side3 => repeat (first | exact (Kd.R_reads' aE.o).2.2 | (with_reducible refine Kd.C_alloc ?_ _) | (with_reducible refine Kd.C_drewN ?_ _) | (with_reducible refine Kd.C_drew ?_))); (case side4 => exact (Kd.R_reads' aE.o).2.1); rintro e bl ⟨rfl, hb⟩; refine ⟨_, rfl, ?_⟩; have n0_ := am (Kd.R_below (by (with_reducible repeat (first | apply Kd.R_alloc | apply Kd.R_drewN | apply Kd.R_drew)); exact aC.o) hb); have n1_ := am (Kd.R_below (by (with_reducible repeat (first | apply Kd.R_alloc | apply Kd.R_drewN | apply Kd.R_drew)); exact aD.o) hb); have n2_ := am (Kd.R_below (by (with_reducible repeat (first | apply Kd.R_alloc | apply Kd.R_drewN | apply Kd.R_drew)); exact aE.o) hb); have n3_ := am (qAq (by repeat (first | (with_reducible first | exact HB.o | apply qAg | apply qAe | apply qAj) | exact HB.o)) hb); clear aC; clear aD; clear aE; clear HB; have aC := n0_; have aD := n1_; have aE := n2_; have HB := n3_; clear n0_ n1_ n2_ n3_))
   go_meet
   case rel => exact ⟨_, (true), (by first | rfl | (simp; done) | (simp [*]; done)), H', ⟨by first | omega | exact Nat.le_refl _⟩, ⟨by (with_reducible repeat (first | apply Kd.R_alloc | apply Kd.R_drewN | apply Kd.R_drew)); exact Kd.R_mono aC.o (fun _ hk => hk.2)⟩, ⟨by (with_reducible repeat (first | apply Kd.R_alloc | apply Kd.R_drewN | apply Kd.R_drew)); exact Kd.R_mono aD.o (fun _ hk => hk.2)⟩, ⟨by repeat (first | (with_reducible first | exact HB.o | apply qAg | apply qAe | apply qAj) | exact HB.o)⟩⟩
  subst a9
  replace H : (if aO = aP then ((qAl.f k aB l0).bind fun aK => (foundrylaw14_CodePatches.j0 k l0 aB aH (!aK))) else (foundrylaw14_CodePatches.j0 k l0 aB aH true)) = some r := by rw [if_pos rfl] at H; exact H
  by_cases aV : aO = aP
  rotate_left
  ·rw [if_neg aV] at H
   have aN : (aO == aP) = false := bf aV
   have aU : (aO != aP) = true := bne_iff_ne.mpr aV
   (first | rw [aN] | (simp only [qAr, i32_w]; rw [aN]) | skip)
   have H' := am H
   clear H
   obtain ⟨au, bB, bH⟩ := Kd.R_slice aD.o
   subst bH
   obtain ⟨av, bC, bI⟩ := Kd.R_slice aE.o
   subst bI
   go_wp2_with (first | ((with_reducible refine qA7 (f := 35) rfl ?_); refine qBG (some 31) rfl rfl Tryz.func35 (by kernel_rfl) rfl #[.slice au aH.length bB, .slice av aR.length bC] rfl (by (try simp only [List.map_toArray, List.map_cons, List.map_nil]); first | done | rfl | (simp only [List.length_drop, List.length_take]; rfl)) ?_; (with_reducible refine (qAl.calls k _ _ aH _ _ aR true _ ?side1 ?side2 ?side3 ?side4 ap.o).mono ?_); (case side1 => repeat (first | exact (Kd.R_reads' aD.o).2.2 | (with_reducible refine Kd.C_alloc ?_ _) | (with_reducible refine Kd.C_drewN ?_ _) | (with_reducible refine Kd.C_drew ?_))); (case side2 => exact (Kd.R_reads' aD.o).2.1); (case side3 => repeat (first | exact (Kd.R_reads' aE.o).2.2 | (with_reducible refine Kd.C_alloc ?_ _) | (with_reducible refine Kd.C_drewN ?_ _) | (with_reducible refine Kd.C_drew ?_))); (case side4 => exact (Kd.R_reads' aE.o).2.1); rintro e bk ⟨rfl, hb⟩; refine ⟨_, rfl, ?_⟩; have n0_ := am (Kd.R_below (by (with_reducible repeat (first | apply Kd.R_alloc | apply Kd.R_drewN | apply Kd.R_drew)); exact aC.o) hb); have n1_ := am (Kd.R_below (by (with_reducible repeat (first | apply Kd.R_alloc | apply Kd.R_drewN | apply Kd.R_drew)); exact aD.o) hb); have n2_ := am (Kd.R_below (by (with_reducible repeat (first | apply Kd.R_alloc | apply Kd.R_drewN | apply Kd.R_drew)); exact aE.o) hb); have n3_ := am (qAq (by repeat (first | (with_reducible first | exact HB.o | apply qAg | apply qAe | apply qAj) | exact HB.o)) hb); clear aC; clear aD; clear aE; clear HB; have aC := n0_; have aD := n1_; have aE := n2_; have HB := n3_; clear n0_ n1_ n2_ n3_))
   go_meet
   case rel => exact ⟨_, (true), (by first | rfl | (simp; done) | (simp [*]; done)), H', ⟨by first | omega | exact Nat.le_refl _⟩, ⟨by (with_reducible repeat (first | apply Kd.R_alloc | apply Kd.R_drewN | apply Kd.R_drew)); exact Kd.R_mono aC.o (fun _ hk => hk.2)⟩, ⟨by (with_reducible repeat (first | apply Kd.R_alloc | apply Kd.R_drewN | apply Kd.R_drew)); exact Kd.R_mono aD.o (fun _ hk => hk.2)⟩, ⟨by repeat (first | (with_reducible first | exact HB.o | apply qAg | apply qAe | apply qAj) | exact HB.o)⟩⟩
  rw [if_pos aV] at H
  have aN : (aO == aP) = true := beq_iff_eq.mpr aV
  have aU : (aO != aP) = false := bn aV
  clear aV
  (first | rw [aN] | (simp only [qAr, i32_w]; rw [aN]) | skip)
  replace H := bm H
  obtain ⟨aK, ac, H⟩ := H
  replace H : (foundrylaw14_CodePatches.j0 k l0 aB aH (!aK)) = some r := H
  have b1 := am ac
  clear ac
  have H' := am H
  clear H
  obtain ⟨aq, az, bF⟩ := Kd.R_slice aD.o
  subst bF
  obtain ⟨ar, bA, bG⟩ := Kd.R_slice aE.o
  subst bG
  go_wp2_with (first | ((with_reducible refine qA7 (f := 35) rfl ?_); refine qBG (some 31) rfl rfl Tryz.func35 (by kernel_rfl) rfl #[.slice aq aH.length az, .slice ar aR.length bA] rfl (by (try simp only [List.map_toArray, List.map_cons, List.map_nil]); first | done | rfl | (simp only [List.length_drop, List.length_take]; rfl)) ?_; (with_reducible refine (qAl.calls k _ _ aH _ _ aR true _ ?side1 ?side2 ?side3 ?side4 ap.o).mono ?_); (case side1 => repeat (first | exact (Kd.R_reads' aD.o).2.2 | (with_reducible refine Kd.C_alloc ?_ _) | (with_reducible refine Kd.C_drewN ?_ _) | (with_reducible refine Kd.C_drew ?_))); (case side2 => exact (Kd.R_reads' aD.o).2.1); (case side3 => repeat (first | exact (Kd.R_reads' aE.o).2.2 | (with_reducible refine Kd.C_alloc ?_ _) | (with_reducible refine Kd.C_drewN ?_ _) | (with_reducible refine Kd.C_drew ?_))); (case side4 => exact (Kd.R_reads' aE.o).2.1); rintro e bi ⟨rfl, hb⟩; refine ⟨_, rfl, ?_⟩; have n0_ := am (Kd.R_below (by (with_reducible repeat (first | apply Kd.R_alloc | apply Kd.R_drewN | apply Kd.R_drew)); exact aC.o) hb); have n1_ := am (Kd.R_below (by (with_reducible repeat (first | apply Kd.R_alloc | apply Kd.R_drewN | apply Kd.R_drew)); exact aD.o) hb); have n2_ := am (Kd.R_below (by (with_reducible repeat (first | apply Kd.R_alloc | apply Kd.R_drewN | apply Kd.R_drew)); exact aE.o) hb); have n3_ := am (qAq (by repeat (first | (with_reducible first | exact HB.o | apply qAg | apply qAe | apply qAj) | exact HB.o)) hb); clear aC; clear aD; clear aE; clear HB; have aC := n0_; have aD := n1_; have aE := n2_; have HB := n3_; clear n0_ n1_ n2_ n3_) | (go_at_call 35; (with_reducible refine (qAl.calls k _ _ aB _ _ l0 aK _ ?side1 ?side2 ?side3 ?side4 b1.o).mono ?_); (case side1 => repeat (first | exact (Kd.R_reads' aC.o).2.2 | (with_reducible refine Kd.C_alloc ?_ _) | (with_reducible refine Kd.C_drewN ?_ _) | (with_reducible refine Kd.C_drew ?_))); (case side2 => exact (Kd.R_reads' aC.o).2.1); (case side3 => repeat (first | exact (Kd.C_below al.o HB.o) | (with_reducible refine Kd.C_alloc ?_ _) | (with_reducible refine Kd.C_drewN ?_ _) | (with_reducible refine Kd.C_drew ?_))); (case side4 => exact ak.o); rintro e bj ⟨rfl, hb⟩; have n0_ := am (Kd.R_below (by (with_reducible repeat (first | apply Kd.R_alloc | apply Kd.R_drewN | apply Kd.R_drew)); exact aC.o) hb); have n1_ := am (Kd.R_below (by (with_reducible repeat (first | apply Kd.R_alloc | apply Kd.R_drewN | apply Kd.R_drew)); exact aD.o) hb); have n2_ := am (Kd.R_below (by (with_reducible repeat (first | apply Kd.R_alloc | apply Kd.R_drewN | apply Kd.R_drew)); exact aE.o) hb); have n3_ := am (qAq (by repeat (first | (with_reducible first | exact HB.o | apply qAg | apply qAe | apply qAj) | exact HB.o)) hb); clear aC; clear aD; clear aE; clear HB; have aC := n0_; have aD := n1_; have aE := n2_; have HB := n3_; clear n0_ n1_ n2_ n3_))
  go_meet
  case rel => exact ⟨_, (!aK), (by first | rfl | (simp; done) | (simp [*]; done)), H', ⟨by first | omega | exact Nat.le_refl _⟩, ⟨by (with_reducible repeat (first | apply Kd.R_alloc | apply Kd.R_drewN | apply Kd.R_drew)); exact Kd.R_mono aC.o (fun _ hk => hk.2)⟩, ⟨by (with_reducible repeat (first | apply Kd.R_alloc | apply Kd.R_drewN | apply Kd.R_drew)); exact Kd.R_mono aD.o (fun _ hk => hk.2)⟩, ⟨by repeat (first | (with_reducible first | exact HB.o | apply qAg | apply qAe | apply qAj) | exact HB.o)⟩⟩
 case rest =>
  clear ay
  obtain ⟨kq, aT, rfl, HA, bY, aL, aI, HB⟩ := hcut
  cases kq with
  | zero => exact absurd HA.o (by simp [foundrylaw14_CodePatches.j0])
  | succ bR =>
   have H := HA.o
   clear HA
   simp only [foundrylaw14_CodePatches.j0] at H
   by_cases ag : aT = true
   ·subst ag
    replace H : (none) = some r := by rw [if_pos rfl] at H; exact H
    exact absurd H (by simp)
   replace ag := Bool.eq_false_iff.mpr ag
   subst ag
   replace H : (foundrylaw14_CodePatches.l0 bR l0 aB aH 0) = some r := by rw [if_neg (show ¬ (false = true) by decide)] at H; exact H
   have H' := am H
   clear H
   go_wp2
   go_loopg [12] bR (fun kq b9 w' => ∃ (aF : List (S51)) (aA : Int), b9 = .int .i64 aA ∧ qAd (foundrylaw14_CodePatches.l0 kq l0 aB aF aA = some r) ∧ qAd (kq ≤ bR) ∧ qAd (Kd.R k51 51 w' w.heap.size (fun k_ => some k_ ≠ (aZ : Value).ownBlock) (.slice a3 aB.length a4) aB) ∧ qAd (Kd.R k51 51 w' w.heap.size (fun k_ => some k_ ≠ ((.slice a3 aB.length a4) : Value).ownBlock) aZ aF) ∧ qAd (Below w.heap.size w w'))
   case atStart => exact ⟨(aH), (0), (by first | rfl | (simp; done) | (simp [*]; done)), H', ⟨Nat.le_refl _⟩, ⟨by (with_reducible repeat (first | apply Kd.R_alloc | apply Kd.R_drewN | apply Kd.R_drew)); exact aL.o⟩, ⟨by (with_reducible repeat (first | apply Kd.R_alloc | apply Kd.R_drewN | apply Kd.R_drew)); exact aI.o⟩, ⟨by repeat (first | (with_reducible first | exact HB.o | apply qAg | apply qAe | apply qAj) | exact HB.o)⟩⟩
   case round =>
    clear H'
    obtain ⟨aF, aA, rfl, HA, bZ, aL, aI, HB⟩ := hrel
    cases gk with
    | zero => exact absurd HA.o (by simp [foundrylaw14_CodePatches.l0])
    | succ k2 =>
     have H := HA.o
     clear HA
     simp only [foundrylaw14_CodePatches.l0] at H
     by_cases aa : aA < (aF.length : Int)
     rotate_left
     ·rw [if_neg aa] at H
      replace aa := d0 aa
      replace H := bm H
      obtain ⟨aY, ad, H⟩ := H
      replace H : (if aY = true then ((qAz.f).bind fun aS => (some aS)) else (none)) = some r := H
      have b2 := am ad
      clear ad
      by_cases ao : aY = true
      rotate_left
      ·replace ao := Bool.eq_false_iff.mpr ao
       subst ao
       replace H : (none) = some r := by rw [if_neg (show ¬ (false = true) by decide)] at H; exact H
       exact absurd H (by simp)
      subst ao
      replace H : ((qAz.f).bind fun aS => (some aS)) = some r := by rw [if_pos rfl] at H; exact H
      replace H := bm H
      obtain ⟨aS, ae, H⟩ := H
      replace H : (some aS) = some r := H
      have b3 := am ae
      clear ae
      obtain rfl := Option.some.inj H
      obtain ⟨b5, b7, bM⟩ := Kd.R_slice aI.o
      subst bM
      go_wp2_with (first | ((with_reducible refine qA7 (f := 35) rfl ?_); refine qBG (some 56) rfl rfl Tryz.func35 (by kernel_rfl) rfl #[.slice a3 aB.length a4, .slice A0 l0.length c0] rfl (by (try simp only [List.map_toArray, List.map_cons, List.map_nil]); first | done | rfl | (simp only [List.length_drop, List.length_take]; rfl)) ?_; (with_reducible refine (qAl.calls k2 _ _ aB _ _ l0 true _ ?side1 ?side2 ?side3 ?side4 b2.o).mono ?_); (case side1 => repeat (first | exact (Kd.R_reads' aL.o).2.2 | (with_reducible refine Kd.C_alloc ?_ _) | (with_reducible refine Kd.C_drewN ?_ _) | (with_reducible refine Kd.C_drew ?_))); (case side2 => exact (Kd.R_reads' aL.o).2.1); (case side3 => repeat (first | exact (Kd.C_below al.o HB.o) | (with_reducible refine Kd.C_alloc ?_ _) | (with_reducible refine Kd.C_drewN ?_ _) | (with_reducible refine Kd.C_drew ?_))); (case side4 => exact ak.o); rintro e bo ⟨rfl, hb⟩; refine ⟨_, rfl, ?_⟩; have n0_ := am (Kd.R_below (by (with_reducible repeat (first | apply Kd.R_alloc | apply Kd.R_drewN | apply Kd.R_drew)); exact aL.o) hb); have n1_ := am (Kd.R_below (by (with_reducible repeat (first | apply Kd.R_alloc | apply Kd.R_drewN | apply Kd.R_drew)); exact aI.o) hb); have n2_ := am (qAq (by repeat (first | (with_reducible first | exact HB.o | apply qAg | apply qAe | apply qAj) | exact HB.o)) hb); clear aL; clear aI; clear HB; have aL := n0_; have aI := n1_; have HB := n2_; clear n0_ n1_ n2_) | (go_at_call 17; (with_reducible refine (qAz.calls  aS _ b3.o).mono ?_); rintro e bp ⟨rfl, hb⟩; have n0_ := am (Kd.R_below (by (with_reducible repeat (first | apply Kd.R_alloc | apply Kd.R_drewN | apply Kd.R_drew)); exact aL.o) hb); have n1_ := am (Kd.R_below (by (with_reducible repeat (first | apply Kd.R_alloc | apply Kd.R_drewN | apply Kd.R_drew)); exact aI.o) hb); have n2_ := am (qAq (by repeat (first | (with_reducible first | exact HB.o | apply qAg | apply qAe | apply qAj) | exact HB.o)) hb); clear aL; clear aI; clear HB; have aL := n0_; have aI := n1_; have HB := n2_; clear n0_ n1_ n2_))
      go_ret
      exact ⟨by first | rfl | (simp [errW_none, errW_some] <;> rfl) | (simp [*, errW_none, errW_some] <;> rfl), by repeat (first | (with_reducible first | exact HB.o | apply qAg | apply qAe | apply qAj) | exact HB.o)⟩
     rw [if_pos aa] at H
     replace aa := d1 aa
     obtain ⟨an, H⟩ := gd H
     replace an := d1 an
     obtain ⟨a8, aQ⟩ : ∃ y_ : List (S51), y_ = (aF.set (aA : Int).toNat (⟨77, (qA0 aF aA).f1, (⟨(qA0 aF aA).f2.f0, (qA0 aF aA).f2.f1⟩ : S48)⟩ : S51)) := ⟨_, rfl⟩
     replace H : (foundrylaw14_CodePatches.l0 k2 l0 aB a8 (wrap64 (aA + 1))) = some r := by first | (rw [aQ]; with_reducible exact H) | (have H2_ := (Option.bind_some _ _).symm.trans H; rw [aQ]; with_reducible exact H2_) | (have H2_ := (Option.bind_some _ _).symm.trans H; with_reducible exact H2_) | with_reducible exact H | (rw [aQ]; exact H) | exact H
     have af := am aQ
     clear aQ
     have H' := am H
     clear H
     obtain ⟨b4, aW, bL⟩ := Kd.R_slice aI.o
     subst bL
     have bS : 0 ≤ (aA : Int) := of_decide_eq_true (by first | (with_reducible assumption) | assumption)
     have bT : (aA : Int) < ((aF.length : Int) : Int) := of_decide_eq_true (by first | (with_reducible assumption) | assumption)
     obtain ⟨go29, b6, ai, aj, gl29, cl29, HG29⟩ := Kd.R_form aI.o (by omega)
     (first | cases ai | (injection ai with ea_ en_ ec_; (first | subst ea_ | (injection ea_ with ea_; subst ea_)); subst ec_; clear en_))
     have GB29 := am aj
     have GG29 := am HG29
     clear aj gl29 HG29
     obtain ⟨ce29, hcl29, hM29, hcc29, hfr29⟩ := Kd.R_elem aI.o z51 (aA : Int) bS bT
     obtain rfl := k51_openM hM29
     have bN : wr.cell? ⟨go29, (aA : Int).toNat * 4, none⟩ = some (.int .i64 ((qA0 aF aA).f0)) := hcc29 0 _ rfl
     have bO : wr.cell? ⟨go29, (aA : Int).toNat * 4 + 1, none⟩ = some (.int .i64 ((qA0 aF aA).f1)) := hcc29 1 _ rfl
     have bP : wr.cell? ⟨go29, (aA : Int).toNat * 4 + 2, none⟩ = some (.int .i64 ((qA0 aF aA).f2.f0)) := hcc29 2 _ rfl
     have bQ : wr.cell? ⟨go29, (aA : Int).toNat * 4 + 3, none⟩ = some (.int .u64 ((qA0 aF aA).f2.f1)) := hcc29 3 _ rfl
     have hf29_0 : wr.frozen? ⟨go29, (aA : Int).toNat * 4, none⟩ = false := hfr29 0
     have hf29_1 : wr.frozen? ⟨go29, (aA : Int).toNat * 4 + 1, none⟩ = false := hfr29 1
     have hf29_2 : wr.frozen? ⟨go29, (aA : Int).toNat * 4 + 2, none⟩ = false := hfr29 2
     have hf29_3 : wr.frozen? ⟨go29, (aA : Int).toNat * 4 + 3, none⟩ = false := hfr29 3
     clear hcl29 hcc29 hfr29 hM29
     replace bS := eq_true bS
     replace bT := eq_true bT
     have HX31 := am (show Kd.R k51 51 wr w.heap.size (fun k_ => some k_ ≠ (.slice a3 aB.length a4 : Value).ownBlock) (.slice (some ⟨go29, 0, none⟩) aF.length aW) aF from (by (with_reducible repeat (first | apply Kd.R_alloc | apply Kd.R_drewN | apply Kd.R_drew)); exact aI.o))
     obtain ⟨ce31, hcl31, hM31, hcc31, hfr31⟩ := Kd.R_elem HX31.o z51 (aA : Int) (of_decide_eq_true (by first | (with_reducible assumption) | assumption)) (by have h_ : (aA : Int) < ((aF.length : Int) : Int) := of_decide_eq_true (by first | (with_reducible assumption) | assumption); first | exact h_ | (have e_ := (Kd.R_reads' aI.o).1; omega) | simpa using h_)
     obtain rfl := k51_openM hM31
     have a5 := Kd.R_seg HX31.o (aA : Int) (of_decide_eq_true (by first | (with_reducible assumption) | assumption)) (by have h_ : (aA : Int) < ((aF.length : Int) : Int) := of_decide_eq_true (by first | (with_reducible assumption) | assumption); first | exact h_ | (have e_ := (Kd.R_reads' aI.o).1; omega) | simpa using h_) (seg := [.int .i64 77]) (j := 0) hcl31 hcc31 (show 1 ≤ 4 from by decide) (x' := (⟨77, (qA0 aF aA).f1, (⟨(qA0 aF aA).f2.f0, (qA0 aF aA).f2.f1⟩ : S48)⟩ : S51)) (qCW _ _ _ (⟨77, (qA0 aF aA).f1, (⟨(qA0 aF aA).f2.f0, (qA0 aF aA).f2.f1⟩ : S48)⟩ : S51) ) (fun _ hk => hk)
     have a6 := hcc31 0 _ rfl
     (try simp only [show (k51).sz = 4 from rfl, Nat.mul_one, Nat.add_zero] at a6)
     have hf31_0 := hfr31 0
     (try simp only [show (k51).sz = 4 from rfl, Nat.mul_one, Nat.add_zero] at hf31_0)
     clear hcl31 hcc31 hfr31 hM31
     go_wp2_with (first | ((with_reducible refine gate_store (t := 3) (p := 53) rfl ?_); refine store_event (t := 3) (p := 53) (v := ?vo_w32) (w1 := (wr.setCell ⟨go29, (aA : Int).toNat * 4, none⟩ (.int .i64 77))) ?hg ?ho ?hn ?hr ?_; (case ho => rfl); (case hg => rfl); (case hn => rfl); (case hr => first | (go_simp; done) | (go_simp; rfl)); intro bU hw; have hg : wr.grownBy bU (some go29) := (by rw [hw]; exact a5.2); have hp_ : Kd.R k51 51 bU w.heap.size (fun k_ => some k_ ≠ (.slice a3 aB.length a4 : Value).ownBlock) (.slice (some ⟨go29, 0, none⟩) aF.length aW) a8 := (by rw [hw, af.o]; exact a5.1); clear a5; have n0_ := am (Kd.R_after (v := (.slice (some ⟨go29, 0, none⟩) aF.length aW)) (v1 := (.slice (some ⟨go29, 0, none⟩) aF.length aW)) (ok := (fun _ => True)) (by (with_reducible repeat (first | apply Kd.R_alloc | apply Kd.R_drewN | apply Kd.R_drew)); exact Kd.R_mono aL.o (fun _ hk => ⟨trivial, hk⟩)) hg (.inl rfl)); have n1_ := am (hp_); have n2_ := am ((by rw [hw]; exact qAi (HB.o) GB29.o : Below w.heap.size w bU)); clear aL; clear aI; clear HB; have aL := n0_; have aI := n1_; have HB := n2_; clear n0_ n1_ n2_; clear hg hw hp_))
     go_roundg k2
     case measure => have := bY.o; have := bZ.o; omega
     case rel => exact ⟨(a8), (wrap64 (aA + 1)), (by first | rfl | (simp; done) | (simp [*]; done)), H', ⟨by have := bY.o; have := bZ.o; omega⟩, ⟨by (with_reducible repeat (first | apply Kd.R_alloc | apply Kd.R_drewN | apply Kd.R_drew)); exact Kd.R_mono aL.o (fun _ hk => hk.2)⟩, ⟨by (with_reducible repeat (first | apply Kd.R_alloc | apply Kd.R_drewN | apply Kd.R_drew)); exact aI.o⟩, ⟨by repeat (first | (with_reducible first | exact HB.o | apply qAg | apply qAe | apply qAj) | exact HB.o)⟩⟩
end Q
end
section
namespace Q
open Go.RowKit YA YC YB
open Val Ins
namespace C14
open RP
section
variable (l : List S50) (a n : Int) (hl : l.length ≤ 1048576) (hu : ∀ x ∈ l, 0 ≤ x.f2.f1 ∧ x.f2.f1 < 18446744073709551616)
include hl hu
theorem patch_ev : Ev (fun k => code_Patch.f k (l.map ofI) a n) ((patchR l a n).1.map ofI, (patchR l a n).2) := by
 have bad : Ev (fun k => code_Patch.j0 k (l.map ofI) a n true) (([] : List S51), (1 : Int)) := by
  refine Ev.step (f := fun _ => some ([], 1)) (fun k => ?_) (Ev.now _)
  simp only [code_Patch.j0]; rfl
 unfold patchR
 by_cases h0 : a < 0
 ·rw [if_pos (.inl h0)]
  refine Ev.congr (fun k => ?_) bad
  unfold code_Patch.f
  rw [if_pos h0]
 by_cases h1 : (l.length : Int) ≤ a
 ·rw [if_pos (.inr h1)]
  refine Ev.congr (fun k => ?_) bad
  unfold code_Patch.f
  rw [if_neg h0, decide_eq_true (by rw [List.length_map]; omega)]
 rw [if_neg (by omega)]
 have hm := hu _ (getD_mem l z50 a (by omega) (by omega))
 have hx : qA0 (l.map ofI) a = ofI (qA3 l a) := rd_map ofI l _ _ a (by omega) (by omega)
 have hm : 0 ≤ (qA3 l a).f2.f1 ∧ (qA3 l a).f2.f1 < 18446744073709551616 := hm
 generalize qA3 l a = x at hx hm ⊢
 have hc : code_Ins.f (l.map ofI) = some (l.map ofI) := if_pos (by rw [List.length_map]; omega)
 have hy : qA0 ((l.map ofI).set a.toNat ⟨x.f0, n, x.f2⟩) a = ⟨x.f0, n, x.f2⟩ := by
  unfold qA0
  rw [List.getD_eq_getElem?_getD, List.getElem?_set_self (by rw [List.length_map]; omega)]; rfl
 have hr : qDJ.f x.f0 n x.f2.f0 x.f2.f1 = some (okI x.f0 n x.f2.f0 x.f2.f1) := if_pos hm
 refine Ev.congr (f := fun k => code_Patch.j0 k (l.map ofI) a n false) (fun k => by unfold code_Patch.f; rw [if_neg h0, decide_eq_false (by rw [List.length_map]; omega)]) ?_
 have hs : (l.map ofI).set a.toNat ⟨x.f0, n, x.f2⟩ = (l.set a.toNat ⟨x.f0, n, x.f2⟩).map ofI := by rw [List.map_set]; rfl
 refine Ev.step (f := fun _ => if okI x.f0 n x.f2.f0 x.f2.f1 = true then some ((l.map ofI).set a.toNat ⟨x.f0, n, x.f2⟩, 0) else some ([], 51)) (fun k => ?_) ?_
 ·simp only [code_Patch.j0, hc, Option.bind_some]
  rw [if_neg (by decide), if_pos (by omega), if_pos (by rw [List.length_map]; omega)]
  simp only [hx, ofI, hy, hr, Option.bind_some]
 by_cases ho : okI x.f0 n x.f2.f0 x.f2.f1 = true
 ·simp only [ho, if_true]
  rw [hs]
  exact Ev.now _
 simp only [ho, if_false]
 exact Ev.now _
theorem rpatch_ev : Ev (fun k => foundryref14_Patch.f k l a n) (patchR l a n) := by
 by_cases h : a < 0 ∨ (l.length : Int) ≤ a
 ·refine Ev.congr (f := fun _ => some (patchR l a n)) (fun k => ?_) (Ev.now _)
  unfold foundryref14_Patch.f
  rw [if_pos ⟨by omega, fun hn => absurd h hn⟩]
 have hm : 0 ≤ (qA3 l a).f2.f1 ∧ (qA3 l a).f2.f1 < 18446744073709551616 := hu _ (getD_mem l z50 a (by omega) (by omega))
 refine Ev.congr (f := fun _ => some (patchR l a n)) (fun k => ?_) (Ev.now _)
 unfold foundryref14_Patch.f
 rw [if_pos ⟨by omega, fun _ => hm⟩]
end
theorem patchR_len (l : List S50) (a n : Int) : (patchR l a n).1.length ≤ l.length := by
 unfold patchR
 split
 ·simp
 split
 ·rw [List.length_set]; exact Nat.le_refl _
 simp
theorem patches_ev (l : List S50) (a n : Int) (hg : l.length ≤ 1048576 ∧ ∀ x ∈ l, qBW 1048576 x) : Ev (fun k => foundrylaw14_CodePatches.f k l a n) true := by
 obtain ⟨hl, hx⟩ := hg
 have hu : ∀ x ∈ l, 0 ≤ x.f2.f1 ∧ x.f2.f1 < 18446744073709551616 := fun x hm => u64_bounds (hx x hm).2.2.2
 have hlp := patchR_len l a n
 have loop : ∀ (d : Nat) (i : Int) (acc : List S51), 0 ≤ i → (acc.length : Int) - i = d → acc.length ≤ 1048576 → Ev (fun k => foundrylaw14_CodePatches.l0 k l (l.map ofI) acc i) true := by
  intro d
  induction d with
  | zero =>
   intro i acc h0 hd ha
   refine Ev.step (f := fun k => (qAl.f k (l.map ofI) l).bind fun t => if t = true then (qAz.f).bind fun t824 => some t824 else none) (fun k => ?_) (Ev.bind (same_ev l (by omega)) ?_)
   ·simp only [foundrylaw14_CodePatches.l0]
    rw [if_neg (by omega)]
   simp only [if_true, live_eq, Option.bind_some]
   exact Ev.now _
  | succ d ih =>
   intro i acc h0 hd ha
   have hrec := ih (i + 1) (acc.set i.toNat ⟨77, (qA0 acc i).f1, ⟨(qA0 acc i).f2.f0, (qA0 acc i).f2.f1⟩⟩) (by omega) (by rw [List.length_set]; omega) (by rw [List.length_set]; omega)
   refine Ev.step (fun k => ?_) hrec
   simp only [foundrylaw14_CodePatches.l0]
   rw [if_pos (by omega), if_pos h0, qDc (n := acc.length) h0 (by omega) (by omega)]
 unfold foundrylaw14_CodePatches.f
 refine Ev.bind (mine_ev l hl) ?_
 refine Ev.bind (patch_ev l a n hl hu) ?_
 refine Ev.bind (rpatch_ev l a n hl hu) ?_
 refine Ev.bind (same_ev (patchR l a n).1 (by omega)) ?_
 simp only [if_true]
 refine Ev.bind (same_ev l (by omega)) ?_
 refine Ev.step (f := fun k => foundrylaw14_CodePatches.l0 k l (l.map ofI) ((patchR l a n).1.map ofI) 0) (fun k => by simp only [foundrylaw14_CodePatches.j0]; rfl) ?_
 exact loop (patchR l a n).1.length 0 _ (by omega) (by rw [List.length_map]; omega) (by rw [List.length_map]; omega)
end C14
end Q
end
section
namespace codePatches
open Go.ChangeShapes Go.WideShapes Go.ChangeAt Go.RowKit
theorem own : ownKnob Tryz.prog.godebug = none := by kernel_rfl
theorem laidOut : laidOutB Tryz.prog = true := by kernel_rfl
theorem contract (H : Type) (enc : TypeId × Value → H) (W : World) (base : Nat) (args : Array Value) (ds gs : List (DataW H)) (before : List MemPlace)
  (hval0 : ∀ (j : Nat) t v, Tryz.f9.params[j]? = some t → args[j]? = some v → Value.okWide Tryz.prog W .any base t v)
  (hW : DataW.Whole enc Tryz.prog Tryz.f9.params.toList Rows.codePatchesSpec.vars false W args.toList ds gs before) (hk0 : decide (Rows.uptoBulkAll (ds ++ gs) ≤ 1048576) = true) :
  Calls Tryz.prog 9 args W fun e W' => ∃ v, e = .returned v ∧ Rows.codePatchesSpec.post enc Tryz.prog Tryz.f9 false true false false W args v W' := by
 have hval : ∀ (j : Nat) t v, Tryz.f9.params[j]? = some t → args[j]? = some v → Value.okWide Tryz.prog W .any base t v := hval0
 have hW' := hW
 obtain ⟨p, q, hA0, hV, rfl, hfz, hnd⟩ := hW
 have hA : DataW.TrodAll enc Tryz.prog W 0 (fun _ => true) true Tryz.f9.params.toList args.toList ds p := hA0
 rw [Tryz.params9] at hA hval
 obtain ⟨v0, vs0, d0, ds0, p0, q0, hargs, rfl, rfl, h0, r0⟩ := trodAll_cons hA
 obtain ⟨v1, vs1, d1, ds1, p1, q1, rfl, rfl, rfl, h1, r1⟩ := trodAll_cons r0
 obtain ⟨v2, vs2, d2, ds2, p2, q2, rfl, rfl, rfl, h2, r2⟩ := trodAll_cons r1
 obtain ⟨rfl, rfl, rfl⟩ := trodAll_nil r2
 obtain rfl : args = #[v0, v1, v2] := by cases args; simp_all
 obtain ⟨rfl, rfl⟩ := trodVars_none hV
 have hk := of_decide_eq_true hk0
 simp only [List.append_nil, Rows.uptoBulkAll] at hk
 have k0 := h0
 have lt0 : ∀ x ∈ p0, x.block < W.heap.size := by obtain ⟨m, hm⟩ := k0; exact DataW.trod_lt m _ _ _ hm
 obtain ⟨sa0, sl0, sc0, rfl⟩ := okWide_slice Tryz.underlying25 (hval 0 25 v0 rfl rfl)
 obtain ⟨fuel0, hf0⟩ := h0
 obtain ⟨x0, hK0, hG0⟩ := (Q.opens_slice Tryz.underlying25 (by kernel_rfl) (Q.opens_foundryref14_Ins W 1048576)) H enc 0 (fun _ => true) true fuel0 _ _ hf0 (by show Rows.uptoBulk d0 ≤ _; omega)
 obtain ⟨A0, c0, he0, l0, g0⟩ := hK0
 have he0 : [Value.slice sa0 sl0 sc0] = [Value.slice A0 x0.length c0] := he0
 injection he0 with he0 _
 simp only [Value.slice.injEq] at he0
 obtain ⟨rfl, rfl, rfl⟩ := he0
 clear hf0
 obtain ⟨a1, rfl, rfl, rfl, w1⟩ := open_int Tryz.underlying3 (hval 1 3 v1 rfl rfl) h1
 obtain ⟨a2, rfl, rfl, rfl, w2⟩ := open_int Tryz.underlying3 (hval 2 3 v2 rfl rfl) h2
 obtain ⟨k, hkk⟩ := (Q.C14.patches_ev x0 a1 a2 hG0).rounds
 clear hA0 hval0
 refine (Q.foundrylaw14_CodePatches.calls k sa0 sc0 x0 a1 a2 true W g0 l0 hkk).mono fun e W' ⟨he', bel⟩ => ?_
 subst he'
 exact ⟨_, rfl, _, _, _, [], _, [], hW', trodAll_mk1 (shut_bool Tryz.underlying4 _), (trodAll_cons_mk (Below.trod laidOut (by kernel_rfl) (of_decide_eq_true (by kernel_rfl)) k0 bel lt0) (trodAll_cons_mk (shut_int Tryz.underlying3 w1) (trodAll_cons_mk (shut_int Tryz.underlying3 w2) trodAll_mk0))), rfl, bel.frame _, fun h => by cases h⟩
theorem row_shaped {H : Type} {enc : TypeId × Value → H} {C : Checked} {os : Os} {f : FuncId} {fn : Func} {s : OpenSpec} {conds : List PathCond} {apart : Bool} {laid : List (String × DataW Unit)} (modest : Bool) (w0 : World) (args : Array Value) (hos : w0.os = os)
  (hsh : (w0.forCall (fun _ _ => 0) ⟨#[], args, []⟩).Shaped C.prog)
  (hok : Input.okWideB C.prog (w0.forCall (fun _ _ => 0) ⟨#[], args, []⟩) f ⟨#[], args, []⟩ = true)
  (hrow : s.preRow enc C.prog fn conds apart laid (w0.forCall (fun _ _ => 0) ⟨#[], args, []⟩).memory args) :
  ∃ (w : World) (tape : Tape) (i : Input), w.os = os ∧ (w.forCall tape i).Shaped C.prog ∧ i.vars = [] ∧ Input.okWide C.prog (w.forCall tape i) .any w.heap.size f i ∧
   s.preRow enc C.prog fn conds apart laid (w.forCall tape i).memory i.args ∧ ({ modest := modest } : Assume).holds C.prog (lone (Frame.enter C.prog f i.args .normal) [] (w.forCall tape i)) :=
 ⟨w0, fun _ _ => 0, ⟨#[], args, []⟩, hos, hsh, (Input.okWide_of_okWideB (base := 0) hok).1, (Input.okWide_of_okWideB hok).2, hrow, by
   simp only [Assume.holds]
   exact ⟨by simp, by simp, fun _ => Modest.zero, by simp, by simp⟩⟩
theorem laid_met (os : Os) : laidMet Tryz.prog Rows.codePatchesUptoRow.laid (((World.laidAll Tryz.prog os Rows.codePatchesUptoRow.laid)).forCall (fun _ _ => 0) ⟨#[], #[.slice none 0 0, .int .i64 0, .int .i64 0], []⟩).memory := laidMet_laidAll _ (by kernel_rfl) (by kernel_rfl)
theorem reads (os : Os) {H : Type} (enc : TypeId × Value → H) : ∃ places, DataW.whole enc Tryz.prog ((World.laidAll Tryz.prog os Rows.codePatchesUptoRow.laid).forCall (fun _ _ => 0) ⟨#[], #[.slice none 0 0, .int .i64 0, .int .i64 0], []⟩).memory Tryz.f9.params.toList Rows.codePatchesSpec.vars false (#[.slice none 0 0, .int .i64 0, .int .i64 0] : Array Value).toList 8 = some ([.nil, .lit (.int .i64 0), .lit (.int .i64 0)], [], places) :=
 ⟨[], by kernel_rfl⟩
theorem lifted (os : Os) (started : os.Started) (H : Type) (enc : TypeId × Value → H) (F : Stop.Interp) :
  ReturnsInHanded {} Tryz.checked os 9 .any ((Rows.OpenSpec.upto Rows.codePatchesSpec).preRow enc Tryz.prog Tryz.f9 Rows.codePatchesUptoRow.domain false Rows.codePatchesUptoRow.laid) (((Rows.OpenSpec.upto Rows.codePatchesSpec).at F).post enc Tryz.prog Tryz.f9 false true false false) := by
 obtain ⟨places, hx⟩ := reads os enc
 refine returnsInHanded_of_row (C := Tryz.checked) (s := Rows.OpenSpec.upto Rows.codePatchesSpec) own started (by kernel_rfl) Tryz.func9
  (row_shaped (enc := enc) (C := Tryz.checked) false (World.laidAll Tryz.prog os Rows.codePatchesUptoRow.laid) #[.slice none 0 0, .int .i64 0, .int .i64 0] (World.laidAll_os _ _ _) (World.shaped_of_ZipB (by kernel_rfl) (by kernel_rfl)) (by kernel_rfl)
    (OpenSpec.preRow_of_cond (s := Rows.OpenSpec.upto Rows.codePatchesSpec) 8 hx (by kernel_rfl) (fun k hk => by cases hk; kernel_rfl) (by kernel_rfl) (laid_met os))) ?_
 intro W base args ds gs before hval hW _ hcond _ hL _ _
 exact contract H enc W base args ds gs before hval hW (hcond _ rfl)
theorem saidUpto : Rows.CodePatchesUptoSaid :=
 OpenClaim.holds_of_cond 9 Tryz.f9 rfl rfl rfl rfl rfl rfl rfl ⟨rfl, rfl, rfl, rfl, rfl⟩ rfl rfl rfl rfl rfl (by kernel_rfl) Tryz.func9 (by kernel_rfl)
  (of_decide_eq_true (by kernel_rfl)) (by unfold Func.isWrapper; first | (rw [if_pos (by decide +kernel)]; kernel_rfl) | (rw [if_neg (by decide +kernel)]; exact ⟨rfl, rfl⟩))
  (fun os started H enc _ F => by rw [OpenClaim.pre_eq_preRow]; exact lifted os started H enc F)
theorem plain (f : FuncId) (fn : Func) (hf : Tryz.pinned.checked.prog.funcNamed "foundry/foundrylaw14.CodePatches" = some f) (hfn : Tryz.pinned.checked.prog.funcs[f]? = some fn) :
  false = Tryz.pinned.checked.prog.looks [] ∧ ∀ (j : Nat) t, fn.params[j]? = some t → Tryz.pinned.checked.prog.wantsStandIn t = false := by
 obtain rfl : f = 9 := Option.some.inj ((show Tryz.prog.funcNamed "foundry/foundrylaw14.CodePatches" = some 9 by kernel_rfl).symm.trans hf) |>.symm
 obtain rfl : fn = Tryz.f9 := (Option.some.inj (Tryz.func9.symm.trans hfn)).symm
 refine ⟨by kernel_rfl, fun j t ht => ?_⟩
 rw [Tryz.params9] at ht
 have hm : t = 25 ∨ t = 3 ∨ t = 3 := by simpa using Array.mem_of_getElem? ht
 rcases hm with rfl | rfl | rfl
 ·exact (show Tryz.prog.wantsStandIn 25 = false by kernel_rfl)
 ·exact (show Tryz.prog.wantsStandIn 3 = false by kernel_rfl)
 ·exact (show Tryz.prog.wantsStandIn 3 = false by kernel_rfl)
theorem card : Rows.CodePatchesUptoCardSaid :=
 Claim7.holds_tied_plain_at .later [] _ _ _ _ saidUpto (fun _ h => by cases h) (by kernel_rfl) (fun _ h => by cases h) codePatchesUpto_row_tie rfl ⟨rfl, rfl⟩ (by kernel_rfl) rfl plain (by kernel_rfl)
end codePatches

theorem codePatches_card : Rows.CodePatchesUptoCardSaid := codePatches.card
end
end Go.Proofs.YtfddibbignedkaaGreatDoor
