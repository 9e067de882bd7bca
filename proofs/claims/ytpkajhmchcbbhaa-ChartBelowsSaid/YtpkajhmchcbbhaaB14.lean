/- Part 14 of 46. -/
import Derived.Test.YtpkajhmchcbbhaaB0
import Derived.Test.YtpkajhmchcbbhaaB5
import Derived.Test.YtpkajhmchcbbhaaB6
import Derived.Test.YtpkajhmchcbbhaaB7
import Derived.Test.YtpkajhmchcbbhaaB8
import Derived.Test.YtpkajhmchcbbhaaB9
set_option linter.unusedSimpArgs false
set_option linter.unusedVariables false
section
namespace Go.Proofs.Ytpkajhmchcbbhaa.P
open Go.RowKit Go.Proofs.YtpkajhmchcbbhaaW.PrintWords Go.Proofs.YtpkajhmchcbbhaaW.PrintLast Go.Proofs.YtpkajhmchcbbhaaW.PrintMore
attribute [local go_sem] max2_int min2_int max_two min_two max_three min_three max_four min_four
def forecourtref01_Metered.j0 : Nat → Int → Int → Bool → List (S70) → Int → Option (Int × Int × Int)
 | 0, _, _, _, _, _ => none
 | k + 1, x1, x2, x34, x199000, x199001 => if x34 = true then (some (0, 0, 3)) else (if x1 > x2 then (some (0, 0, 2)) else ((forecourtref01_Clashes.f k x199000 x199001).bind fun t202 => (if t202 = true then (some (0, 0, 21)) else (if x1 = x2 then (some (0, 0, 0)) else ((forecourtref01_tight.f k x199000 x199001).bind fun t203 => (if 0 ≤ x2 then (if x2 < (t203.length : Int) then (if 0 ≤ x1 then (if x1 < (t203.length : Int) then (some (mx 0 (wrap64 (((rd_T43 t203 x2).f0) - ((rd_T43 t203 x1).f1))), wrap64 (((rd_T43 t203 x2).f1) - ((rd_T43 t203 x1).f0)), 0)) else (none)) else (none)) else (none)) else (none)))))))
def forecourtref01_Metered.f (k : Nat) (l0_0 : List (S70)) (a0_1 : Int) (a1 : Int) (a2 : Int) : Option (Int × Int × Int) := (forecourtref01_CheckTank.f k l0_0 a0_1).bind fun t200 => (if t200 = 0 then (if a1 < 0 then (forecourtref01_Metered.j0 k a1 a2 true l0_0 a0_1) else (if a1 ≥ (l0_0.length : Int) then (forecourtref01_Metered.j0 k a1 a2 true l0_0 a0_1) else (if a2 < 0 then (forecourtref01_Metered.j0 k a1 a2 true l0_0 a0_1) else (forecourtref01_Metered.j0 k a1 a2 (decide (a2 ≥ (l0_0.length : Int))) l0_0 a0_1)))) else ((forecourtref01_CheckTank.f k l0_0 a0_1).bind fun t201 => (some (0, 0, t201))))
def forecourtref01_Metered.T12 : Bool × List (List Nat × List Nat) := (true, [([], []), ([], []), ([0, 1], [0, 1]), ([2], [2]), ([3], [3]), ([], []), ([], []), ([5, 6], [5, 6]), ([7], [7]), ([8], [8]), ([4, 9], [4, 9]), ([10], [10]), ([], []), ([], []), ([12, 13], [12, 13]), ([14], [14]), ([15], [15]), ([], []), ([], []), ([17, 18], [17, 18]), ([19], [19]), ([20], [20]), ([16, 21], [16, 21]), ([11, 22], [11, 22]), ([23, 0, 1, 2, 3, 4, 5, 6, 7, 8, 9, 10, 11, 12, 13, 14, 15, 16, 17, 18, 19, 20, 21, 22, 23], [23]), ([24, 0, 1, 2, 3, 4, 5, 6, 7, 8, 9, 10, 11, 12, 13, 14, 15, 16, 17, 18, 19, 20, 21, 22, 23, 24], [])])
def forecourtref01_Metered.B12 : List Nat := [0, 0, 3, 7, 15, 0, 0, 96, 224, 480, 1023, 2047, 0, 0, 12288, 28672, 61440, 0, 0, 393216, 917504, 1966080, 4190208, 8388607, 16777215, 33554431]
theorem forecourtref01_Metered.tab12 : rtab .any (opsOf Try.f29 12) = forecourtref01_Metered.T12 := by kernel_rfl
theorem forecourtref01_Metered.bits12 : waitsOk forecourtref01_Metered.T12.2 forecourtref01_Metered.B12 = true := by kernel_rfl
set_option maxHeartbeats 8000000 in
set_option maxRecDepth 100000 in
theorem forecourtref01_Metered.calls (k : Nat) (A0_0 : Option Addr) (c0_0 : Nat) (l0_0 : List (S70)) (a0_1 : Int) (a1 : Int) (a2 : Int) (r1 : Int) (r2 : Int) (r3 : Int) (w : World) (hr0_0 : Kd.C k70 w A0_0 l0_0.length l0_0) (hc0_0 : l0_0.length ≤ c0_0) (h : forecourtref01_Metered.f k l0_0 a0_1 a1 a2 = some (r1, r2, r3)) :
  Calls Try.prog 29 #[.agg #[.slice A0_0 l0_0.length c0_0, .int .i64 a0_1], .int .i64 a1, .int .i64 a2] w fun e w' => e = .returned (.tuple #[.agg #[.int .i64 r1, .int .i64 r2], .int .i64 r3]) ∧ Below w.heap.size w w' := by
 have hu24 := Try.underlying24
 have hu43 := Try.underlying43
 have HR0_0 := Aside0.mk hr0_0
 have HC0_0 := Aside0.mk hc0_0
 clear hr0_0 hc0_0
 have HB := Aside0.mk (Below.refl w.heap.size w)
 have H : ((forecourtref01_CheckTank.f k l0_0 a0_1).bind fun t200 => (if t200 = 0 then (if a1 < 0 then (forecourtref01_Metered.j0 k a1 a2 true l0_0 a0_1) else (if a1 ≥ (l0_0.length : Int) then (forecourtref01_Metered.j0 k a1 a2 true l0_0 a0_1) else (if a2 < 0 then (forecourtref01_Metered.j0 k a1 a2 true l0_0 a0_1) else (forecourtref01_Metered.j0 k a1 a2 (decide (a2 ≥ (l0_0.length : Int))) l0_0 a0_1)))) else ((forecourtref01_CheckTank.f k l0_0 a0_1).bind fun t201 => (some (0, 0, t201))))) = some (r1, r2, r3) := h
 clear h
 replace H := Option.bind_eq_some_iff.mp H
 obtain ⟨t200, A40, H⟩ := H
 replace H : (if t200 = 0 then (if a1 < 0 then (forecourtref01_Metered.j0 k a1 a2 true l0_0 a0_1) else (if a1 ≥ (l0_0.length : Int) then (forecourtref01_Metered.j0 k a1 a2 true l0_0 a0_1) else (if a2 < 0 then (forecourtref01_Metered.j0 k a1 a2 true l0_0 a0_1) else (forecourtref01_Metered.j0 k a1 a2 (decide (a2 ≥ (l0_0.length : Int))) l0_0 a0_1)))) else ((forecourtref01_CheckTank.f k l0_0 a0_1).bind fun t201 => (some (0, 0, t201)))) = some (r1, r2, r3) := H
 have A4 := Aside0.mk A40
 clear A40
 by_cases c5 : t200 = 0
 ·rw [if_pos c5] at H
  have c5b0 : (t200 == 0) = true := beq_iff_eq.mpr c5
  have c5b1 : (t200 != 0) = false := bne_eq_false_iff_eq.mpr c5
  clear c5
  have HC6 := Aside0.mk H
  clear H
  go_enter Try.func29, Try.ntmps29
  go_upto_region 3 with (first | ((with_reducible refine gate_dst (N := 3) rfl ?_); (try (refine gate_guard (by rfl) ?_; dsimp only)); refine box_event ?hg (N := 3) ?hd (cs := #[.slice A0_0 l0_0.length c0_0, .int .i64 a0_1]) (t := 24) ?hr ?_; (case hd => rfl); (case hg => rfl); (case hr => first | (go_simp; done) | (go_simp; rfl)); intro gb198 hg w7 hbox hb; have n0_ := Aside0.mk (below_step qb4 hb); have n1_ := Aside0.mk (hbox); have n2_ := Aside0.mk ((by rw [hg]; exact (below_size qb4) : w.heap.size ≤ gb198)); have n3_ := Aside0.mk ((by rw [hg]; exact (below_size qb4) : w.heap.size ≤ gb198)); clear HB; have HB := n0_; have BK198 := n1_; have GW198 := n2_; have GE198 := n3_; clear n0_ n1_ n2_ n3_; clear hb hbox hg) | ((with_reducible refine gate_dst (N := 6) rfl ?_); (try (refine gate_guard (by rfl) ?_; dsimp only)); refine box_event ?hg (N := 6) ?hd (cs := #[.int .i64 0, .int .i64 0]) (t := 43) ?hr ?_; (case hd => rfl); (case hg => rfl); (case hr => first | (go_simp; done) | (go_simp; rfl)); intro gb199 hg w8 hbox hb; have n0_ := Aside0.mk (blk_below (g := gb198) (o := .cells #[.slice A0_0 l0_0.length c0_0, .int .i64 a0_1] 24 (0, 0)) (by exact BK198.out) hb); have n1_ := Aside0.mk (below_step qb4 hb); have n2_ := Aside0.mk (hbox); have n3_ := Aside0.mk ((by rw [hg]; exact (below_size qb4) : w.heap.size ≤ gb199)); have n4_ := Aside0.mk ((by rw [hg]; exact (below_size qb4) : w.heap.size ≤ gb199)); have n5_ := Aside0.mk ((by rw [hg]; exact Nat.ne_of_lt (blk_lt (g := gb198) (o := .cells #[.slice A0_0 l0_0.length c0_0, .int .i64 a0_1] 24 (0, 0)) (by exact BK198.out)) : gb198 ≠ gb199)); have n6_ := Aside0.mk ((by rw [hg]; exact Nat.ne_of_gt (blk_lt (g := gb198) (o := .cells #[.slice A0_0 l0_0.length c0_0, .int .i64 a0_1] 24 (0, 0)) (by exact BK198.out)) : gb199 ≠ gb198)); clear BK198; clear HB; have BK198 := n0_; have HB := n1_; have BK199 := n2_; have GW199 := n3_; have GE199 := n4_; have NB198_199 := n5_; have NB199_198 := n6_; clear n0_ n1_ n2_ n3_ n4_ n5_ n6_; clear hb hbox hg; have hnb9 := NB198_199.out; have hnc9 := NB199_198.out; have hcz10_0 : w8.cell? ⟨gb198, 0, none⟩ = some (.slice A0_0 l0_0.length c0_0) := (blk_cell BK198.out 0).trans rfl; have hcz10_1 : w8.cell? ⟨gb198, 1, none⟩ = some (.int .i64 a0_1) := (blk_cell BK198.out 1).trans rfl; have hfz10_0 := blk_frozen BK198.out 0; have hfz10_1 := blk_frozen BK198.out 1) | ((with_reducible refine gate_callee (f := 22) rfl ?_); refine goesL_ (some 10) rfl rfl Try.func22 (by kernel_rfl) rfl #[.agg #[.slice A0_0 l0_0.length c0_0, .int .i64 a0_1]] rfl qb3 ?_; (with_reducible refine (forecourtref01_CheckTank.calls k _ _ l0_0 a0_1 t200 _ ?side1 ?side2 A4.out).mono ?_); (case side1 => (exact (Kd.C_below HR0_0.out HB.out))); (case side2 => exact HC0_0.out); rintro e w11 ⟨rfl, hb⟩; refine ⟨_, rfl, ?_⟩; have n0_ := Aside0.mk (blk_below (g := gb198) (o := .cells #[.slice A0_0 l0_0.length c0_0, .int .i64 a0_1] 24 (0, 0)) (by exact BK198.out) hb); have n1_ := Aside0.mk (blk_below (g := gb199) (o := .cells #[.int .i64 0, .int .i64 0] 43 (0, 0)) (by exact BK199.out) hb); have n2_ := Aside0.mk (below_step qb4 hb); clear BK198; clear BK199; clear HB; have BK198 := n0_; have BK199 := n1_; have HB := n2_; clear n0_ n1_ n2_; (try clear hb); (try clear hb2); (try clear hk); (try clear hi)))
  (try simp only [Act.put, List.setIfInBounds_toArray, List.set_cons_zero, List.set_cons_succ])
  go_cut [34] (fun v34 wc => ∃ (kq : Nat) (x34_5 : Bool), v34 = .bool x34_5 ∧ Aside0 (forecourtref01_Metered.j0 kq a1 a2 x34_5 l0_0 a0_1 = some (r1, r2, r3)) ∧ Aside0 (kq ≤ k) ∧ Aside0 (wc.heap[gb198]? = some (.cells #[(.slice A0_0 l0_0.length c0_0), .int .i64 a0_1] 24 (0, 0))) ∧ Aside0 (wc.heap[gb199]? = some (.cells #[.int .i64 0, .int .i64 0] 43 (0, 0))) ∧ Aside0 (Below w.heap.size w wc))
  case first =>
   have H := HC6.out
   clear HC6
   by_cases c12 : a1 < 0
   ·rw [if_pos c12] at H
    have c12b0 : decide (a1 < 0) = true := decide_eq_true c12
    clear c12
    (first | rw [c12b0] | (simp only [i64_w, i32_w]; rw [c12b0]) | skip)
    have H' := Aside0.mk H
    clear H
    go_wp2
    go_meet
    case rel => exact ⟨_, (true), qb5, H', ⟨by first | omega | exact Nat.le_refl _⟩, ⟨by (skip); exact BK198.out⟩, ⟨by (skip); exact BK199.out⟩, ⟨by (with_reducible exact HB.out)⟩⟩
   rw [if_neg c12] at H
   have c12b0 : decide (a1 < 0) = false := decide_eq_false c12
   clear c12
   (first | rw [c12b0] | (simp only [i64_w, i32_w]; rw [c12b0]) | skip)
   by_cases c13 : a1 ≥ (l0_0.length : Int)
   ·rw [if_pos c13] at H
    have c13b0 : decide ((l0_0.length : Int) ≤ a1) = true := decide_eq_true c13
    clear c13
    have H' := Aside0.mk H
    clear H
    have hnb14 := NB198_199.out
    have hnc14 := NB199_198.out
    have hcz15_0 : w11.cell? ⟨gb198, 0, none⟩ = some (.slice A0_0 l0_0.length c0_0) := (blk_cell BK198.out 0).trans rfl
    have hcz15_1 : w11.cell? ⟨gb198, 1, none⟩ = some (.int .i64 a0_1) := (blk_cell BK198.out 1).trans rfl
    have hfz15_0 := blk_frozen BK198.out 0
    have hfz15_1 := blk_frozen BK198.out 1
    go_wp2
    go_meet
    case rel => exact ⟨_, (true), qb5, H', ⟨by first | omega | exact Nat.le_refl _⟩, ⟨by (skip); exact BK198.out⟩, ⟨by (skip); exact BK199.out⟩, ⟨by (with_reducible exact HB.out)⟩⟩
   rw [if_neg c13] at H
   have c13b0 : decide ((l0_0.length : Int) ≤ a1) = false := decide_eq_false c13
   clear c13
   by_cases c16 : a2 < 0
   ·rw [if_pos c16] at H
    have c16b0 : decide (a2 < 0) = true := decide_eq_true c16
    clear c16
    have H' := Aside0.mk H
    clear H
    have hnb17 := NB198_199.out
    have hnc17 := NB199_198.out
    have hcz18_0 : w11.cell? ⟨gb198, 0, none⟩ = some (.slice A0_0 l0_0.length c0_0) := (blk_cell BK198.out 0).trans rfl
    have hcz18_1 : w11.cell? ⟨gb198, 1, none⟩ = some (.int .i64 a0_1) := (blk_cell BK198.out 1).trans rfl
    have hfz18_0 := blk_frozen BK198.out 0
    have hfz18_1 := blk_frozen BK198.out 1
    go_wp2
    go_meet
    case rel => exact ⟨_, (true), qb5, H', ⟨by first | omega | exact Nat.le_refl _⟩, ⟨by (skip); exact BK198.out⟩, ⟨by (skip); exact BK199.out⟩, ⟨by (with_reducible exact HB.out)⟩⟩
   rw [if_neg c16] at H
   have c16b0 : decide (a2 < 0) = false := decide_eq_false c16
   clear c16
   have H' := Aside0.mk H
   clear H
   have hnb19 := NB198_199.out
   have hnc19 := NB199_198.out
   have hcz20_0 : w11.cell? ⟨gb198, 0, none⟩ = some (.slice A0_0 l0_0.length c0_0) := (blk_cell BK198.out 0).trans rfl
   have hcz20_1 : w11.cell? ⟨gb198, 1, none⟩ = some (.int .i64 a0_1) := (blk_cell BK198.out 1).trans rfl
   have hfz20_0 := blk_frozen BK198.out 0
   have hfz20_1 := blk_frozen BK198.out 1
   go_wp2
   go_meet
   case rel => exact ⟨_, (decide (a2 ≥ (l0_0.length : Int))), qb5, H', ⟨by first | omega | exact Nat.le_refl _⟩, ⟨by (skip); exact BK198.out⟩, ⟨by (skip); exact BK199.out⟩, ⟨by (with_reducible exact HB.out)⟩⟩
  case rest =>
   clear HC6
   try clear c1
   try clear c2
   try clear p2
   try clear c5
   try clear c5b0
   try clear c5b1
   try clear c9
   try clear c12
   try clear c12b0
   try clear c13
   try clear c13b0
   try clear c14
   try clear c16
   try clear c16b0
   try clear c17
   try clear c19
   try clear hcz10_0
   try clear hcz10_1
   try clear hcz15_0
   try clear hcz15_1
   try clear hcz18_0
   try clear hcz18_1
   try clear hcz20_0
   try clear hcz20_1
   try clear hfz10_0
   try clear hfz10_1
   try clear hfz15_0
   try clear hfz15_1
   try clear hfz18_0
   try clear hfz18_1
   try clear hfz20_0
   try clear hfz20_1
   obtain ⟨kq, x34_5, rfl, HA, HJ5, BK198, BK199, HB⟩ := hcut
   cases kq with
   | zero => exact absurd HA.out (by simp [forecourtref01_Metered.j0])
   | succ kj5 =>
    have H := HA.out
    clear HA
    simp only [forecourtref01_Metered.j0] at H
    by_cases c21 : x34_5 = true
    ·subst c21
     have H1 : (some (0, 0, 3)) = some (r1, r2, r3) := by rw [if_pos rfl] at H; exact H
     clear H
     have H := H1
     clear H1
     simp only [Option.some.injEq, Prod.mk.injEq] at H
     obtain ⟨rfl, rfl, rfl⟩ := H
     have hnb22 := NB199_198.out
     have hnc22 := NB198_199.out
     have hcz23_0 : wc.cell? ⟨gb199, 0, none⟩ = some (.int .i64 0) := (blk_cell BK199.out 0).trans rfl
     have hcz23_1 : wc.cell? ⟨gb199, 1, none⟩ = some (.int .i64 0) := (blk_cell BK199.out 1).trans rfl
     have hfz23_0 := blk_frozen BK199.out 0
     have hfz23_1 := blk_frozen BK199.out 1
     go_wp2
     refine bodyPost_ret (results_ct rfl _ _ gb199 43 #[.int .i64 0, .int .i64 0] (0, 0) _ rfl qb8 Try.underlying43 rfl (by kernel_rfl)) rfl ?_
     exact ⟨by first | rfl | (simp [errW_none, errW_some] <;> rfl) | (simp [*, errW_none, errW_some] <;> rfl), by (with_reducible refine below_set ?_ GE199.out; with_reducible refine below_set ?_ GE199.out; with_reducible exact HB.out)⟩
    replace c21 := Bool.eq_false_iff.mpr c21
    subst c21
    have H1 : (if a1 > a2 then (some (0, 0, 2)) else ((forecourtref01_Clashes.f kj5 l0_0 a0_1).bind fun t202 => (if t202 = true then (some (0, 0, 21)) else (if a1 = a2 then (some (0, 0, 0)) else ((forecourtref01_tight.f kj5 l0_0 a0_1).bind fun t203 => (if 0 ≤ a2 then (if a2 < (t203.length : Int) then (if 0 ≤ a1 then (if a1 < (t203.length : Int) then (some (mx 0 (wrap64 (((rd_T43 t203 a2).f0) - ((rd_T43 t203 a1).f1))), wrap64 (((rd_T43 t203 a2).f1) - ((rd_T43 t203 a1).f0)), 0)) else (none)) else (none)) else (none)) else (none))))))) = some (r1, r2, r3) := by rw [if_neg (show ¬ (false = true) by decide)] at H; exact H
    clear H
    have H := H1
    clear H1
    by_cases c24 : a1 > a2
    ·rw [if_pos c24] at H
     have c24b0 : decide (a2 < a1) = true := decide_eq_true c24
     clear c24
     simp only [Option.some.injEq, Prod.mk.injEq] at H
     obtain ⟨rfl, rfl, rfl⟩ := H
     have hnb25 := NB199_198.out
     have hnc25 := NB198_199.out
     have hcz26_0 : wc.cell? ⟨gb199, 0, none⟩ = some (.int .i64 0) := (blk_cell BK199.out 0).trans rfl
     have hcz26_1 : wc.cell? ⟨gb199, 1, none⟩ = some (.int .i64 0) := (blk_cell BK199.out 1).trans rfl
     have hfz26_0 := blk_frozen BK199.out 0
     have hfz26_1 := blk_frozen BK199.out 1
     go_wp2
     refine bodyPost_ret (results_ct rfl _ _ gb199 43 #[.int .i64 0, .int .i64 0] (0, 0) _ rfl qb8 Try.underlying43 rfl (by kernel_rfl)) rfl ?_
     exact ⟨by first | rfl | (simp [errW_none, errW_some] <;> rfl) | (simp [*, errW_none, errW_some] <;> rfl), by (with_reducible refine below_set ?_ GE199.out; with_reducible refine below_set ?_ GE199.out; with_reducible exact HB.out)⟩
    rw [if_neg c24] at H
    have c24b0 : decide (a2 < a1) = false := decide_eq_false c24
    clear c24
    replace H := Option.bind_eq_some_iff.mp H
    obtain ⟨t202, A270, H⟩ := H
    replace H : (if t202 = true then (some (0, 0, 21)) else (if a1 = a2 then (some (0, 0, 0)) else ((forecourtref01_tight.f kj5 l0_0 a0_1).bind fun t203 => (if 0 ≤ a2 then (if a2 < (t203.length : Int) then (if 0 ≤ a1 then (if a1 < (t203.length : Int) then (some (mx 0 (wrap64 (((rd_T43 t203 a2).f0) - ((rd_T43 t203 a1).f1))), wrap64 (((rd_T43 t203 a2).f1) - ((rd_T43 t203 a1).f0)), 0)) else (none)) else (none)) else (none)) else (none))))) = some (r1, r2, r3) := H
    have A27 := Aside0.mk A270
    clear A270
    by_cases c28 : t202 = true
    ·subst c28
     have H1 : (some (0, 0, 21)) = some (r1, r2, r3) := by rw [if_pos rfl] at H; exact H
     clear H
     have H := H1
     clear H1
     simp only [Option.some.injEq, Prod.mk.injEq] at H
     obtain ⟨rfl, rfl, rfl⟩ := H
     have hnb29 := NB198_199.out
     have hnc29 := NB199_198.out
     have hcz30_0 : wc.cell? ⟨gb198, 0, none⟩ = some (.slice A0_0 l0_0.length c0_0) := (blk_cell BK198.out 0).trans rfl
     have hcz30_1 : wc.cell? ⟨gb198, 1, none⟩ = some (.int .i64 a0_1) := (blk_cell BK198.out 1).trans rfl
     have hfz30_0 := blk_frozen BK198.out 0
     have hfz30_1 := blk_frozen BK198.out 1
     go_wp2_with (first | ((with_reducible refine gate_callee (f := 56) rfl ?_); refine goesL_ (some 41) rfl rfl Try.func56 (by kernel_rfl) rfl #[.agg #[.slice A0_0 l0_0.length c0_0, .int .i64 a0_1]] rfl qb3 ?_; (with_reducible refine (forecourtref01_Clashes.calls kj5 _ _ l0_0 a0_1 true _ ?side1 ?side2 A27.out).mono ?_); (case side1 => (exact (Kd.C_below HR0_0.out HB.out))); (case side2 => exact HC0_0.out); rintro e w31 ⟨rfl, hb⟩; refine ⟨_, rfl, ?_⟩; have n0_ := Aside0.mk (blk_below (g := gb198) (o := .cells #[.slice A0_0 l0_0.length c0_0, .int .i64 a0_1] 24 (0, 0)) (by exact BK198.out) hb); have n1_ := Aside0.mk (blk_below (g := gb199) (o := .cells #[.int .i64 0, .int .i64 0] 43 (0, 0)) (by exact BK199.out) hb); have n2_ := Aside0.mk (below_step qb4 hb); clear BK198; clear BK199; clear HB; have BK198 := n0_; have BK199 := n1_; have HB := n2_; clear n0_ n1_ n2_; (try clear hb); (try clear hb2); (try clear hk); (try clear hi); have hcz32_0 : w31.cell? ⟨gb199, 0, none⟩ = some (.int .i64 0) := (blk_cell BK199.out 0).trans rfl; have hcz32_1 : w31.cell? ⟨gb199, 1, none⟩ = some (.int .i64 0) := (blk_cell BK199.out 1).trans rfl; have hfz32_0 := blk_frozen BK199.out 0; have hfz32_1 := blk_frozen BK199.out 1))
     refine bodyPost_ret (results_ct rfl _ _ gb199 43 #[.int .i64 0, .int .i64 0] (0, 0) _ rfl qb8 Try.underlying43 rfl (by kernel_rfl)) rfl ?_
     exact ⟨by first | rfl | (simp [errW_none, errW_some] <;> rfl) | (simp [*, errW_none, errW_some] <;> rfl), by (with_reducible refine below_set ?_ GE199.out; with_reducible refine below_set ?_ GE199.out; with_reducible exact HB.out)⟩
    replace c28 := Bool.eq_false_iff.mpr c28
    subst c28
    have H1 : (if a1 = a2 then (some (0, 0, 0)) else ((forecourtref01_tight.f kj5 l0_0 a0_1).bind fun t203 => (if 0 ≤ a2 then (if a2 < (t203.length : Int) then (if 0 ≤ a1 then (if a1 < (t203.length : Int) then (some (mx 0 (wrap64 (((rd_T43 t203 a2).f0) - ((rd_T43 t203 a1).f1))), wrap64 (((rd_T43 t203 a2).f1) - ((rd_T43 t203 a1).f0)), 0)) else (none)) else (none)) else (none)) else (none)))) = some (r1, r2, r3) := by rw [if_neg (show ¬ (false = true) by decide)] at H; exact H
    clear H
    have H := H1
    clear H1
    by_cases c33 : a1 = a2
    ·rw [if_pos c33] at H
     have c33b0 : (a1 == a2) = true := beq_iff_eq.mpr c33
     have c33b1 : (a1 != a2) = false := bne_eq_false_iff_eq.mpr c33
     clear c33
     simp only [Option.some.injEq, Prod.mk.injEq] at H
     obtain ⟨rfl, rfl, rfl⟩ := H
     have hnb34 := NB198_199.out
     have hnc34 := NB199_198.out
     have hcz35_0 : wc.cell? ⟨gb198, 0, none⟩ = some (.slice A0_0 l0_0.length c0_0) := (blk_cell BK198.out 0).trans rfl
     have hcz35_1 : wc.cell? ⟨gb198, 1, none⟩ = some (.int .i64 a0_1) := (blk_cell BK198.out 1).trans rfl
     have hfz35_0 := blk_frozen BK198.out 0
     have hfz35_1 := blk_frozen BK198.out 1
     go_wp2_with (first | ((with_reducible refine gate_callee (f := 56) rfl ?_); refine goesL_ (some 41) rfl rfl Try.func56 (by kernel_rfl) rfl #[.agg #[.slice A0_0 l0_0.length c0_0, .int .i64 a0_1]] rfl qb3 ?_; (with_reducible refine (forecourtref01_Clashes.calls kj5 _ _ l0_0 a0_1 false _ ?side1 ?side2 A27.out).mono ?_); (case side1 => (exact (Kd.C_below HR0_0.out HB.out))); (case side2 => exact HC0_0.out); rintro e w36 ⟨rfl, hb⟩; refine ⟨_, rfl, ?_⟩; have n0_ := Aside0.mk (blk_below (g := gb198) (o := .cells #[.slice A0_0 l0_0.length c0_0, .int .i64 a0_1] 24 (0, 0)) (by exact BK198.out) hb); have n1_ := Aside0.mk (blk_below (g := gb199) (o := .cells #[.int .i64 0, .int .i64 0] 43 (0, 0)) (by exact BK199.out) hb); have n2_ := Aside0.mk (below_step qb4 hb); clear BK198; clear BK199; clear HB; have BK198 := n0_; have BK199 := n1_; have HB := n2_; clear n0_ n1_ n2_; (try clear hb); (try clear hb2); (try clear hk); (try clear hi); have hcz37_0 : w36.cell? ⟨gb199, 0, none⟩ = some (.int .i64 0) := (blk_cell BK199.out 0).trans rfl; have hcz37_1 : w36.cell? ⟨gb199, 1, none⟩ = some (.int .i64 0) := (blk_cell BK199.out 1).trans rfl; have hfz37_0 := blk_frozen BK199.out 0; have hfz37_1 := blk_frozen BK199.out 1))
     refine bodyPost_ret (results_ct rfl _ _ gb199 43 #[.int .i64 0, .int .i64 0] (0, 0) _ rfl qb8 Try.underlying43 rfl (by kernel_rfl)) rfl ?_
     exact ⟨by first | rfl | (simp [errW_none, errW_some] <;> rfl) | (simp [*, errW_none, errW_some] <;> rfl), by (with_reducible refine below_set ?_ GE199.out; with_reducible refine below_set ?_ GE199.out; with_reducible exact HB.out)⟩
    rw [if_neg c33] at H
    have c33b0 : (a1 == a2) = false := beq_eq_false_iff_ne.mpr c33
    have c33b1 : (a1 != a2) = true := bne_iff_ne.mpr c33
    replace H := Option.bind_eq_some_iff.mp H
    obtain ⟨t203, A380, H⟩ := H
    replace H : (if 0 ≤ a2 then (if a2 < (t203.length : Int) then (if 0 ≤ a1 then (if a1 < (t203.length : Int) then (some (mx 0 (wrap64 (((rd_T43 t203 a2).f0) - ((rd_T43 t203 a1).f1))), wrap64 (((rd_T43 t203 a2).f1) - ((rd_T43 t203 a1).f0)), 0)) else (none)) else (none)) else (none)) else (none)) = some (r1, r2, r3) := H
    have A38 := Aside0.mk A380
    clear A380
    by_cases c39 : 0 ≤ a2
    ·rw [if_pos c39] at H
     have c39b0 : decide (0 ≤ a2) = true := decide_eq_true c39
     clear c39
     by_cases c40 : a2 < (t203.length : Int)
     ·rw [if_pos c40] at H
      have c40b0 : decide (a2 < (t203.length : Int)) = true := decide_eq_true c40
      clear c40
      by_cases c41 : 0 ≤ a1
      ·rw [if_pos c41] at H
       have c41b0 : decide (0 ≤ a1) = true := decide_eq_true c41
       clear c41
       by_cases c42 : a1 < (t203.length : Int)
       ·rw [if_pos c42] at H
        have c42b0 : decide (a1 < (t203.length : Int)) = true := decide_eq_true c42
        clear c42
        obtain ⟨ji43, hji43⟩ : ∃ j_ : Int, (mx 0 (wrap64 (((rd_T43 t203 a2).f0) - ((rd_T43 t203 a1).f1)))) = j_ := ⟨_, rfl⟩
        replace H : (some (ji43, wrap64 (((rd_T43 t203 a2).f1) - ((rd_T43 t203 a1).f0)), 0)) = some (r1, r2, r3) := by first | (rw [hji43] at H; exact H) | (simp only [hji43] at H ⊢; exact H)
        (try rw [hji43] at A27)
        (try rw [hji43] at A38)
        have hji43_ : (if 0 < (wrap64 (((rd_T43 t203 a2).f0) - ((rd_T43 t203 a1).f1))) then (wrap64 (((rd_T43 t203 a2).f0) - ((rd_T43 t203 a1).f1))) else 0) = ji43 := hji43
        simp only [Option.some.injEq, Prod.mk.injEq] at H
        obtain ⟨rfl, rfl, rfl⟩ := H
        have hnb44 := NB198_199.out
        have hnc44 := NB199_198.out
        have hcz45_0 : wc.cell? ⟨gb198, 0, none⟩ = some (.slice A0_0 l0_0.length c0_0) := (blk_cell BK198.out 0).trans rfl
        have hcz45_1 : wc.cell? ⟨gb198, 1, none⟩ = some (.int .i64 a0_1) := (blk_cell BK198.out 1).trans rfl
        have hfz45_0 := blk_frozen BK198.out 0
        have hfz45_1 := blk_frozen BK198.out 1
        try go_wp2_with (first | ((with_reducible refine gate_callee (f := 56) rfl ?_); refine goesL_ (some 41) rfl rfl Try.func56 (by kernel_rfl) rfl #[.agg #[.slice A0_0 l0_0.length c0_0, .int .i64 a0_1]] rfl qb3 ?_; (with_reducible refine (forecourtref01_Clashes.calls kj5 _ _ l0_0 a0_1 false _ ?side1 ?side2 A27.out).mono ?_); (case side1 => (exact (Kd.C_below HR0_0.out HB.out))); (case side2 => exact HC0_0.out); rintro e w46 ⟨rfl, hb⟩; refine ⟨_, rfl, ?_⟩; have n0_ := Aside0.mk (blk_below (g := gb198) (o := .cells #[.slice A0_0 l0_0.length c0_0, .int .i64 a0_1] 24 (0, 0)) (by exact BK198.out) hb); have n1_ := Aside0.mk (blk_below (g := gb199) (o := .cells #[.int .i64 0, .int .i64 0] 43 (0, 0)) (by exact BK199.out) hb); have n2_ := Aside0.mk (below_step qb4 hb); clear BK198; clear BK199; clear HB; have BK198 := n0_; have BK199 := n1_; have HB := n2_; clear n0_ n1_ n2_; (try clear hb); (try clear hb2); (try clear hk); (try clear hi); have hcz47_0 : w46.cell? ⟨gb198, 0, none⟩ = some (.slice A0_0 l0_0.length c0_0) := (blk_cell BK198.out 0).trans rfl; have hcz47_1 : w46.cell? ⟨gb198, 1, none⟩ = some (.int .i64 a0_1) := (blk_cell BK198.out 1).trans rfl; have hfz47_0 := blk_frozen BK198.out 0; have hfz47_1 := blk_frozen BK198.out 1) | ((with_reducible refine gate_callee (f := 57) rfl ?_); refine goesL_ (some 48) rfl rfl Try.func57 (by kernel_rfl) rfl #[.agg #[.slice A0_0 l0_0.length c0_0, .int .i64 a0_1]] rfl qb3 ?_; (with_reducible refine (forecourtref01_tight.calls kj5 _ _ l0_0 a0_1 t203 _ ?side1 ?side2 A38.out).mono ?_); (case side1 => (exact (Kd.C_below HR0_0.out HB.out))); (case side2 => exact HC0_0.out); rintro e w48 ⟨v204, rfl, ho0, hb⟩; refine ⟨_, rfl, ?_⟩; have n0_ := Aside0.mk (Kd.R_lower (Kd.R_newB ho0 (g := gb199) (o := .cells #[.int .i64 0, .int .i64 0] 43 (0, 0)) (by exact BK199.out)) (below_size qb4)); have n1_ := Aside0.mk (blk_below (g := gb198) (o := .cells #[.slice A0_0 l0_0.length c0_0, .int .i64 a0_1] 24 (0, 0)) (by exact BK198.out) hb); have n2_ := Aside0.mk (blk_below (g := gb199) (o := .cells #[.int .i64 0, .int .i64 0] 43 (0, 0)) (by exact BK199.out) hb); have n3_ := Aside0.mk (below_step qb4 hb); clear BK198; clear BK199; clear HB; have HO205 := n0_; have BK198 := n1_; have BK199 := n2_; have HB := n3_; clear n0_ n1_ n2_ n3_; (try clear hb); (try clear hb2); (try clear hk); (try clear hi); (try clear ho0)))
        have n0_ := Aside0.mk (Kd.R_drew HO205.out)
        have n1_ := Aside0.mk (blk_drew BK198.out)
        have n2_ := Aside0.mk (blk_drew BK199.out)
        have n3_ := Aside0.mk (below_drew1 HB.out)
        clear HO205 BK198 BK199 HB
        have HO205 := n0_
        have BK198 := n1_
        have BK199 := n2_
        have HB := n3_
        clear n0_ n1_ n2_ n3_
        obtain ⟨Ao50, co50, eo50⟩ := Kd.R_slice HO205.out
        (first | subst eo50 | (injection eo50 with f1_ f2_ f3_; have f4_ := f1_.symm; have f5_ := f3_.symm; clear f1_ f2_ f3_; subst f4_; subst f5_))
        have p206 : 0 ≤ (a2 : Int) := of_decide_eq_true qb1
        have q206 : a2 < (t203.length : Int) := of_decide_eq_true qb1
        obtain ⟨ad206, e206, hx206_0, hx206_1⟩ := at_T43 (Kd.R_reads' HO205.out).2.2 a2 p206 q206
        cases e206
        replace p206 := eq_true p206
        replace q206 := eq_true q206
        have p207 : 0 ≤ (a1 : Int) := of_decide_eq_true qb1
        have q207 : a1 < (t203.length : Int) := of_decide_eq_true qb1
        obtain ⟨ad207, e207, hx207_0, hx207_1⟩ := at_T43 (Kd.R_reads' HO205.out).2.2 a1 p207 q207
        obtain rfl : ad206 = ad207 := (by injection e207)
        replace p207 := eq_true p207
        replace q207 := eq_true q207
        have p208 : 0 ≤ (a2 : Int) := of_decide_eq_true qb1
        have q208 : a2 < (t203.length : Int) := of_decide_eq_true qb1
        obtain ⟨ad208, e208, hx208_0, hx208_1⟩ := at_T43 (Kd.R_reads' HO205.out).2.2 a2 p208 q208
        obtain rfl : ad206 = ad208 := (by injection e208)
        replace p208 := eq_true p208
        replace q208 := eq_true q208
        have p209 : 0 ≤ (a1 : Int) := of_decide_eq_true qb1
        have q209 : a1 < (t203.length : Int) := of_decide_eq_true qb1
        obtain ⟨ad209, e209, hx209_0, hx209_1⟩ := at_T43 (Kd.R_reads' HO205.out).2.2 a1 p209 q209
        obtain rfl : ad206 = ad209 := (by injection e209)
        replace p209 := eq_true p209
        replace q209 := eq_true q209
        refine start_ (n := 26) (S := fun w' => w'.cell? (ad206.add ((a2).toNat * 2)) = some (.int .i64 ((rd_T43 t203 a2).f0)) ∧ w'.cell? ⟨(ad206.add ((a2).toNat * 2)).block, (ad206.add ((a2).toNat * 2)).off + 1, none⟩ = some (.int .i64 ((rd_T43 t203 a2).f1)) ∧ w'.cell? (ad206.add ((a1).toNat * 2)) = some (.int .i64 ((rd_T43 t203 a1).f0)) ∧ w'.cell? ⟨(ad206.add ((a1).toNat * 2)).block, (ad206.add ((a1).toNat * 2)).off + 1, none⟩ = some (.int .i64 ((rd_T43 t203 a1).f1)) ∧ w'.cell? (ad206.add ((a2).toNat * 2)) = some (.int .i64 ((rd_T43 t203 a2).f0)) ∧ w'.cell? ⟨(ad206.add ((a2).toNat * 2)).block, (ad206.add ((a2).toNat * 2)).off + 1, none⟩ = some (.int .i64 ((rd_T43 t203 a2).f1)) ∧ w'.cell? (ad206.add ((a1).toNat * 2)) = some (.int .i64 ((rd_T43 t203 a1).f0)) ∧ w'.cell? ⟨(ad206.add ((a1).toNat * 2)).block, (ad206.add ((a1).toNat * 2)).off + 1, none⟩ = some (.int .i64 ((rd_T43 t203 a1).f1))) (ds := []) #[false, false, false, false, false, false, false, false, false, false, false, false, false, false, false, false, false, false, false, false, false, false, false, false, false, false] (by kernel_rfl) rfl rfl ⟨hx206_0, hx206_1, hx207_0, hx207_1, hx208_0, hx208_1, hx209_0, hx209_1⟩ (fun hHeld => ?_); refine with_tabW forecourtref01_Metered.tab12 forecourtref01_Metered.bits12 (fun HT_ HW_ => ?_)
        generalize w48.drew = w49 at HO205 BK198 BK199 HB hx206_0 hx206_1 hx207_0 hx207_1 hx208_0 hx208_1 hx209_0 hx209_1 hHeld ⊢
        refine pureT (i := 0) (N := some 49) HT_.out ?_
        refine pureT (i := 1) (N := some 50) HT_.out ?_
        refine pureT (i := 2) (N := some 51) HT_.out ?_
        refine pureT (i := 3) (N := some 52) HT_.out ?_
        refine pureT (i := 5) (N := some 54) HT_.out ?_
        refine pureT (i := 6) (N := some 55) HT_.out ?_
        refine pureT (i := 7) (N := some 56) HT_.out ?_
        refine pureT (i := 8) (N := some 57) HT_.out ?_
        refine pureT (i := 12) (N := some 61) HT_.out ?_
        refine pureT (i := 13) (N := some 62) HT_.out ?_
        refine pureT (i := 14) (N := some 63) HT_.out ?_
        refine pureT (i := 15) (N := some 64) HT_.out ?_
        refine pureT (i := 17) (N := some 66) HT_.out ?_
        refine pureT (i := 18) (N := some 67) HT_.out ?_
        refine pureT (i := 19) (N := some 68) HT_.out ?_
        refine pureT (i := 20) (N := some 69) HT_.out ?_
        refine takeT (i := 4) (N := some 53) HT_.out HW_.out hHeld (hy := by (rintro w' ⟨s0, s1, s2, s3, s4, s5, s6, s7⟩; go_simp; with_reducible rfl)) (h := ?_)
        refine takeT (i := 9) (N := some 58) HT_.out HW_.out hHeld (hy := by (rintro w' ⟨s0, s1, s2, s3, s4, s5, s6, s7⟩; go_simp; with_reducible rfl)) (h := ?_)
        refine pureT (i := 10) (N := some 59) HT_.out ?_
        refine pureT (i := 11) (N := some 60) HT_.out ?_
        refine takeT (i := 16) (N := some 65) HT_.out HW_.out hHeld (hy := by (rintro w' ⟨s0, s1, s2, s3, s4, s5, s6, s7⟩; go_simp; with_reducible rfl)) (h := ?_)
        refine takeT (i := 21) (N := some 70) HT_.out HW_.out hHeld (hy := by (rintro w' ⟨s0, s1, s2, s3, s4, s5, s6, s7⟩; go_simp; with_reducible rfl)) (h := ?_)
        refine pureT (i := 22) (N := some 71) HT_.out ?_
        refine pureT (i := 23) (N := some 72) HT_.out ?_
        refine one_ (i := 24) (N := none) #[true, true, true, true, true, true, true, true, true, true, true, true, true, true, true, true, true, true, true, true, true, true, true, true, true, false] rfl rfl (one_of HT_.out (by kernel_rfl)) (by decide) (fun K hK => ?_)
        have hs51 : w49.cell? ⟨gb199, 0, none⟩ = some (.int .i64 0) := (blk_cell BK199.out 0).trans rfl
        have hfs51 := blk_frozen BK199.out 0
        have hns51_0 := NB198_199.out
        have hms51_0 := NB199_198.out
        have hs52 : w49.cell? ⟨gb199, 1, none⟩ = some (.int .i64 0) := (blk_cell BK199.out 1).trans rfl
        have hfs52 := blk_frozen BK199.out 1
        have hns52_0 := NB198_199.out
        have hms52_0 := NB199_198.out
        refine skip_ (w1 := ?_) (by rfl) rfl ?_ ?_
        rotate_left
        ·go_simp
         rfl
        refine hK.out _ _ ⟨((cell_far (p := ⟨gb199, _, none⟩) qb2 _).trans (((cell_far (p := ⟨gb199, _, none⟩) qb2 _).trans (hHeld.1)))), ((cell_far (p := ⟨gb199, _, none⟩) qb2 _).trans (((cell_far (p := ⟨gb199, _, none⟩) qb2 _).trans (hHeld.2.1)))), ((cell_far (p := ⟨gb199, _, none⟩) qb2 _).trans (((cell_far (p := ⟨gb199, _, none⟩) qb2 _).trans (hHeld.2.2.1)))), ((cell_far (p := ⟨gb199, _, none⟩) qb2 _).trans (((cell_far (p := ⟨gb199, _, none⟩) qb2 _).trans (hHeld.2.2.2.1)))), ((cell_far (p := ⟨gb199, _, none⟩) qb2 _).trans (((cell_far (p := ⟨gb199, _, none⟩) qb2 _).trans (hHeld.2.2.2.2.1)))), ((cell_far (p := ⟨gb199, _, none⟩) qb2 _).trans (((cell_far (p := ⟨gb199, _, none⟩) qb2 _).trans (hHeld.2.2.2.2.2.1)))), ((cell_far (p := ⟨gb199, _, none⟩) qb2 _).trans (((cell_far (p := ⟨gb199, _, none⟩) qb2 _).trans (hHeld.2.2.2.2.2.2.1)))), ((cell_far (p := ⟨gb199, _, none⟩) qb2 _).trans (((cell_far (p := ⟨gb199, _, none⟩) qb2 _).trans (hHeld.2.2.2.2.2.2.2))))⟩ (fun hHeld => ?_)
        clear hK K
        refine pureT (i := 25) (N := some 7) HT_.out ?_
        refine done_ (done_of HT_.out (by kernel_rfl)) ?_
        try go_wp2
        refine bodyPost_ret (results_ct rfl _ _ gb199 43 #[.int .i64 ji43, .int .i64 (wrap64 (((rd_T43 t203 a2).f1) - ((rd_T43 t203 a1).f0)))] (0, 0) _ rfl (by (skip); refine blk_put (cs := #[.int .i64 ji43, .int .i64 0]) ?_ 1 _ rfl; (skip); refine blk_put (cs := #[.int .i64 0, .int .i64 0]) ?_ 0 _ rfl; (skip); exact BK199.out) Try.underlying43 rfl (by kernel_rfl)) rfl ?_
        exact ⟨by first | rfl | (simp [errW_none, errW_some] <;> rfl) | (simp only [← hji43]; first | rfl | (simp [errW_none, errW_some] <;> rfl)) | (simp [*, errW_none, errW_some] <;> rfl), by (with_reducible refine below_set ?_ GE199.out; with_reducible refine below_set ?_ GE199.out; with_reducible exact HB.out)⟩
       rw [if_neg c42] at H
       exact absurd H (by simp)
      rw [if_neg c41] at H
      exact absurd H (by simp)
     rw [if_neg c40] at H
     exact absurd H (by simp)
    rw [if_neg c39] at H
    exact absurd H (by simp)
 rw [if_neg c5] at H
 have c5b0 : (t200 == 0) = false := beq_eq_false_iff_ne.mpr c5
 have c5b1 : (t200 != 0) = true := bne_iff_ne.mpr c5
 replace H := Option.bind_eq_some_iff.mp H
 obtain ⟨t201, A530, H⟩ := H
 replace H : (some (0, 0, t201)) = some (r1, r2, r3) := H
 have A53 := Aside0.mk A530
 clear A530
 have EA53 := Aside0.mk (Option.some.inj (A4.out.symm.trans A53.out))
 simp only [Option.some.injEq, Prod.mk.injEq] at H
 obtain ⟨rfl, rfl, rfl⟩ := H
 go_enter Try.func29, Try.ntmps29
 go_wp2_with (first | ((with_reducible refine gate_dst (N := 3) rfl ?_); (try (refine gate_guard (by rfl) ?_; dsimp only)); refine box_event ?hg (N := 3) ?hd (cs := #[.slice A0_0 l0_0.length c0_0, .int .i64 a0_1]) (t := 24) ?hr ?_; (case hd => rfl); (case hg => rfl); (case hr => first | (go_simp; done) | (go_simp; rfl)); intro gb198 hg w54 hbox hb; have n0_ := Aside0.mk (below_step qb4 hb); have n1_ := Aside0.mk (hbox); have n2_ := Aside0.mk ((by rw [hg]; exact (below_size qb4) : w.heap.size ≤ gb198)); have n3_ := Aside0.mk ((by rw [hg]; exact (below_size qb4) : w.heap.size ≤ gb198)); clear HB; have HB := n0_; have BK198 := n1_; have GW198 := n2_; have GE198 := n3_; clear n0_ n1_ n2_ n3_; clear hb hbox hg) | ((with_reducible refine gate_dst (N := 6) rfl ?_); (try (refine gate_guard (by rfl) ?_; dsimp only)); refine box_event ?hg (N := 6) ?hd (cs := #[.int .i64 0, .int .i64 0]) (t := 43) ?hr ?_; (case hd => rfl); (case hg => rfl); (case hr => first | (go_simp; done) | (go_simp; rfl)); intro gb199 hg w55 hbox hb; have n0_ := Aside0.mk (blk_below (g := gb198) (o := .cells #[.slice A0_0 l0_0.length c0_0, .int .i64 a0_1] 24 (0, 0)) (by exact BK198.out) hb); have n1_ := Aside0.mk (below_step qb4 hb); have n2_ := Aside0.mk (hbox); have n3_ := Aside0.mk ((by rw [hg]; exact (below_size qb4) : w.heap.size ≤ gb199)); have n4_ := Aside0.mk ((by rw [hg]; exact (below_size qb4) : w.heap.size ≤ gb199)); have n5_ := Aside0.mk ((by rw [hg]; exact Nat.ne_of_lt (blk_lt (g := gb198) (o := .cells #[.slice A0_0 l0_0.length c0_0, .int .i64 a0_1] 24 (0, 0)) (by exact BK198.out)) : gb198 ≠ gb199)); have n6_ := Aside0.mk ((by rw [hg]; exact Nat.ne_of_gt (blk_lt (g := gb198) (o := .cells #[.slice A0_0 l0_0.length c0_0, .int .i64 a0_1] 24 (0, 0)) (by exact BK198.out)) : gb199 ≠ gb198)); clear BK198; clear HB; have BK198 := n0_; have HB := n1_; have BK199 := n2_; have GW199 := n3_; have GE199 := n4_; have NB198_199 := n5_; have NB199_198 := n6_; clear n0_ n1_ n2_ n3_ n4_ n5_ n6_; clear hb hbox hg; have hnb56 := NB198_199.out; have hnc56 := NB199_198.out; have hcz57_0 : w55.cell? ⟨gb198, 0, none⟩ = some (.slice A0_0 l0_0.length c0_0) := (blk_cell BK198.out 0).trans rfl; have hcz57_1 : w55.cell? ⟨gb198, 1, none⟩ = some (.int .i64 a0_1) := (blk_cell BK198.out 1).trans rfl; have hfz57_0 := blk_frozen BK198.out 0; have hfz57_1 := blk_frozen BK198.out 1) | ((with_reducible refine gate_callee (f := 22) rfl ?_); refine goesL_ (some 10) rfl rfl Try.func22 (by kernel_rfl) rfl #[.agg #[.slice A0_0 l0_0.length c0_0, .int .i64 a0_1]] rfl qb3 ?_; (with_reducible refine (forecourtref01_CheckTank.calls k _ _ l0_0 a0_1 t200 _ ?side1 ?side2 A4.out).mono ?_); (case side1 => (exact (Kd.C_below HR0_0.out HB.out))); (case side2 => exact HC0_0.out); rintro e w58 ⟨rfl, hb⟩; refine ⟨_, rfl, ?_⟩; have n0_ := Aside0.mk (blk_below (g := gb198) (o := .cells #[.slice A0_0 l0_0.length c0_0, .int .i64 a0_1] 24 (0, 0)) (by exact BK198.out) hb); have n1_ := Aside0.mk (blk_below (g := gb199) (o := .cells #[.int .i64 0, .int .i64 0] 43 (0, 0)) (by exact BK199.out) hb); have n2_ := Aside0.mk (below_step qb4 hb); clear BK198; clear BK199; clear HB; have BK198 := n0_; have BK199 := n1_; have HB := n2_; clear n0_ n1_ n2_; (try clear hb); (try clear hb2); (try clear hk); (try clear hi); have hcz59_0 : w58.cell? ⟨gb198, 0, none⟩ = some (.slice A0_0 l0_0.length c0_0) := (blk_cell BK198.out 0).trans rfl; have hcz59_1 : w58.cell? ⟨gb198, 1, none⟩ = some (.int .i64 a0_1) := (blk_cell BK198.out 1).trans rfl; have hfz59_0 := blk_frozen BK198.out 0; have hfz59_1 := blk_frozen BK198.out 1) | ((with_reducible refine gate_callee (f := 22) rfl ?_); refine goesL_ (some 14) rfl rfl Try.func22 (by kernel_rfl) rfl #[.agg #[.slice A0_0 l0_0.length c0_0, .int .i64 a0_1]] rfl qb3 ?_; (with_reducible refine (forecourtref01_CheckTank.calls k _ _ l0_0 a0_1 t201 _ ?side1 ?side2 A53.out).mono ?_); (case side1 => (exact (Kd.C_below HR0_0.out HB.out))); (case side2 => exact HC0_0.out); rintro e w60 ⟨rfl, hb⟩; refine ⟨_, rfl, ?_⟩; have n0_ := Aside0.mk (blk_below (g := gb198) (o := .cells #[.slice A0_0 l0_0.length c0_0, .int .i64 a0_1] 24 (0, 0)) (by exact BK198.out) hb); have n1_ := Aside0.mk (blk_below (g := gb199) (o := .cells #[.int .i64 0, .int .i64 0] 43 (0, 0)) (by exact BK199.out) hb); have n2_ := Aside0.mk (below_step qb4 hb); clear BK198; clear BK199; clear HB; have BK198 := n0_; have BK199 := n1_; have HB := n2_; clear n0_ n1_ n2_; (try clear hb); (try clear hb2); (try clear hk); (try clear hi); have hcz61_0 : w60.cell? ⟨gb199, 0, none⟩ = some (.int .i64 0) := (blk_cell BK199.out 0).trans rfl; have hcz61_1 : w60.cell? ⟨gb199, 1, none⟩ = some (.int .i64 0) := (blk_cell BK199.out 1).trans rfl; have hfz61_0 := blk_frozen BK199.out 0; have hfz61_1 := blk_frozen BK199.out 1))
 refine bodyPost_ret (results_ct rfl _ _ gb199 43 #[.int .i64 0, .int .i64 0] (0, 0) _ rfl qb8 Try.underlying43 rfl (by kernel_rfl)) rfl ?_
 try (have d_ := EA53.out; clear EA53; subst d_)
 exact ⟨by first | rfl | (simp [errW_none, errW_some] <;> rfl) | (simp [*, errW_none, errW_some] <;> rfl), by (with_reducible refine below_set ?_ GE199.out; with_reducible refine below_set ?_ GE199.out; with_reducible exact HB.out)⟩
end Go.Proofs.Ytpkajhmchcbbhaa.P
end
