/- Part 8 of 44. -/
import Derived.Test.YtpkajhmchcbbhaaL0
import Derived.Test.YtpkajhmchcbbhaaL5
import Derived.Test.YtpkajhmchcbbhaaL6
set_option linter.unusedSimpArgs false
set_option linter.unusedVariables false
section
namespace Go.Proofs.Ytpkajhmchcbbhaa.P
open Go.RowKit Go.Proofs.YtpkajhmchcbbhaaW.PrintWords Go.Proofs.YtpkajhmchcbbhaaW.PrintLast Go.Proofs.YtpkajhmchcbbhaaW.PrintMore
attribute [local go_sem] max2_int min2_int max_two min_two max_three min_three max_four min_four
def forecourtref01_CheckChart.l0 : Nat → List Int → Int → List (S70) → Int → Option (Int)
 | 0, _, _, _, _ => none
 | k + 1, x1, x5, x144000, x144001 => if x5 < (x1.length : Int) then (if 0 ≤ x5 then (if x5 < (x144000.length : Int) then (if (rd x1 x5) < ((rd_T70 x144000 x5).f1.f0) then (some 21) else (if (rd x1 x5) > ((rd_T70 x144000 x5).f1.f1) then (some 21) else (if x5 > 0 then (if 0 ≤ (wrap64 (x5 - 1)) then (if (wrap64 (x5 - 1)) < (x1.length : Int) then (if (rd x1 x5) < (rd x1 (wrap64 (x5 - 1))) then (some 21) else (forecourtref01_CheckChart.l0 k x1 (wrap64 (x5 + 1)) x144000 x144001)) else (none)) else (none)) else (forecourtref01_CheckChart.l0 k x1 (wrap64 (x5 + 1)) x144000 x144001)))) else (none)) else (none)) else (some 0)
def forecourtref01_CheckChart.f (k : Nat) (l0_0 : List (S70)) (a0_1 : Int) (l1 : List Int) : Option (Int) := (forecourtref01_CheckTank.f k l0_0 a0_1).bind fun t144 => (if t144 = 0 then (if (l1.length : Int) = (l0_0.length : Int) then (forecourtref01_CheckChart.l0 k l1 0 l0_0 a0_1) else (some 15)) else ((forecourtref01_CheckTank.f k l0_0 a0_1).bind fun t145 => (some t145)))
set_option maxHeartbeats 8000000 in
set_option maxRecDepth 100000 in
theorem forecourtref01_CheckChart.calls (k : Nat) (A0_0 : Option Addr) (c0_0 : Nat) (l0_0 : List (S70)) (a0_1 : Int) (A1 : Option Addr) (c1 : Nat) (l1 : List Int) (r : Int) (w : World) (hr0_0 : Kd.C k70 w A0_0 l0_0.length l0_0) (hc0_0 : l0_0.length ≤ c0_0) (hr1 : Kd.C (Kd.int .i64) w A1 l1.length l1) (hc1 : l1.length ≤ c1) (h : forecourtref01_CheckChart.f k l0_0 a0_1 l1 = some r) :
  Calls Try.prog 24 #[.agg #[.slice A0_0 l0_0.length c0_0, .int .i64 a0_1], .slice A1 l1.length c1] w fun e w' => e = .returned (.int .i64 r) ∧ Below w.heap.size w w' := by
 have hu24 := Try.underlying24
 have hu43 := Try.underlying43
 have HR0_0 := Aside0.mk hr0_0
 have HC0_0 := Aside0.mk hc0_0
 clear hr0_0 hc0_0
 have HR1 := Aside0.mk hr1
 have HC1 := Aside0.mk hc1
 clear hr1 hc1
 have HB := Aside0.mk (Below.refl w.heap.size w)
 have H : ((forecourtref01_CheckTank.f k l0_0 a0_1).bind fun t144 => (if t144 = 0 then (if (l1.length : Int) = (l0_0.length : Int) then (forecourtref01_CheckChart.l0 k l1 0 l0_0 a0_1) else (some 15)) else ((forecourtref01_CheckTank.f k l0_0 a0_1).bind fun t145 => (some t145)))) = some r := h
 clear h
 replace H := Option.bind_eq_some_iff.mp H
 obtain ⟨t144, A30, H⟩ := H
 replace H : (if t144 = 0 then (if (l1.length : Int) = (l0_0.length : Int) then (forecourtref01_CheckChart.l0 k l1 0 l0_0 a0_1) else (some 15)) else ((forecourtref01_CheckTank.f k l0_0 a0_1).bind fun t145 => (some t145))) = some r := H
 have A3 := Aside0.mk A30
 clear A30
 by_cases c4 : t144 = 0
 ·rw [if_pos c4] at H
  have c4b0 : (t144 == 0) = true := beq_iff_eq.mpr c4
  have c4b1 : (t144 != 0) = false := bne_eq_false_iff_eq.mpr c4
  clear c4
  by_cases c5 : (l1.length : Int) = (l0_0.length : Int)
  ·rw [if_pos c5] at H
   have c5b0 : ((l1.length : Int) == (l0_0.length : Int)) = true := beq_iff_eq.mpr c5
   have c5b1 : ((l1.length : Int) != (l0_0.length : Int)) = false := bne_eq_false_iff_eq.mpr c5
   have c5b2 : (l1.length == l0_0.length) = true := by first | simpa using c5 | (simp at c5 ⊢; omega)
   clear c5
   have H' := Aside0.mk H
   clear H
   go_enter Try.func24, Try.ntmps24
   go_wp2_with (first | ((with_reducible refine gate_dst (N := 2) rfl ?_); refine box_event ?hg (N := 2) ?hd (cs := #[.slice A0_0 l0_0.length c0_0, .int .i64 a0_1]) (t := 24) ?hr ?_; (case hd => rfl); (case hg => rfl); (case hr => first | (go_simp; done) | (go_simp; rfl)); intro gb143 hg w6 hbox hb; have n0_ := Aside0.mk (below_step ql3 hb); have n1_ := Aside0.mk (hbox); have n2_ := Aside0.mk ((by rw [hg]; exact (below_size ql3) : w.heap.size ≤ gb143)); have n3_ := Aside0.mk ((by rw [hg]; exact (below_size ql3) : w.heap.size ≤ gb143)); clear HB; have HB := n0_; have BK143 := n1_; have GW143 := n2_; have GE143 := n3_; clear n0_ n1_ n2_ n3_; clear hb hbox hg; have hcz7_0 : w6.cell? ⟨gb143, 0, none⟩ = some (.slice A0_0 l0_0.length c0_0) := (blk_cell BK143.out 0).trans rfl; have hcz7_1 : w6.cell? ⟨gb143, 1, none⟩ = some (.int .i64 a0_1) := (blk_cell BK143.out 1).trans rfl; have hfz7_0 := blk_frozen BK143.out 0; have hfz7_1 := blk_frozen BK143.out 1) | (go_at_call 22; (with_reducible refine (forecourtref01_CheckTank.calls k _ _ l0_0 a0_1 t144 _ ?side1 ?side2 A3.out).mono ?_); (case side1 => (exact (Kd.C_below HR0_0.out HB.out))); (case side2 => exact HC0_0.out); rintro e w8 ⟨rfl, hb⟩; have n0_ := Aside0.mk (blk_below (g := gb143) (o := .cells #[.slice A0_0 l0_0.length c0_0, .int .i64 a0_1] 24 (0, 0)) (by exact BK143.out) hb); have n1_ := Aside0.mk (below_step ql3 hb); clear BK143; clear HB; have BK143 := n0_; have HB := n1_; clear n0_ n1_; (try clear hb); (try clear hb2); (try clear hk); (try clear hi); have hcz9_0 : w8.cell? ⟨gb143, 0, none⟩ = some (.slice A0_0 l0_0.length c0_0) := (blk_cell BK143.out 0).trans rfl; have hcz9_1 : w8.cell? ⟨gb143, 1, none⟩ = some (.int .i64 a0_1) := (blk_cell BK143.out 1).trans rfl; have hfz9_0 := blk_frozen BK143.out 0; have hfz9_1 := blk_frozen BK143.out 1))
   repeat (go_quiet (fail); try go_wp2_with fail)
   go_loopg [5] k (fun kq v5 w' => ∃ (x5_1 : Int), v5 = .int .i64 x5_1 ∧ Aside0 (forecourtref01_CheckChart.l0 kq l1 x5_1 l0_0 a0_1 = some r) ∧ Aside0 (kq ≤ k) ∧ Aside0 (w'.heap[gb143]? = some (.cells #[(.slice A0_0 l0_0.length c0_0), .int .i64 a0_1] 24 (0, 0))) ∧ Aside0 (Below w.heap.size w w'))
   case atStart => exact ⟨(0), ql4, H', ⟨Nat.le_refl _⟩, ⟨by (skip); exact BK143.out⟩, ⟨by (with_reducible exact HB.out)⟩⟩
   case round =>
    clear H'
    try clear c1
    try clear c2
    try clear p2
    try clear c4
    try clear c4b0
    try clear c4b1
    try clear c5
    try clear c5b0
    try clear c5b1
    try clear c5b2
    try clear hcz7_0
    try clear hcz7_1
    try clear hcz9_0
    try clear hcz9_1
    try clear hfz7_0
    try clear hfz7_1
    try clear hfz9_0
    try clear hfz9_1
    obtain ⟨x5_1, rfl, HA, HK1, BK143, HB⟩ := hrel
    cases gk with
    | zero => exact absurd HA.out (by simp [forecourtref01_CheckChart.l0])
    | succ k1 =>
     have H := HA.out
     clear HA
     simp only [forecourtref01_CheckChart.l0] at H
     by_cases c10 : x5_1 < (l1.length : Int)
     ·rw [if_pos c10] at H
      have c10b0 : decide (x5_1 < (l1.length : Int)) = true := decide_eq_true c10
      clear c10
      by_cases c11 : 0 ≤ x5_1
      ·rw [if_pos c11] at H
       have c11b0 : decide (0 ≤ x5_1) = true := decide_eq_true c11
       clear c11
       by_cases c12 : x5_1 < (l0_0.length : Int)
       ·rw [if_pos c12] at H
        have c12b0 : decide (x5_1 < (l0_0.length : Int)) = true := decide_eq_true c12
        clear c12
        by_cases c13 : (rd l1 x5_1) < ((rd_T70 l0_0 x5_1).f1.f0)
        ·rw [if_pos c13] at H
         have c13b0 : decide ((rd l1 x5_1) < ((rd_T70 l0_0 x5_1).f1.f0)) = true := decide_eq_true c13
         clear c13
         obtain rfl := Option.some.inj H
         have hcz14_0 : wr.cell? ⟨gb143, 0, none⟩ = some (.slice A0_0 l0_0.length c0_0) := (blk_cell BK143.out 0).trans rfl
         have hcz14_1 : wr.cell? ⟨gb143, 1, none⟩ = some (.int .i64 a0_1) := (blk_cell BK143.out 1).trans rfl
         have hfz14_0 := blk_frozen BK143.out 0
         have hfz14_1 := blk_frozen BK143.out 1
         have p146 : 0 ≤ (x5_1 : Int) := of_decide_eq_true ql1
         have q146 : x5_1 < (l0_0.length : Int) := of_decide_eq_true ql1
         obtain ⟨ad146, e146, hx146_0, hx146_1, hx146_2⟩ := at_T70 HR0_0.out x5_1 p146 q146
         cases e146
         replace hx146_0 := (HB.out.cell (World.block_lt_of_cell? w _ hx146_0)).trans hx146_0
         replace hx146_1 := (HB.out.cell (World.block_lt_of_cell? w _ hx146_1)).trans hx146_1
         replace hx146_2 := (HB.out.cell (World.block_lt_of_cell? w _ hx146_2)).trans hx146_2
         replace p146 := eq_true p146
         replace q146 := eq_true q146
         go_wp2_with (first | ((with_reducible refine gate_dst (N := 6) rfl ?_); refine box_event ?hg (N := 6) ?hd (cs := #[.int .i64 0, .int .i64 0]) (t := 43) ?hr ?_; (case hd => rfl); (case hg => rfl); (case hr => first | (go_simp; done) | (go_simp; rfl)); intro gb147 hg w15 hbox hb; have n0_ := Aside0.mk (blk_below (g := gb143) (o := .cells #[.slice (some ad146) l0_0.length c0_0, .int .i64 a0_1] 24 (0, 0)) (by exact BK143.out) hb); have n1_ := Aside0.mk (below_step ql3 hb); have n2_ := Aside0.mk (hbox); have n3_ := Aside0.mk ((by rw [hg]; exact (below_size ql3) : w.heap.size ≤ gb147)); have n4_ := Aside0.mk ((by rw [hg]; exact (below_size ql3) : w.heap.size ≤ gb147)); have n5_ := Aside0.mk ((by rw [hg]; exact Nat.ne_of_lt (blk_lt (g := gb143) (o := .cells #[.slice (some ad146) l0_0.length c0_0, .int .i64 a0_1] 24 (0, 0)) (by exact BK143.out)) : gb143 ≠ gb147)); have n6_ := Aside0.mk ((by rw [hg]; exact Nat.ne_of_gt (blk_lt (g := gb143) (o := .cells #[.slice (some ad146) l0_0.length c0_0, .int .i64 a0_1] 24 (0, 0)) (by exact BK143.out)) : gb147 ≠ gb143)); clear BK143; clear HB; have BK143 := n0_; have HB := n1_; have BK147 := n2_; have GW147 := n3_; have GE147 := n4_; have NB143_147 := n5_; have NB147_143 := n6_; clear n0_ n1_ n2_ n3_ n4_ n5_ n6_; clear hb hbox hg; have hnb16 := NB147_143.out; have hnc16 := NB143_147.out; have hcz17_0 : w15.cell? ⟨gb147, 0, none⟩ = some (.int .i64 0) := (blk_cell BK147.out 0).trans rfl; have hcz17_1 : w15.cell? ⟨gb147, 1, none⟩ = some (.int .i64 0) := (blk_cell BK147.out 1).trans rfl; have hfz17_0 := blk_frozen BK147.out 0; have hfz17_1 := blk_frozen BK147.out 1; have p148 : 0 ≤ (x5_1 : Int) := of_decide_eq_true ql1; have q148 : x5_1 < (l1.length : Int) := of_decide_eq_true ql1; obtain ⟨ad148, e148, hx148_0⟩ := Kd.at_int HR1.out x5_1 p148 q148; cases e148; have hn148_0 : ad148.block ≠ gb147 := Nat.ne_of_lt (Nat.lt_of_lt_of_le ql6 GW147.out); have hn148_1 : ad148.block ≠ gb147 := Nat.ne_of_lt (Nat.lt_of_lt_of_le ql6 GW147.out); replace hx148_0 := (HB.out.cell (World.block_lt_of_cell? w _ hx148_0)).trans hx148_0; replace hx148_0 := (cell_far (p := ⟨gb147, 0, none⟩) ql16 (.int .i64 ((rd_T70 l0_0 x5_1).f1.f0))).trans hx148_0; replace hx148_0 := (cell_far (p := ⟨gb147, 1, none⟩) ql15 (.int .i64 ((rd_T70 l0_0 x5_1).f1.f1))).trans hx148_0; (try have hy148_0 := fun (n_ : Nat) => (show ((((w15.drewN n_).setCell ⟨gb147, 0, none⟩ (.int .i64 ((rd_T70 l0_0 x5_1).f1.f0))).setCell ⟨gb147, 1, none⟩ (.int .i64 ((rd_T70 l0_0 x5_1).f1.f1)))).cell? _ = some _ from hx148_0)); clear hn148_0; clear hn148_1; replace p148 := eq_true p148; replace q148 := eq_true q148))
         repeat (go_quiet (fail); try go_wp2_with fail)
         go_ret
         exact ⟨by first | rfl | (simp [errW_none, errW_some] <;> rfl) | (simp [*, errW_none, errW_some] <;> rfl), by repeat (first | with_reducible exact HB.out | with_reducible apply pw_below_drewN | with_reducible refine below_set ?_ GE147.out)⟩
        rw [if_neg c13] at H
        have c13b0 : decide ((rd l1 x5_1) < ((rd_T70 l0_0 x5_1).f1.f0)) = false := decide_eq_false c13
        clear c13
        by_cases c18 : (rd l1 x5_1) > ((rd_T70 l0_0 x5_1).f1.f1)
        ·rw [if_pos c18] at H
         have c18b0 : decide (((rd_T70 l0_0 x5_1).f1.f1) < (rd l1 x5_1)) = true := decide_eq_true c18
         clear c18
         obtain rfl := Option.some.inj H
         have hcz19_0 : wr.cell? ⟨gb143, 0, none⟩ = some (.slice A0_0 l0_0.length c0_0) := (blk_cell BK143.out 0).trans rfl
         have hcz19_1 : wr.cell? ⟨gb143, 1, none⟩ = some (.int .i64 a0_1) := (blk_cell BK143.out 1).trans rfl
         have hfz19_0 := blk_frozen BK143.out 0
         have hfz19_1 := blk_frozen BK143.out 1
         have p146 : 0 ≤ (x5_1 : Int) := of_decide_eq_true ql1
         have q146 : x5_1 < (l0_0.length : Int) := of_decide_eq_true ql1
         obtain ⟨ad146, e146, hx146_0, hx146_1, hx146_2⟩ := at_T70 HR0_0.out x5_1 p146 q146
         cases e146
         replace hx146_0 := (HB.out.cell (World.block_lt_of_cell? w _ hx146_0)).trans hx146_0
         replace hx146_1 := (HB.out.cell (World.block_lt_of_cell? w _ hx146_1)).trans hx146_1
         replace hx146_2 := (HB.out.cell (World.block_lt_of_cell? w _ hx146_2)).trans hx146_2
         replace p146 := eq_true p146
         replace q146 := eq_true q146
         go_wp2_with (first | ((with_reducible refine gate_dst (N := 6) rfl ?_); refine box_event ?hg (N := 6) ?hd (cs := #[.int .i64 0, .int .i64 0]) (t := 43) ?hr ?_; (case hd => rfl); (case hg => rfl); (case hr => first | (go_simp; done) | (go_simp; rfl)); intro gb147 hg w20 hbox hb; have n0_ := Aside0.mk (blk_below (g := gb143) (o := .cells #[.slice (some ad146) l0_0.length c0_0, .int .i64 a0_1] 24 (0, 0)) (by exact BK143.out) hb); have n1_ := Aside0.mk (below_step ql3 hb); have n2_ := Aside0.mk (hbox); have n3_ := Aside0.mk ((by rw [hg]; exact (below_size ql3) : w.heap.size ≤ gb147)); have n4_ := Aside0.mk ((by rw [hg]; exact (below_size ql3) : w.heap.size ≤ gb147)); have n5_ := Aside0.mk ((by rw [hg]; exact Nat.ne_of_lt (blk_lt (g := gb143) (o := .cells #[.slice (some ad146) l0_0.length c0_0, .int .i64 a0_1] 24 (0, 0)) (by exact BK143.out)) : gb143 ≠ gb147)); have n6_ := Aside0.mk ((by rw [hg]; exact Nat.ne_of_gt (blk_lt (g := gb143) (o := .cells #[.slice (some ad146) l0_0.length c0_0, .int .i64 a0_1] 24 (0, 0)) (by exact BK143.out)) : gb147 ≠ gb143)); clear BK143; clear HB; have BK143 := n0_; have HB := n1_; have BK147 := n2_; have GW147 := n3_; have GE147 := n4_; have NB143_147 := n5_; have NB147_143 := n6_; clear n0_ n1_ n2_ n3_ n4_ n5_ n6_; clear hb hbox hg; have hnb21 := NB147_143.out; have hnc21 := NB143_147.out; have hcz22_0 : w20.cell? ⟨gb147, 0, none⟩ = some (.int .i64 0) := (blk_cell BK147.out 0).trans rfl; have hcz22_1 : w20.cell? ⟨gb147, 1, none⟩ = some (.int .i64 0) := (blk_cell BK147.out 1).trans rfl; have hfz22_0 := blk_frozen BK147.out 0; have hfz22_1 := blk_frozen BK147.out 1; have p148 : 0 ≤ (x5_1 : Int) := of_decide_eq_true ql1; have q148 : x5_1 < (l1.length : Int) := of_decide_eq_true ql1; obtain ⟨ad148, e148, hx148_0⟩ := Kd.at_int HR1.out x5_1 p148 q148; cases e148; have hn148_0 : ad148.block ≠ gb147 := Nat.ne_of_lt (Nat.lt_of_lt_of_le ql6 GW147.out); have hn148_1 : ad148.block ≠ gb147 := Nat.ne_of_lt (Nat.lt_of_lt_of_le ql6 GW147.out); replace hx148_0 := (HB.out.cell (World.block_lt_of_cell? w _ hx148_0)).trans hx148_0; replace hx148_0 := (cell_far (p := ⟨gb147, 0, none⟩) ql16 (.int .i64 ((rd_T70 l0_0 x5_1).f1.f0))).trans hx148_0; replace hx148_0 := (cell_far (p := ⟨gb147, 1, none⟩) ql15 (.int .i64 ((rd_T70 l0_0 x5_1).f1.f1))).trans hx148_0; (try have hy148_0 := fun (n_ : Nat) => (show ((((w20.drewN n_).setCell ⟨gb147, 0, none⟩ (.int .i64 ((rd_T70 l0_0 x5_1).f1.f0))).setCell ⟨gb147, 1, none⟩ (.int .i64 ((rd_T70 l0_0 x5_1).f1.f1)))).cell? _ = some _ from hx148_0)); clear hn148_0; clear hn148_1; replace p148 := eq_true p148; replace q148 := eq_true q148; have p149 : 0 ≤ (x5_1 : Int) := of_decide_eq_true ql1; have q149 : x5_1 < (l1.length : Int) := of_decide_eq_true ql1; obtain ⟨ad149, e149, hx149_0⟩ := Kd.at_int HR1.out x5_1 p149 q149; obtain rfl : ad148 = ad149 := (by injection e149); have hn149_0 : ad148.block ≠ gb147 := Nat.ne_of_lt (Nat.lt_of_lt_of_le ql8 GW147.out); have hn149_1 : ad148.block ≠ gb147 := Nat.ne_of_lt (Nat.lt_of_lt_of_le ql8 GW147.out); replace hx149_0 := (HB.out.cell (World.block_lt_of_cell? w _ hx149_0)).trans hx149_0; replace hx149_0 := (cell_far (p := ⟨gb147, 0, none⟩) ql19 (.int .i64 ((rd_T70 l0_0 x5_1).f1.f0))).trans hx149_0; replace hx149_0 := (cell_far (p := ⟨gb147, 1, none⟩) ql18 (.int .i64 ((rd_T70 l0_0 x5_1).f1.f1))).trans hx149_0; (try have hy149_0 := fun (n_ : Nat) => (show ((((w20.drewN n_).setCell ⟨gb147, 0, none⟩ (.int .i64 ((rd_T70 l0_0 x5_1).f1.f0))).setCell ⟨gb147, 1, none⟩ (.int .i64 ((rd_T70 l0_0 x5_1).f1.f1)))).cell? _ = some _ from hx149_0)); clear hn149_0; clear hn149_1; replace p149 := eq_true p149; replace q149 := eq_true q149))
         repeat (go_quiet (fail); try go_wp2_with fail)
         go_ret
         exact ⟨by first | rfl | (simp [errW_none, errW_some] <;> rfl) | (simp [*, errW_none, errW_some] <;> rfl), by repeat (first | with_reducible exact HB.out | with_reducible apply pw_below_drewN | with_reducible refine below_set ?_ GE147.out)⟩
        rw [if_neg c18] at H
        have c18b0 : decide (((rd_T70 l0_0 x5_1).f1.f1) < (rd l1 x5_1)) = false := decide_eq_false c18
        clear c18
        by_cases c23 : x5_1 > 0
        ·rw [if_pos c23] at H
         have c23b0 : decide (0 < x5_1) = true := decide_eq_true c23
         clear c23
         obtain ⟨ji24, hji24⟩ : ∃ j_ : Int, (wrap64 (x5_1 - 1)) = j_ := ⟨_, rfl⟩
         replace H : (if 0 ≤ (ji24) then (if (ji24) < (l1.length : Int) then (if (rd l1 x5_1) < (rd l1 (ji24)) then (some 21) else (forecourtref01_CheckChart.l0 k1 l1 (wrap64 (x5_1 + 1)) l0_0 a0_1)) else (none)) else (none)) = some r := by first | (rw [hji24] at H; exact H) | (simp only [hji24] at H ⊢; exact H)
         have hji24w : (IntKind.i64.wrap (x5_1 - 1)) = ji24 := (i64_w _).trans hji24
         by_cases c25 : 0 ≤ (ji24)
         ·rw [if_pos c25] at H
          have c25b0 : decide (0 ≤ (ji24)) = true := decide_eq_true c25
          clear c25
          by_cases c26 : (ji24) < (l1.length : Int)
          ·rw [if_pos c26] at H
           have c26b0 : decide ((ji24) < (l1.length : Int)) = true := decide_eq_true c26
           clear c26
           by_cases c27 : (rd l1 x5_1) < (rd l1 (ji24))
           ·rw [if_pos c27] at H
            have c27b0 : decide ((rd l1 x5_1) < (rd l1 (ji24))) = true := decide_eq_true c27
            clear c27
            obtain rfl := Option.some.inj H
            have hcz28_0 : wr.cell? ⟨gb143, 0, none⟩ = some (.slice A0_0 l0_0.length c0_0) := (blk_cell BK143.out 0).trans rfl
            have hcz28_1 : wr.cell? ⟨gb143, 1, none⟩ = some (.int .i64 a0_1) := (blk_cell BK143.out 1).trans rfl
            have hfz28_0 := blk_frozen BK143.out 0
            have hfz28_1 := blk_frozen BK143.out 1
            have p146 : 0 ≤ (x5_1 : Int) := of_decide_eq_true ql1
            have q146 : x5_1 < (l0_0.length : Int) := of_decide_eq_true ql1
            obtain ⟨ad146, e146, hx146_0, hx146_1, hx146_2⟩ := at_T70 HR0_0.out x5_1 p146 q146
            cases e146
            replace hx146_0 := (HB.out.cell (World.block_lt_of_cell? w _ hx146_0)).trans hx146_0
            replace hx146_1 := (HB.out.cell (World.block_lt_of_cell? w _ hx146_1)).trans hx146_1
            replace hx146_2 := (HB.out.cell (World.block_lt_of_cell? w _ hx146_2)).trans hx146_2
            replace p146 := eq_true p146
            replace q146 := eq_true q146
            go_wp2_with (first | ((with_reducible refine gate_dst (N := 6) rfl ?_); refine box_event ?hg (N := 6) ?hd (cs := #[.int .i64 0, .int .i64 0]) (t := 43) ?hr ?_; (case hd => rfl); (case hg => rfl); (case hr => first | (go_simp; done) | (go_simp; rfl)); intro gb147 hg w29 hbox hb; have n0_ := Aside0.mk (blk_below (g := gb143) (o := .cells #[.slice (some ad146) l0_0.length c0_0, .int .i64 a0_1] 24 (0, 0)) (by exact BK143.out) hb); have n1_ := Aside0.mk (below_step ql3 hb); have n2_ := Aside0.mk (hbox); have n3_ := Aside0.mk ((by rw [hg]; exact (below_size ql3) : w.heap.size ≤ gb147)); have n4_ := Aside0.mk ((by rw [hg]; exact (below_size ql3) : w.heap.size ≤ gb147)); have n5_ := Aside0.mk ((by rw [hg]; exact Nat.ne_of_lt (blk_lt (g := gb143) (o := .cells #[.slice (some ad146) l0_0.length c0_0, .int .i64 a0_1] 24 (0, 0)) (by exact BK143.out)) : gb143 ≠ gb147)); have n6_ := Aside0.mk ((by rw [hg]; exact Nat.ne_of_gt (blk_lt (g := gb143) (o := .cells #[.slice (some ad146) l0_0.length c0_0, .int .i64 a0_1] 24 (0, 0)) (by exact BK143.out)) : gb147 ≠ gb143)); clear BK143; clear HB; have BK143 := n0_; have HB := n1_; have BK147 := n2_; have GW147 := n3_; have GE147 := n4_; have NB143_147 := n5_; have NB147_143 := n6_; clear n0_ n1_ n2_ n3_ n4_ n5_ n6_; clear hb hbox hg; have hnb30 := NB147_143.out; have hnc30 := NB143_147.out; have hcz31_0 : w29.cell? ⟨gb147, 0, none⟩ = some (.int .i64 0) := (blk_cell BK147.out 0).trans rfl; have hcz31_1 : w29.cell? ⟨gb147, 1, none⟩ = some (.int .i64 0) := (blk_cell BK147.out 1).trans rfl; have hfz31_0 := blk_frozen BK147.out 0; have hfz31_1 := blk_frozen BK147.out 1; have p148 : 0 ≤ (x5_1 : Int) := of_decide_eq_true ql1; have q148 : x5_1 < (l1.length : Int) := of_decide_eq_true ql1; obtain ⟨ad148, e148, hx148_0⟩ := Kd.at_int HR1.out x5_1 p148 q148; cases e148; have hn148_0 : ad148.block ≠ gb147 := Nat.ne_of_lt (Nat.lt_of_lt_of_le ql6 GW147.out); have hn148_1 : ad148.block ≠ gb147 := Nat.ne_of_lt (Nat.lt_of_lt_of_le ql6 GW147.out); replace hx148_0 := (HB.out.cell (World.block_lt_of_cell? w _ hx148_0)).trans hx148_0; replace hx148_0 := (cell_far (p := ⟨gb147, 0, none⟩) ql16 (.int .i64 ((rd_T70 l0_0 x5_1).f1.f0))).trans hx148_0; replace hx148_0 := (cell_far (p := ⟨gb147, 1, none⟩) ql15 (.int .i64 ((rd_T70 l0_0 x5_1).f1.f1))).trans hx148_0; (try have hy148_0 := fun (n_ : Nat) => (show ((((w29.drewN n_).setCell ⟨gb147, 0, none⟩ (.int .i64 ((rd_T70 l0_0 x5_1).f1.f0))).setCell ⟨gb147, 1, none⟩ (.int .i64 ((rd_T70 l0_0 x5_1).f1.f1)))).cell? _ = some _ from hx148_0)); clear hn148_0; clear hn148_1; replace p148 := eq_true p148; replace q148 := eq_true q148; have p149 : 0 ≤ (x5_1 : Int) := of_decide_eq_true ql1; have q149 : x5_1 < (l1.length : Int) := of_decide_eq_true ql1; obtain ⟨ad149, e149, hx149_0⟩ := Kd.at_int HR1.out x5_1 p149 q149; obtain rfl : ad148 = ad149 := (by injection e149); have hn149_0 : ad148.block ≠ gb147 := Nat.ne_of_lt (Nat.lt_of_lt_of_le ql8 GW147.out); have hn149_1 : ad148.block ≠ gb147 := Nat.ne_of_lt (Nat.lt_of_lt_of_le ql8 GW147.out); replace hx149_0 := (HB.out.cell (World.block_lt_of_cell? w _ hx149_0)).trans hx149_0; replace hx149_0 := (cell_far (p := ⟨gb147, 0, none⟩) ql19 (.int .i64 ((rd_T70 l0_0 x5_1).f1.f0))).trans hx149_0; replace hx149_0 := (cell_far (p := ⟨gb147, 1, none⟩) ql18 (.int .i64 ((rd_T70 l0_0 x5_1).f1.f1))).trans hx149_0; (try have hy149_0 := fun (n_ : Nat) => (show ((((w29.drewN n_).setCell ⟨gb147, 0, none⟩ (.int .i64 ((rd_T70 l0_0 x5_1).f1.f0))).setCell ⟨gb147, 1, none⟩ (.int .i64 ((rd_T70 l0_0 x5_1).f1.f1)))).cell? _ = some _ from hx149_0)); clear hn149_0; clear hn149_1; replace p149 := eq_true p149; replace q149 := eq_true q149; have p150 : 0 ≤ (x5_1 : Int) := of_decide_eq_true ql1; have q150 : x5_1 < (l1.length : Int) := of_decide_eq_true ql1; obtain ⟨ad150, e150, hx150_0⟩ := Kd.at_int HR1.out x5_1 p150 q150; obtain rfl : ad148 = ad150 := (by injection e150); have hn150_0 : ad148.block ≠ gb147 := Nat.ne_of_lt (Nat.lt_of_lt_of_le ql24 GW147.out); have hn150_1 : ad148.block ≠ gb147 := Nat.ne_of_lt (Nat.lt_of_lt_of_le ql24 GW147.out); replace hx150_0 := (HB.out.cell (World.block_lt_of_cell? w _ hx150_0)).trans hx150_0; replace hx150_0 := (cell_far (p := ⟨gb147, 0, none⟩) ql32 (.int .i64 ((rd_T70 l0_0 x5_1).f1.f0))).trans hx150_0; replace hx150_0 := (cell_far (p := ⟨gb147, 1, none⟩) ql31 (.int .i64 ((rd_T70 l0_0 x5_1).f1.f1))).trans hx150_0; (try have hy150_0 := fun (n_ : Nat) => (show ((((w29.drewN n_).setCell ⟨gb147, 0, none⟩ (.int .i64 ((rd_T70 l0_0 x5_1).f1.f0))).setCell ⟨gb147, 1, none⟩ (.int .i64 ((rd_T70 l0_0 x5_1).f1.f1)))).cell? _ = some _ from hx150_0)); clear hn150_0; clear hn150_1; replace p150 := eq_true p150; replace q150 := eq_true q150; have p151 : 0 ≤ ((ji24) : Int) := of_decide_eq_true ql1; have q151 : (ji24) < (l1.length : Int) := of_decide_eq_true ql1; obtain ⟨ad151, e151, hx151_0⟩ := Kd.at_int HR1.out (ji24) p151 q151; obtain rfl : ad148 = ad151 := (by injection e151); have hn151_0 : ad148.block ≠ gb147 := Nat.ne_of_lt (Nat.lt_of_lt_of_le ql23 GW147.out); have hn151_1 : ad148.block ≠ gb147 := Nat.ne_of_lt (Nat.lt_of_lt_of_le ql23 GW147.out); replace hx151_0 := (HB.out.cell (World.block_lt_of_cell? w _ hx151_0)).trans hx151_0; replace hx151_0 := (cell_far (p := ⟨gb147, 0, none⟩) ql30 (.int .i64 ((rd_T70 l0_0 x5_1).f1.f0))).trans hx151_0; replace hx151_0 := (cell_far (p := ⟨gb147, 1, none⟩) ql29 (.int .i64 ((rd_T70 l0_0 x5_1).f1.f1))).trans hx151_0; (try have hy151_0 := fun (n_ : Nat) => (show ((((w29.drewN n_).setCell ⟨gb147, 0, none⟩ (.int .i64 ((rd_T70 l0_0 x5_1).f1.f0))).setCell ⟨gb147, 1, none⟩ (.int .i64 ((rd_T70 l0_0 x5_1).f1.f1)))).cell? _ = some _ from hx151_0)); clear hn151_0; clear hn151_1; replace p151 := eq_true p151; replace q151 := eq_true q151))
            repeat (go_quiet (fail); try go_wp2_with fail)
            go_ret
            exact ⟨by first | rfl | (simp [errW_none, errW_some] <;> rfl) | (simp only [← hji24]; first | rfl | (simp [errW_none, errW_some] <;> rfl)) | (simp [*, errW_none, errW_some] <;> rfl), by repeat (first | with_reducible exact HB.out | with_reducible apply pw_below_drewN | with_reducible refine below_set ?_ GE147.out)⟩
           rw [if_neg c27] at H
           have c27b0 : decide ((rd l1 x5_1) < (rd l1 (ji24))) = false := decide_eq_false c27
           clear c27
           have H' := Aside0.mk H
           clear H
           have hcz32_0 : wr.cell? ⟨gb143, 0, none⟩ = some (.slice A0_0 l0_0.length c0_0) := (blk_cell BK143.out 0).trans rfl
           have hcz32_1 : wr.cell? ⟨gb143, 1, none⟩ = some (.int .i64 a0_1) := (blk_cell BK143.out 1).trans rfl
           have hfz32_0 := blk_frozen BK143.out 0
           have hfz32_1 := blk_frozen BK143.out 1
           have p146 : 0 ≤ (x5_1 : Int) := of_decide_eq_true ql1
           have q146 : x5_1 < (l0_0.length : Int) := of_decide_eq_true ql1
           obtain ⟨ad146, e146, hx146_0, hx146_1, hx146_2⟩ := at_T70 HR0_0.out x5_1 p146 q146
           cases e146
           replace hx146_0 := (HB.out.cell (World.block_lt_of_cell? w _ hx146_0)).trans hx146_0
           replace hx146_1 := (HB.out.cell (World.block_lt_of_cell? w _ hx146_1)).trans hx146_1
           replace hx146_2 := (HB.out.cell (World.block_lt_of_cell? w _ hx146_2)).trans hx146_2
           replace p146 := eq_true p146
           replace q146 := eq_true q146
           go_wp2_with (first | ((with_reducible refine gate_dst (N := 6) rfl ?_); refine box_event ?hg (N := 6) ?hd (cs := #[.int .i64 0, .int .i64 0]) (t := 43) ?hr ?_; (case hd => rfl); (case hg => rfl); (case hr => first | (go_simp; done) | (go_simp; rfl)); intro gb147 hg w33 hbox hb; have n0_ := Aside0.mk (blk_below (g := gb143) (o := .cells #[.slice (some ad146) l0_0.length c0_0, .int .i64 a0_1] 24 (0, 0)) (by exact BK143.out) hb); have n1_ := Aside0.mk (below_step ql3 hb); have n2_ := Aside0.mk (hbox); have n3_ := Aside0.mk ((by rw [hg]; exact (below_size ql3) : w.heap.size ≤ gb147)); have n4_ := Aside0.mk ((by rw [hg]; exact (below_size ql3) : w.heap.size ≤ gb147)); have n5_ := Aside0.mk ((by rw [hg]; exact Nat.ne_of_lt (blk_lt (g := gb143) (o := .cells #[.slice (some ad146) l0_0.length c0_0, .int .i64 a0_1] 24 (0, 0)) (by exact BK143.out)) : gb143 ≠ gb147)); have n6_ := Aside0.mk ((by rw [hg]; exact Nat.ne_of_gt (blk_lt (g := gb143) (o := .cells #[.slice (some ad146) l0_0.length c0_0, .int .i64 a0_1] 24 (0, 0)) (by exact BK143.out)) : gb147 ≠ gb143)); clear BK143; clear HB; have BK143 := n0_; have HB := n1_; have BK147 := n2_; have GW147 := n3_; have GE147 := n4_; have NB143_147 := n5_; have NB147_143 := n6_; clear n0_ n1_ n2_ n3_ n4_ n5_ n6_; clear hb hbox hg; have hnb34 := NB147_143.out; have hnc34 := NB143_147.out; have hcz35_0 : w33.cell? ⟨gb147, 0, none⟩ = some (.int .i64 0) := (blk_cell BK147.out 0).trans rfl; have hcz35_1 : w33.cell? ⟨gb147, 1, none⟩ = some (.int .i64 0) := (blk_cell BK147.out 1).trans rfl; have hfz35_0 := blk_frozen BK147.out 0; have hfz35_1 := blk_frozen BK147.out 1; have p148 : 0 ≤ (x5_1 : Int) := of_decide_eq_true ql1; have q148 : x5_1 < (l1.length : Int) := of_decide_eq_true ql1; obtain ⟨ad148, e148, hx148_0⟩ := Kd.at_int HR1.out x5_1 p148 q148; cases e148; have hn148_0 : ad148.block ≠ gb147 := Nat.ne_of_lt (Nat.lt_of_lt_of_le ql6 GW147.out); have hn148_1 : ad148.block ≠ gb147 := Nat.ne_of_lt (Nat.lt_of_lt_of_le ql6 GW147.out); replace hx148_0 := (HB.out.cell (World.block_lt_of_cell? w _ hx148_0)).trans hx148_0; replace hx148_0 := (cell_far (p := ⟨gb147, 0, none⟩) ql16 (.int .i64 ((rd_T70 l0_0 x5_1).f1.f0))).trans hx148_0; replace hx148_0 := (cell_far (p := ⟨gb147, 1, none⟩) ql15 (.int .i64 ((rd_T70 l0_0 x5_1).f1.f1))).trans hx148_0; (try have hy148_0 := fun (n_ : Nat) => (show ((((w33.drewN n_).setCell ⟨gb147, 0, none⟩ (.int .i64 ((rd_T70 l0_0 x5_1).f1.f0))).setCell ⟨gb147, 1, none⟩ (.int .i64 ((rd_T70 l0_0 x5_1).f1.f1)))).cell? _ = some _ from hx148_0)); clear hn148_0; clear hn148_1; replace p148 := eq_true p148; replace q148 := eq_true q148; have p149 : 0 ≤ (x5_1 : Int) := of_decide_eq_true ql1; have q149 : x5_1 < (l1.length : Int) := of_decide_eq_true ql1; obtain ⟨ad149, e149, hx149_0⟩ := Kd.at_int HR1.out x5_1 p149 q149; obtain rfl : ad148 = ad149 := (by injection e149); have hn149_0 : ad148.block ≠ gb147 := Nat.ne_of_lt (Nat.lt_of_lt_of_le ql8 GW147.out); have hn149_1 : ad148.block ≠ gb147 := Nat.ne_of_lt (Nat.lt_of_lt_of_le ql8 GW147.out); replace hx149_0 := (HB.out.cell (World.block_lt_of_cell? w _ hx149_0)).trans hx149_0; replace hx149_0 := (cell_far (p := ⟨gb147, 0, none⟩) ql19 (.int .i64 ((rd_T70 l0_0 x5_1).f1.f0))).trans hx149_0; replace hx149_0 := (cell_far (p := ⟨gb147, 1, none⟩) ql18 (.int .i64 ((rd_T70 l0_0 x5_1).f1.f1))).trans hx149_0; (try have hy149_0 := fun (n_ : Nat) => (show ((((w33.drewN n_).setCell ⟨gb147, 0, none⟩ (.int .i64 ((rd_T70 l0_0 x5_1).f1.f0))).setCell ⟨gb147, 1, none⟩ (.int .i64 ((rd_T70 l0_0 x5_1).f1.f1)))).cell? _ = some _ from hx149_0)); clear hn149_0; clear hn149_1; replace p149 := eq_true p149; replace q149 := eq_true q149; have p150 : 0 ≤ (x5_1 : Int) := of_decide_eq_true ql1; have q150 : x5_1 < (l1.length : Int) := of_decide_eq_true ql1; obtain ⟨ad150, e150, hx150_0⟩ := Kd.at_int HR1.out x5_1 p150 q150; obtain rfl : ad148 = ad150 := (by injection e150); have hn150_0 : ad148.block ≠ gb147 := Nat.ne_of_lt (Nat.lt_of_lt_of_le ql24 GW147.out); have hn150_1 : ad148.block ≠ gb147 := Nat.ne_of_lt (Nat.lt_of_lt_of_le ql24 GW147.out); replace hx150_0 := (HB.out.cell (World.block_lt_of_cell? w _ hx150_0)).trans hx150_0; replace hx150_0 := (cell_far (p := ⟨gb147, 0, none⟩) ql32 (.int .i64 ((rd_T70 l0_0 x5_1).f1.f0))).trans hx150_0; replace hx150_0 := (cell_far (p := ⟨gb147, 1, none⟩) ql31 (.int .i64 ((rd_T70 l0_0 x5_1).f1.f1))).trans hx150_0; (try have hy150_0 := fun (n_ : Nat) => (show ((((w33.drewN n_).setCell ⟨gb147, 0, none⟩ (.int .i64 ((rd_T70 l0_0 x5_1).f1.f0))).setCell ⟨gb147, 1, none⟩ (.int .i64 ((rd_T70 l0_0 x5_1).f1.f1)))).cell? _ = some _ from hx150_0)); clear hn150_0; clear hn150_1; replace p150 := eq_true p150; replace q150 := eq_true q150; have p151 : 0 ≤ ((ji24) : Int) := of_decide_eq_true ql1; have q151 : (ji24) < (l1.length : Int) := of_decide_eq_true ql1; obtain ⟨ad151, e151, hx151_0⟩ := Kd.at_int HR1.out (ji24) p151 q151; obtain rfl : ad148 = ad151 := (by injection e151); have hn151_0 : ad148.block ≠ gb147 := Nat.ne_of_lt (Nat.lt_of_lt_of_le ql23 GW147.out); have hn151_1 : ad148.block ≠ gb147 := Nat.ne_of_lt (Nat.lt_of_lt_of_le ql23 GW147.out); replace hx151_0 := (HB.out.cell (World.block_lt_of_cell? w _ hx151_0)).trans hx151_0; replace hx151_0 := (cell_far (p := ⟨gb147, 0, none⟩) ql30 (.int .i64 ((rd_T70 l0_0 x5_1).f1.f0))).trans hx151_0; replace hx151_0 := (cell_far (p := ⟨gb147, 1, none⟩) ql29 (.int .i64 ((rd_T70 l0_0 x5_1).f1.f1))).trans hx151_0; (try have hy151_0 := fun (n_ : Nat) => (show ((((w33.drewN n_).setCell ⟨gb147, 0, none⟩ (.int .i64 ((rd_T70 l0_0 x5_1).f1.f0))).setCell ⟨gb147, 1, none⟩ (.int .i64 ((rd_T70 l0_0 x5_1).f1.f1)))).cell? _ = some _ from hx151_0)); clear hn151_0; clear hn151_1; replace p151 := eq_true p151; replace q151 := eq_true q151))
           repeat (go_quiet (fail); try go_wp2_with fail)
           go_roundg k1
           case measure => have := HK1.out; omega
           case rel => exact ⟨(wrap64 (x5_1 + 1)), ql4, H', ⟨by have := HK1.out; omega⟩, ⟨by ((with_reducible refine blk_drewN ?_ _)); refine blk_far ?_ NB143_147.out _; (skip); refine blk_far ?_ NB143_147.out _; (skip); exact BK143.out⟩, ⟨by repeat (first | with_reducible exact HB.out | with_reducible apply pw_below_drewN | with_reducible refine below_set ?_ GE147.out)⟩⟩
          rw [if_neg c26] at H
          exact absurd H (by simp)
         rw [if_neg c25] at H
         exact absurd H (by simp)
        rw [if_neg c23] at H
        have c23b0 : decide (0 < x5_1) = false := decide_eq_false c23
        clear c23
        have H' := Aside0.mk H
        clear H
        have hcz36_0 : wr.cell? ⟨gb143, 0, none⟩ = some (.slice A0_0 l0_0.length c0_0) := (blk_cell BK143.out 0).trans rfl
        have hcz36_1 : wr.cell? ⟨gb143, 1, none⟩ = some (.int .i64 a0_1) := (blk_cell BK143.out 1).trans rfl
        have hfz36_0 := blk_frozen BK143.out 0
        have hfz36_1 := blk_frozen BK143.out 1
        have p146 : 0 ≤ (x5_1 : Int) := of_decide_eq_true ql1
        have q146 : x5_1 < (l0_0.length : Int) := of_decide_eq_true ql1
        obtain ⟨ad146, e146, hx146_0, hx146_1, hx146_2⟩ := at_T70 HR0_0.out x5_1 p146 q146
        cases e146
        replace hx146_0 := (HB.out.cell (World.block_lt_of_cell? w _ hx146_0)).trans hx146_0
        replace hx146_1 := (HB.out.cell (World.block_lt_of_cell? w _ hx146_1)).trans hx146_1
        replace hx146_2 := (HB.out.cell (World.block_lt_of_cell? w _ hx146_2)).trans hx146_2
        replace p146 := eq_true p146
        replace q146 := eq_true q146
        go_wp2_with (first | ((with_reducible refine gate_dst (N := 6) rfl ?_); refine box_event ?hg (N := 6) ?hd (cs := #[.int .i64 0, .int .i64 0]) (t := 43) ?hr ?_; (case hd => rfl); (case hg => rfl); (case hr => first | (go_simp; done) | (go_simp; rfl)); intro gb147 hg w37 hbox hb; have n0_ := Aside0.mk (blk_below (g := gb143) (o := .cells #[.slice (some ad146) l0_0.length c0_0, .int .i64 a0_1] 24 (0, 0)) (by exact BK143.out) hb); have n1_ := Aside0.mk (below_step ql3 hb); have n2_ := Aside0.mk (hbox); have n3_ := Aside0.mk ((by rw [hg]; exact (below_size ql3) : w.heap.size ≤ gb147)); have n4_ := Aside0.mk ((by rw [hg]; exact (below_size ql3) : w.heap.size ≤ gb147)); have n5_ := Aside0.mk ((by rw [hg]; exact Nat.ne_of_lt (blk_lt (g := gb143) (o := .cells #[.slice (some ad146) l0_0.length c0_0, .int .i64 a0_1] 24 (0, 0)) (by exact BK143.out)) : gb143 ≠ gb147)); have n6_ := Aside0.mk ((by rw [hg]; exact Nat.ne_of_gt (blk_lt (g := gb143) (o := .cells #[.slice (some ad146) l0_0.length c0_0, .int .i64 a0_1] 24 (0, 0)) (by exact BK143.out)) : gb147 ≠ gb143)); clear BK143; clear HB; have BK143 := n0_; have HB := n1_; have BK147 := n2_; have GW147 := n3_; have GE147 := n4_; have NB143_147 := n5_; have NB147_143 := n6_; clear n0_ n1_ n2_ n3_ n4_ n5_ n6_; clear hb hbox hg; have hnb38 := NB147_143.out; have hnc38 := NB143_147.out; have hcz39_0 : w37.cell? ⟨gb147, 0, none⟩ = some (.int .i64 0) := (blk_cell BK147.out 0).trans rfl; have hcz39_1 : w37.cell? ⟨gb147, 1, none⟩ = some (.int .i64 0) := (blk_cell BK147.out 1).trans rfl; have hfz39_0 := blk_frozen BK147.out 0; have hfz39_1 := blk_frozen BK147.out 1; have p148 : 0 ≤ (x5_1 : Int) := of_decide_eq_true ql1; have q148 : x5_1 < (l1.length : Int) := of_decide_eq_true ql1; obtain ⟨ad148, e148, hx148_0⟩ := Kd.at_int HR1.out x5_1 p148 q148; cases e148; have hn148_0 : ad148.block ≠ gb147 := Nat.ne_of_lt (Nat.lt_of_lt_of_le ql6 GW147.out); have hn148_1 : ad148.block ≠ gb147 := Nat.ne_of_lt (Nat.lt_of_lt_of_le ql6 GW147.out); replace hx148_0 := (HB.out.cell (World.block_lt_of_cell? w _ hx148_0)).trans hx148_0; replace hx148_0 := (cell_far (p := ⟨gb147, 0, none⟩) ql16 (.int .i64 ((rd_T70 l0_0 x5_1).f1.f0))).trans hx148_0; replace hx148_0 := (cell_far (p := ⟨gb147, 1, none⟩) ql15 (.int .i64 ((rd_T70 l0_0 x5_1).f1.f1))).trans hx148_0; (try have hy148_0 := fun (n_ : Nat) => (show ((((w37.drewN n_).setCell ⟨gb147, 0, none⟩ (.int .i64 ((rd_T70 l0_0 x5_1).f1.f0))).setCell ⟨gb147, 1, none⟩ (.int .i64 ((rd_T70 l0_0 x5_1).f1.f1)))).cell? _ = some _ from hx148_0)); clear hn148_0; clear hn148_1; replace p148 := eq_true p148; replace q148 := eq_true q148; have p149 : 0 ≤ (x5_1 : Int) := of_decide_eq_true ql1; have q149 : x5_1 < (l1.length : Int) := of_decide_eq_true ql1; obtain ⟨ad149, e149, hx149_0⟩ := Kd.at_int HR1.out x5_1 p149 q149; obtain rfl : ad148 = ad149 := (by injection e149); have hn149_0 : ad148.block ≠ gb147 := Nat.ne_of_lt (Nat.lt_of_lt_of_le ql8 GW147.out); have hn149_1 : ad148.block ≠ gb147 := Nat.ne_of_lt (Nat.lt_of_lt_of_le ql8 GW147.out); replace hx149_0 := (HB.out.cell (World.block_lt_of_cell? w _ hx149_0)).trans hx149_0; replace hx149_0 := (cell_far (p := ⟨gb147, 0, none⟩) ql19 (.int .i64 ((rd_T70 l0_0 x5_1).f1.f0))).trans hx149_0; replace hx149_0 := (cell_far (p := ⟨gb147, 1, none⟩) ql18 (.int .i64 ((rd_T70 l0_0 x5_1).f1.f1))).trans hx149_0; (try have hy149_0 := fun (n_ : Nat) => (show ((((w37.drewN n_).setCell ⟨gb147, 0, none⟩ (.int .i64 ((rd_T70 l0_0 x5_1).f1.f0))).setCell ⟨gb147, 1, none⟩ (.int .i64 ((rd_T70 l0_0 x5_1).f1.f1)))).cell? _ = some _ from hx149_0)); clear hn149_0; clear hn149_1; replace p149 := eq_true p149; replace q149 := eq_true q149))
        repeat (go_quiet (fail); try go_wp2_with fail)
        go_roundg k1
        case measure => have := HK1.out; omega
        case rel => exact ⟨(wrap64 (x5_1 + 1)), ql4, H', ⟨by have := HK1.out; omega⟩, ⟨by ((with_reducible refine blk_drewN ?_ _)); refine blk_far ?_ NB143_147.out _; (skip); refine blk_far ?_ NB143_147.out _; (skip); exact BK143.out⟩, ⟨by repeat (first | with_reducible exact HB.out | with_reducible apply pw_below_drewN | with_reducible refine below_set ?_ GE147.out)⟩⟩
       rw [if_neg c12] at H
       exact absurd H (by simp)
      rw [if_neg c11] at H
      exact absurd H (by simp)
     rw [if_neg c10] at H
     have c10b0 : decide (x5_1 < (l1.length : Int)) = false := decide_eq_false c10
     clear c10
     obtain rfl := Option.some.inj H
     go_wp2
     repeat (go_quiet (fail); try go_wp2)
     go_ret
     exact ⟨by first | rfl | (simp [errW_none, errW_some] <;> rfl) | (simp [*, errW_none, errW_some] <;> rfl), by (with_reducible exact HB.out)⟩
  rw [if_neg c5] at H
  have c5b0 : ((l1.length : Int) == (l0_0.length : Int)) = false := beq_eq_false_iff_ne.mpr c5
  have c5b1 : ((l1.length : Int) != (l0_0.length : Int)) = true := bne_iff_ne.mpr c5
  have c5b2 : (l1.length == l0_0.length) = false := by first | simpa using c5 | (simp at c5 ⊢; omega)
  obtain rfl := Option.some.inj H
  go_enter Try.func24, Try.ntmps24
  go_wp2_with (first | ((with_reducible refine gate_dst (N := 2) rfl ?_); refine box_event ?hg (N := 2) ?hd (cs := #[.slice A0_0 l0_0.length c0_0, .int .i64 a0_1]) (t := 24) ?hr ?_; (case hd => rfl); (case hg => rfl); (case hr => first | (go_simp; done) | (go_simp; rfl)); intro gb143 hg w40 hbox hb; have n0_ := Aside0.mk (below_step ql3 hb); have n1_ := Aside0.mk (hbox); have n2_ := Aside0.mk ((by rw [hg]; exact (below_size ql3) : w.heap.size ≤ gb143)); have n3_ := Aside0.mk ((by rw [hg]; exact (below_size ql3) : w.heap.size ≤ gb143)); clear HB; have HB := n0_; have BK143 := n1_; have GW143 := n2_; have GE143 := n3_; clear n0_ n1_ n2_ n3_; clear hb hbox hg; have hcz41_0 : w40.cell? ⟨gb143, 0, none⟩ = some (.slice A0_0 l0_0.length c0_0) := (blk_cell BK143.out 0).trans rfl; have hcz41_1 : w40.cell? ⟨gb143, 1, none⟩ = some (.int .i64 a0_1) := (blk_cell BK143.out 1).trans rfl; have hfz41_0 := blk_frozen BK143.out 0; have hfz41_1 := blk_frozen BK143.out 1) | (go_at_call 22; (with_reducible refine (forecourtref01_CheckTank.calls k _ _ l0_0 a0_1 t144 _ ?side1 ?side2 A3.out).mono ?_); (case side1 => (exact (Kd.C_below HR0_0.out HB.out))); (case side2 => exact HC0_0.out); rintro e w42 ⟨rfl, hb⟩; have n0_ := Aside0.mk (blk_below (g := gb143) (o := .cells #[.slice A0_0 l0_0.length c0_0, .int .i64 a0_1] 24 (0, 0)) (by exact BK143.out) hb); have n1_ := Aside0.mk (below_step ql3 hb); clear BK143; clear HB; have BK143 := n0_; have HB := n1_; clear n0_ n1_; (try clear hb); (try clear hb2); (try clear hk); (try clear hi); have hcz43_0 : w42.cell? ⟨gb143, 0, none⟩ = some (.slice A0_0 l0_0.length c0_0) := (blk_cell BK143.out 0).trans rfl; have hcz43_1 : w42.cell? ⟨gb143, 1, none⟩ = some (.int .i64 a0_1) := (blk_cell BK143.out 1).trans rfl; have hfz43_0 := blk_frozen BK143.out 0; have hfz43_1 := blk_frozen BK143.out 1))
  repeat (go_quiet (fail); try go_wp2_with fail)
  go_ret
  exact ⟨by first | rfl | (simp [errW_none, errW_some] <;> rfl) | (simp [*, errW_none, errW_some] <;> rfl), by (with_reducible exact HB.out)⟩
 rw [if_neg c4] at H
 have c4b0 : (t144 == 0) = false := beq_eq_false_iff_ne.mpr c4
 have c4b1 : (t144 != 0) = true := bne_iff_ne.mpr c4
 replace H := Option.bind_eq_some_iff.mp H
 obtain ⟨t145, A440, H⟩ := H
 replace H : (some t145) = some r := H
 have A44 := Aside0.mk A440
 clear A440
 have EA44 := Aside0.mk (Option.some.inj (A3.out.symm.trans A44.out))
 obtain rfl := Option.some.inj H
 go_enter Try.func24, Try.ntmps24
 go_wp2_with (first | ((with_reducible refine gate_dst (N := 2) rfl ?_); refine box_event ?hg (N := 2) ?hd (cs := #[.slice A0_0 l0_0.length c0_0, .int .i64 a0_1]) (t := 24) ?hr ?_; (case hd => rfl); (case hg => rfl); (case hr => first | (go_simp; done) | (go_simp; rfl)); intro gb143 hg w45 hbox hb; have n0_ := Aside0.mk (below_step ql3 hb); have n1_ := Aside0.mk (hbox); have n2_ := Aside0.mk ((by rw [hg]; exact (below_size ql3) : w.heap.size ≤ gb143)); have n3_ := Aside0.mk ((by rw [hg]; exact (below_size ql3) : w.heap.size ≤ gb143)); clear HB; have HB := n0_; have BK143 := n1_; have GW143 := n2_; have GE143 := n3_; clear n0_ n1_ n2_ n3_; clear hb hbox hg; have hcz46_0 : w45.cell? ⟨gb143, 0, none⟩ = some (.slice A0_0 l0_0.length c0_0) := (blk_cell BK143.out 0).trans rfl; have hcz46_1 : w45.cell? ⟨gb143, 1, none⟩ = some (.int .i64 a0_1) := (blk_cell BK143.out 1).trans rfl; have hfz46_0 := blk_frozen BK143.out 0; have hfz46_1 := blk_frozen BK143.out 1) | (go_at_call 22; (with_reducible refine (forecourtref01_CheckTank.calls k _ _ l0_0 a0_1 t144 _ ?side1 ?side2 A3.out).mono ?_); (case side1 => repeat (first | exact (Kd.C_below HR0_0.out HB.out))); (case side2 => exact HC0_0.out); rintro e w47 ⟨rfl, hb⟩; have n0_ := Aside0.mk (blk_below (g := gb143) (o := .cells #[.slice A0_0 l0_0.length c0_0, .int .i64 a0_1] 24 (0, 0)) (by exact BK143.out) hb); have n1_ := Aside0.mk (below_step (by repeat (first | with_reducible exact HB.out)) hb); clear BK143; clear HB; have BK143 := n0_; have HB := n1_; clear n0_ n1_; (try clear hb); (try clear hb2); (try clear hk); (try clear hi); have hcz48_0 : w47.cell? ⟨gb143, 0, none⟩ = some (.slice A0_0 l0_0.length c0_0) := (blk_cell BK143.out 0).trans rfl; have hcz48_1 : w47.cell? ⟨gb143, 1, none⟩ = some (.int .i64 a0_1) := (blk_cell BK143.out 1).trans rfl; have hfz48_0 := blk_frozen BK143.out 0; have hfz48_1 := blk_frozen BK143.out 1))
 repeat (go_quiet (fail); try go_wp2_with fail)
 go_ret
 try (have d_ := EA44.out; clear EA44; subst d_)
 exact ⟨by first | rfl | (simp [errW_none, errW_some] <;> rfl) | (simp [*, errW_none, errW_some] <;> rfl), by (with_reducible exact HB.out)⟩
end Go.Proofs.Ytpkajhmchcbbhaa.P
end
section
namespace Go.Proofs.Ytpkajhmchcbbhaa.P
open Go.RowKit Go.Proofs.YtpkajhmchcbbhaaW.PrintWords Go.Proofs.YtpkajhmchcbbhaaW.PrintLast Go.Proofs.YtpkajhmchcbbhaaW.PrintMore
attribute [local go_sem] max2_int min2_int max_two min_two max_three min_three max_four min_four
theorem eqA43 (d : Nat) (w : World) (x0 y0 : Int) (x1 y1 : Int) :
  (Op.equalIn (d + 2) 43 (.agg #[.int .i64 x0, .int .i64 x1]) (.agg #[.int .i64 y0, .int .i64 y1])).run Try.prog w = .ok (x0 == y0 && (x1 == y1)) w := by
 refine eqA_of Try.underlying43 (by kernel_rfl) ?_
 refine eqf_cons (by rfl) (by go_simp; rfl) (by go_simp; rfl) (by go_simp) ?_
 exact eqf_last (by rfl) (by go_simp; rfl) (by go_simp; rfl) (by go_simp)
end Go.Proofs.Ytpkajhmchcbbhaa.P
end
