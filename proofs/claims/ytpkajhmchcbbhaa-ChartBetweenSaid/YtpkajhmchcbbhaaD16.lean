/- Part 16 of 51. -/
import Derived.Test.YtpkajhmchcbbhaaD0
import Derived.Test.YtpkajhmchcbbhaaD6
import Derived.Test.YtpkajhmchcbbhaaD10
set_option linter.unusedSimpArgs false
set_option linter.unusedVariables false
section
namespace Go.Proofs.Ytpkajhmchcbbhaa.P
open Go.RowKit Go.Proofs.YtpkajhmchcbbhaaW.PrintWords Go.Proofs.YtpkajhmchcbbhaaW.PrintLast Go.Proofs.YtpkajhmchcbbhaaW.PrintMore
attribute [local go_sem] max2_int min2_int max_two min_two max_three min_three max_four min_four
def forecourtlaw01_True.l0 : Nat → List Int → List (S43) → List Int → Int → Int → Option (List Int)
 | 0, _, _, _, _, _ => none
 | k + 1, x1, x5, x7, x8, x9 => if x9 < (x5.length : Int) then (if 0 ≤ x9 then (if (x1.length : Int) > 0 then (if (x1.length : Int) = 0 then (none) else (if 0 ≤ (Int.tmod x9 (x1.length : Int)) then (if (Int.tmod x9 (x1.length : Int)) < (x1.length : Int) then (if (wrap64 ((wrap64 (((rd_T43 x5 x9).f1) - (mx x8 ((rd_T43 x5 x9).f0)))) + 1)) = 0 then (none) else (if x7.length < 17592186044416 then (forecourtlaw01_True.l0 k x1 x5 (x7 ++ [wrap64 ((mx x8 ((rd_T43 x5 x9).f0)) + (Int.tmod (wrap64 (rd x1 (Int.tmod x9 (x1.length : Int)))) (wrap64 ((wrap64 (((rd_T43 x5 x9).f1) - (mx x8 ((rd_T43 x5 x9).f0)))) + 1))))]) (wrap64 ((mx x8 ((rd_T43 x5 x9).f0)) + (Int.tmod (wrap64 (rd x1 (Int.tmod x9 (x1.length : Int)))) (wrap64 ((wrap64 (((rd_T43 x5 x9).f1) - (mx x8 ((rd_T43 x5 x9).f0)))) + 1))))) (wrap64 (x9 + 1))) else (none))) else (none)) else (none))) else (if x7.length < 17592186044416 then (forecourtlaw01_True.l0 k x1 x5 (x7 ++ [mx x8 ((rd_T43 x5 x9).f0)]) (mx x8 ((rd_T43 x5 x9).f0)) (wrap64 (x9 + 1))) else (none))) else (none)) else (some x7)
def forecourtlaw01_True.f (k : Nat) (l0_0 : List (S70)) (a0_1 : Int) (l1 : List Int) : Option (List Int) := (forecourtref01_Tight.f k l0_0 a0_1).bind fun bt408 => (forecourtlaw01_True.l0 k l1 bt408.1 ([] : List Int) 0 0)
set_option maxHeartbeats 8000000 in
set_option maxRecDepth 100000 in
theorem forecourtlaw01_True.calls (k : Nat) (A0_0 : Option Addr) (c0_0 : Nat) (l0_0 : List (S70)) (a0_1 : Int) (A1 : Option Addr) (c1 : Nat) (l1 : List Int) (r : List Int) (w : World) (hr0_0 : Kd.C k70 w A0_0 l0_0.length l0_0) (hc0_0 : l0_0.length ≤ c0_0) (hr1 : Kd.C (Kd.int .u32) w A1 l1.length l1) (hc1 : l1.length ≤ c1) (h : forecourtlaw01_True.f k l0_0 a0_1 l1 = some r) :
  Calls Try.prog 39 #[.agg #[.slice A0_0 l0_0.length c0_0, .int .i64 a0_1], .slice A1 l1.length c1] w fun e w' => ∃ v0_ : Value, e = .returned (v0_) ∧ Kd.R (Kd.int .i64) 2 w' w.heap.size (fun _ => True) v0_ r ∧ Below w.heap.size w w' := by
 have hu24 := Try.underlying24
 have HR0_0 := Aside0.mk hr0_0
 have HC0_0 := Aside0.mk hc0_0
 clear hr0_0 hc0_0
 have HR1 := Aside0.mk hr1
 have HC1 := Aside0.mk hc1
 clear hr1 hc1
 have HB := Aside0.mk (Below.refl w.heap.size w)
 have H : ((forecourtref01_Tight.f k l0_0 a0_1).bind fun bt408 => (forecourtlaw01_True.l0 k l1 bt408.1 ([] : List Int) 0 0)) = some r := h
 clear h
 replace H := Option.bind_eq_some_iff.mp H
 obtain ⟨⟨t408, t411⟩, A30, H⟩ := H
 replace H : (forecourtlaw01_True.l0 k l1 t408 ([] : List Int) 0 0) = some r := H
 have A3 := Aside0.mk A30
 clear A30
 have H' := Aside0.mk H
 clear H
 go_enter Try.func39, Try.ntmps39
 go_wp2_with (first | ((with_reducible refine gate_dst (N := 2) rfl ?_); refine box_event ?hg (N := 2) ?hd (cs := #[.slice A0_0 l0_0.length c0_0, .int .i64 a0_1]) (t := 24) ?hr ?_; (case hd => rfl); (case hg => rfl); (case hr => first | (go_simp; done) | (go_simp; rfl)); intro gb407 hg w4 hbox hb; have n0_ := Aside0.mk (below_step qd0 hb); have n1_ := Aside0.mk (hbox); have n2_ := Aside0.mk ((by rw [hg]; exact (below_size qd0) : w.heap.size ≤ gb407)); have n3_ := Aside0.mk ((by rw [hg]; exact (below_size qd0) : w.heap.size ≤ gb407)); clear HB; have HB := n0_; have BK407 := n1_; have GW407 := n2_; have GE407 := n3_; clear n0_ n1_ n2_ n3_; clear hb hbox hg; have hcz5_0 : w4.cell? ⟨gb407, 0, none⟩ = some (.slice A0_0 l0_0.length c0_0) := (blk_cell BK407.out 0).trans rfl; have hcz5_1 : w4.cell? ⟨gb407, 1, none⟩ = some (.int .i64 a0_1) := (blk_cell BK407.out 1).trans rfl; have hfz5_0 := blk_frozen BK407.out 0; have hfz5_1 := blk_frozen BK407.out 1) | (go_at_call 18; (with_reducible refine (forecourtref01_Tight.calls k _ _ l0_0 a0_1 t408 t411 _ ?side1 ?side2 A3.out).mono ?_); (case side1 => repeat (first | exact (Kd.C_below HR0_0.out HB.out) | (with_reducible refine Kd.C_alloc ?_ _) | (with_reducible refine Kd.C_drewN ?_ _) | (with_reducible refine Kd.C_drew ?_))); (case side2 => exact HC0_0.out); rintro e w6 ⟨v409, rfl, ho0, hb⟩; have n0_ := Aside0.mk (Kd.R_lower ho0 (below_size qd4)); have n1_ := Aside0.mk (blk_below (g := gb407) (o := .cells #[.slice A0_0 l0_0.length c0_0, .int .i64 a0_1] 24 (0, 0)) qd7 hb); have n2_ := Aside0.mk (below_step qd4 hb); clear BK407; clear HB; have HO410 := n0_; have BK407 := n1_; have HB := n2_; clear n0_ n1_ n2_; (try clear hb); (try clear hb2); (try clear hk); (try clear hi); (try clear ho0)))
 repeat (go_quiet (first | ((with_reducible refine gate_dst (N := 2) rfl ?_); refine box_event ?hg (N := 2) ?hd (cs := #[.slice A0_0 l0_0.length c0_0, .int .i64 a0_1]) (t := 24) ?hr ?_; (case hd => rfl); (case hg => rfl); (case hr => first | (go_simp; done) | (go_simp; rfl)); intro gb407 hg w4 hbox hb; have n0_ := Aside0.mk (below_step qd0 hb); have n1_ := Aside0.mk (hbox); have n2_ := Aside0.mk ((by rw [hg]; exact (below_size qd0) : w.heap.size ≤ gb407)); have n3_ := Aside0.mk ((by rw [hg]; exact (below_size qd0) : w.heap.size ≤ gb407)); clear HB; have HB := n0_; have BK407 := n1_; have GW407 := n2_; have GE407 := n3_; clear n0_ n1_ n2_ n3_; clear hb hbox hg; have hcz5_0 : w4.cell? ⟨gb407, 0, none⟩ = some (.slice A0_0 l0_0.length c0_0) := (blk_cell BK407.out 0).trans rfl; have hcz5_1 : w4.cell? ⟨gb407, 1, none⟩ = some (.int .i64 a0_1) := (blk_cell BK407.out 1).trans rfl; have hfz5_0 := blk_frozen BK407.out 0; have hfz5_1 := blk_frozen BK407.out 1) | (go_at_call 18; (with_reducible refine (forecourtref01_Tight.calls k _ _ l0_0 a0_1 t408 t411 _ ?side1 ?side2 A3.out).mono ?_); (case side1 => repeat (first | exact (Kd.C_below HR0_0.out HB.out) | (with_reducible refine Kd.C_alloc ?_ _) | (with_reducible refine Kd.C_drewN ?_ _) | (with_reducible refine Kd.C_drew ?_))); (case side2 => exact HC0_0.out); rintro e w6 ⟨v409, rfl, ho0, hb⟩; have n0_ := Aside0.mk (Kd.R_lower ho0 (below_size qd4)); have n1_ := Aside0.mk (blk_below (g := gb407) (o := .cells #[.slice A0_0 l0_0.length c0_0, .int .i64 a0_1] 24 (0, 0)) qd7 hb); have n2_ := Aside0.mk (below_step qd4 hb); clear BK407; clear HB; have HO410 := n0_; have BK407 := n1_; have HB := n2_; clear n0_ n1_ n2_; (try clear hb); (try clear hb2); (try clear hk); (try clear hi); (try clear ho0))); try go_wp2_with (first | ((with_reducible refine gate_dst (N := 2) rfl ?_); refine box_event ?hg (N := 2) ?hd (cs := #[.slice A0_0 l0_0.length c0_0, .int .i64 a0_1]) (t := 24) ?hr ?_; (case hd => rfl); (case hg => rfl); (case hr => first | (go_simp; done) | (go_simp; rfl)); intro gb407 hg w4 hbox hb; have n0_ := Aside0.mk (below_step qd0 hb); have n1_ := Aside0.mk (hbox); have n2_ := Aside0.mk ((by rw [hg]; exact (below_size qd0) : w.heap.size ≤ gb407)); have n3_ := Aside0.mk ((by rw [hg]; exact (below_size qd0) : w.heap.size ≤ gb407)); clear HB; have HB := n0_; have BK407 := n1_; have GW407 := n2_; have GE407 := n3_; clear n0_ n1_ n2_ n3_; clear hb hbox hg; have hcz5_0 : w4.cell? ⟨gb407, 0, none⟩ = some (.slice A0_0 l0_0.length c0_0) := (blk_cell BK407.out 0).trans rfl; have hcz5_1 : w4.cell? ⟨gb407, 1, none⟩ = some (.int .i64 a0_1) := (blk_cell BK407.out 1).trans rfl; have hfz5_0 := blk_frozen BK407.out 0; have hfz5_1 := blk_frozen BK407.out 1) | (go_at_call 18; (with_reducible refine (forecourtref01_Tight.calls k _ _ l0_0 a0_1 t408 t411 _ ?side1 ?side2 A3.out).mono ?_); (case side1 => repeat (first | exact (Kd.C_below HR0_0.out HB.out) | (with_reducible refine Kd.C_alloc ?_ _) | (with_reducible refine Kd.C_drewN ?_ _) | (with_reducible refine Kd.C_drew ?_))); (case side2 => exact HC0_0.out); rintro e w6 ⟨v409, rfl, ho0, hb⟩; have n0_ := Aside0.mk (Kd.R_lower ho0 (below_size qd4)); have n1_ := Aside0.mk (blk_below (g := gb407) (o := .cells #[.slice A0_0 l0_0.length c0_0, .int .i64 a0_1] 24 (0, 0)) qd7 hb); have n2_ := Aside0.mk (below_step qd4 hb); clear BK407; clear HB; have HO410 := n0_; have BK407 := n1_; have HB := n2_; clear n0_ n1_ n2_; (try clear hb); (try clear hb2); (try clear hk); (try clear hi); (try clear ho0))))
 go_loopg [7, 8, 9] k (fun kq v7 v8 v9 w' => ∃ (x7_1 : List Int) (x8_1 : Int) (x9_1 : Int), v8 = .int .i64 x8_1 ∧ v9 = .int .i64 x9_1 ∧ Aside0 (forecourtlaw01_True.l0 kq l1 t408 x7_1 x8_1 x9_1 = some r) ∧ Aside0 (kq ≤ k) ∧ Aside0 (Kd.R k43 43 w' w.heap.size (fun _ => True) v409 t408) ∧ Aside0 (Kd.R (Kd.int .i64) 2 w' w.heap.size (fun _ => True) v7 x7_1) ∧ Aside0 (w'.heap[gb407]? = some (.cells #[(.slice A0_0 l0_0.length c0_0), .int .i64 a0_1] 24 (0, 0))) ∧ Aside0 (Below w.heap.size w w'))
 case atStart => exact ⟨(([] : List Int)), (0), (0), qd5, qd5, H', ⟨Nat.le_refl _⟩, ⟨by (with_reducible repeat (first | apply Kd.R_alloc | apply Kd.R_drewN | apply Kd.R_drew)); exact HO410.out⟩, ⟨by first | exact Kd.R_nil _ _ _ _ _ | exact Kd.N_nil _ _ _ _ _ | exact Kd.V_nil _ _ _ _ _ | exact Kd.Q_nil _ _ _ _ _ | exact Kd.S_nil _ _ _ _ _⟩, ⟨by (with_reducible repeat (first | refine blk_drewN ?_ _ | refine blk_drew ?_ | refine blk_alloc ?_ _)); exact BK407.out⟩, ⟨by repeat (first | (with_reducible first | exact HB.out | apply below_alloc | apply pw_below_drewN | apply below_drew1 | refine below_set ?_ GE407.out) | exact HB.out)⟩⟩
 case round =>
  clear H'
  try clear c1
  try clear p2
  try clear c3
  try clear hcz5_0
  try clear hcz5_1
  try clear hfz5_0
  try clear hfz5_1
  obtain ⟨x7_1, x8_1, x9_1, rfl, rfl, HA, HK1, HO_5, HO_7, BK407, HB⟩ := hrel
  cases gk with
  | zero => exact absurd HA.out (by simp [forecourtlaw01_True.l0])
  | succ k1 =>
   have H := HA.out
   clear HA
   simp only [forecourtlaw01_True.l0] at H
   by_cases c7 : x9_1 < (t408.length : Int)
   ·rw [if_pos c7] at H
    have c7b0 : decide (x9_1 < (t408.length : Int)) = true := decide_eq_true c7
    clear c7
    by_cases c8 : 0 ≤ x9_1
    ·rw [if_pos c8] at H
     have c8b0 : decide (0 ≤ x9_1) = true := decide_eq_true c8
     clear c8
     obtain ⟨ji9, hji9⟩ : ∃ j_ : Int, (mx x8_1 ((rd_T43 t408 x9_1).f0)) = j_ := ⟨_, rfl⟩
     replace H : (if (l1.length : Int) > 0 then (if (l1.length : Int) = 0 then (none) else (if 0 ≤ (Int.tmod x9_1 (l1.length : Int)) then (if (Int.tmod x9_1 (l1.length : Int)) < (l1.length : Int) then (if (wrap64 ((wrap64 (((rd_T43 t408 x9_1).f1) - (ji9))) + 1)) = 0 then (none) else (if x7_1.length < 17592186044416 then (forecourtlaw01_True.l0 k1 l1 t408 (x7_1 ++ [wrap64 ((ji9) + (Int.tmod (wrap64 (rd l1 (Int.tmod x9_1 (l1.length : Int)))) (wrap64 ((wrap64 (((rd_T43 t408 x9_1).f1) - (ji9))) + 1))))]) (wrap64 ((ji9) + (Int.tmod (wrap64 (rd l1 (Int.tmod x9_1 (l1.length : Int)))) (wrap64 ((wrap64 (((rd_T43 t408 x9_1).f1) - (ji9))) + 1))))) (wrap64 (x9_1 + 1))) else (none))) else (none)) else (none))) else (if x7_1.length < 17592186044416 then (forecourtlaw01_True.l0 k1 l1 t408 (x7_1 ++ [ji9]) ji9 (wrap64 (x9_1 + 1))) else (none))) = some r := by first | (rw [hji9] at H; exact H) | (simp only [hji9] at H ⊢; exact H)
     have hji9_ : (if x8_1 < ((rd_T43 t408 x9_1).f0) then ((rd_T43 t408 x9_1).f0) else x8_1) = ji9 := hji9
     by_cases c10 : (l1.length : Int) > 0
     ·rw [if_pos c10] at H
      have c10b0 : decide (0 < (l1.length : Int)) = true := decide_eq_true c10
      have c10b1 : decide (0 < l1.length) = true := decide_eq_true (by omega)
      clear c10
      by_cases c11 : (l1.length : Int) = 0
      ·rw [if_pos c11] at H
       exact absurd H (by simp)
      rw [if_neg c11] at H
      have c11b0 : ((l1.length : Int) == 0) = false := beq_eq_false_iff_ne.mpr c11
      have c11b1 : ((l1.length : Int) != 0) = true := bne_iff_ne.mpr c11
      have c11b2 : ¬ (l1 = []) := fun h_ => c11 (by rw [h_]; rfl)
      obtain ⟨ji12, hji12⟩ : ∃ j_ : Int, (Int.tmod x9_1 (l1.length : Int)) = j_ := ⟨_, rfl⟩
      replace H : (if 0 ≤ (ji12) then (if (ji12) < (l1.length : Int) then (if (wrap64 ((wrap64 (((rd_T43 t408 x9_1).f1) - (ji9))) + 1)) = 0 then (none) else (if x7_1.length < 17592186044416 then (forecourtlaw01_True.l0 k1 l1 t408 (x7_1 ++ [wrap64 ((ji9) + (Int.tmod (wrap64 (rd l1 (ji12))) (wrap64 ((wrap64 (((rd_T43 t408 x9_1).f1) - (ji9))) + 1))))]) (wrap64 ((ji9) + (Int.tmod (wrap64 (rd l1 (ji12))) (wrap64 ((wrap64 (((rd_T43 t408 x9_1).f1) - (ji9))) + 1))))) (wrap64 (x9_1 + 1))) else (none))) else (none)) else (none)) = some r := by first | (rw [hji12] at H; exact H) | (simp only [hji12] at H ⊢; exact H)
      by_cases c13 : 0 ≤ (ji12)
      ·rw [if_pos c13] at H
       have c13b0 : decide (0 ≤ (ji12)) = true := decide_eq_true c13
       clear c13
       by_cases c14 : (ji12) < (l1.length : Int)
       ·rw [if_pos c14] at H
        have c14b0 : decide ((ji12) < (l1.length : Int)) = true := decide_eq_true c14
        clear c14
        by_cases c15 : (wrap64 ((wrap64 (((rd_T43 t408 x9_1).f1) - (ji9))) + 1)) = 0
        ·rw [if_pos c15] at H
         exact absurd H (by simp)
        rw [if_neg c15] at H
        have c15b0 : ((wrap64 ((wrap64 (((rd_T43 t408 x9_1).f1) - (ji9))) + 1)) == 0) = false := beq_eq_false_iff_ne.mpr c15
        have c15b1 : ((wrap64 ((wrap64 (((rd_T43 t408 x9_1).f1) - (ji9))) + 1)) != 0) = true := bne_iff_ne.mpr c15
        by_cases c16 : x7_1.length < 17592186044416
        ·rw [if_pos c16] at H
         have LMc16 := Aside0.mk c16
         clear c16
         obtain ⟨y415, hy415⟩ : ∃ y_ : List Int, y_ = (x7_1 ++ [wrap64 ((ji9) + (Int.tmod (wrap64 (rd l1 (ji12))) (wrap64 ((wrap64 (((rd_T43 t408 x9_1).f1) - (ji9))) + 1))))]) := ⟨_, rfl⟩
         replace H : (forecourtlaw01_True.l0 k1 l1 t408 y415 (wrap64 ((ji9) + (Int.tmod (wrap64 (rd l1 (ji12))) (wrap64 ((wrap64 (((rd_T43 t408 x9_1).f1) - (ji9))) + 1))))) (wrap64 (x9_1 + 1))) = some r := by first | (rw [hy415]; with_reducible exact H) | (have H2_ := (Option.bind_some _ _).symm.trans H; rw [hy415]; with_reducible exact H2_) | (have H2_ := (Option.bind_some _ _).symm.trans H; with_reducible exact H2_) | with_reducible exact H | (rw [hy415]; exact H) | exact H
         have Ny415 := Aside0.mk hy415
         clear hy415
         have H' := Aside0.mk H
         clear H
         obtain ⟨Ao17, co17, eo17⟩ := Kd.R_slice HO_5.out
         subst eo17
         have p412 : 0 ≤ (x9_1 : Int) := of_decide_eq_true qd1
         have q412 : x9_1 < (t408.length : Int) := of_decide_eq_true qd1
         obtain ⟨ad412, e412, hx412_0, hx412_1⟩ := at_T43 (Kd.R_reads' HO_5.out).2.2 x9_1 p412 q412
         cases e412
         replace p412 := eq_true p412
         replace q412 := eq_true q412
         have p413 : 0 ≤ ((ji12) : Int) := of_decide_eq_true qd1
         have q413 : (ji12) < (l1.length : Int) := of_decide_eq_true qd1
         obtain ⟨ad413, e413, hx413_0⟩ := Kd.at_int HR1.out (ji12) p413 q413
         cases e413
         replace hx413_0 := (HB.out.cell (World.block_lt_of_cell? w _ hx413_0)).trans hx413_0
         replace p413 := eq_true p413
         replace q413 := eq_true q413
         have p414 : 0 ≤ (x9_1 : Int) := of_decide_eq_true qd1
         have q414 : x9_1 < (t408.length : Int) := of_decide_eq_true qd1
         obtain ⟨ad414, e414, hx414_0, hx414_1⟩ := at_T43 (Kd.R_reads' HO_5.out).2.2 x9_1 p414 q414
         obtain rfl : ad412 = ad414 := (by injection e414)
         replace p414 := eq_true p414
         replace q414 := eq_true q414
         go_wp2_with (first | ((with_reducible refine gate_builtin (b := .append) (xs := #[.tmp 53, .tmp 55]) rfl ?_); at_builtin; refine Kd.R_append (Kd.int .i64) (w0 := w) w.heap.size rfl (.tmp 53) (.tmp 55) 25 2 (.int .i64 0) 8 rfl Try.underlying25 info2 rfl (by decide) (by omega) u7 x7_1 (wrap64 ((ji9) + (Int.tmod (wrap64 (rd l1 (ji12))) (wrap64 ((wrap64 (((rd_T43 t408 x9_1).f1) - (ji9))) + 1))))) [.int .i64 (wrap64 ((ji9) + (Int.tmod (wrap64 (rd l1 (ji12))) (wrap64 ((wrap64 (((rd_T43 t408 x9_1).f1) - (ji9))) + 1)))))] (fun _ => True) (fun _ => False) rfl rfl ?aP (fun _ hk => hk.elim) ?aF ?aO ?aB ?aS ?aL ?_; (case aP => exact rfl); (case aB => exact qd4); (case aF => exact (fun _ _ => trivial)); (case aO => exact qd6); (case aS => exact (below_size qd4)); (case aL => have := LMc16.out; omega); intro v416 w18 ho hb hg hat; rw [← Ny415.out] at ho; have n0_ := Aside0.mk (Kd.R_over' qd20 (Kd.R_typed qd6) (by decide) hg); have n1_ := Aside0.mk (blk_grown (g := gb407) (o := .cells #[.slice A0_0 l0_0.length c0_0, .int .i64 a0_1] 24 (0, 0)) qd7 hg (Kd.R_ne HO_7.out BK407.out (by decide))); have n2_ := Aside0.mk (hb); have n3_ := Aside0.mk (ho); clear HO_5; clear BK407; clear HB; clear HO_7; have HO_5 := n0_; have BK407 := n1_; have HB := n2_; have HO417 := n3_; clear n0_ n1_ n2_ n3_; clear ho hb hg hat))
         repeat (go_quiet (first | ((with_reducible refine gate_builtin (b := .append) (xs := #[.tmp 53, .tmp 55]) rfl ?_); at_builtin; refine Kd.R_append (Kd.int .i64) (w0 := w) w.heap.size rfl (.tmp 53) (.tmp 55) 25 2 (.int .i64 0) 8 rfl Try.underlying25 info2 rfl (by decide) (by omega) u7 x7_1 (wrap64 ((ji9) + (Int.tmod (wrap64 (rd l1 (ji12))) (wrap64 ((wrap64 (((rd_T43 t408 x9_1).f1) - (ji9))) + 1))))) [.int .i64 (wrap64 ((ji9) + (Int.tmod (wrap64 (rd l1 (ji12))) (wrap64 ((wrap64 (((rd_T43 t408 x9_1).f1) - (ji9))) + 1)))))] (fun _ => True) (fun _ => False) rfl rfl ?aP (fun _ hk => hk.elim) ?aF ?aO ?aB ?aS ?aL ?_; (case aP => exact rfl); (case aB => exact qd4); (case aF => exact (fun _ _ => trivial)); (case aO => exact qd6); (case aS => exact (below_size qd4)); (case aL => have := LMc16.out; omega); intro v416 w18 ho hb hg hat; rw [← Ny415.out] at ho; have n0_ := Aside0.mk (Kd.R_over' qd20 (Kd.R_typed qd6) (by decide) hg); have n1_ := Aside0.mk (blk_grown (g := gb407) (o := .cells #[.slice A0_0 l0_0.length c0_0, .int .i64 a0_1] 24 (0, 0)) qd7 hg (Kd.R_ne HO_7.out BK407.out (by decide))); have n2_ := Aside0.mk (hb); have n3_ := Aside0.mk (ho); clear HO_5; clear BK407; clear HB; clear HO_7; have HO_5 := n0_; have BK407 := n1_; have HB := n2_; have HO417 := n3_; clear n0_ n1_ n2_ n3_; clear ho hb hg hat)); try go_wp2_with (first | ((with_reducible refine gate_builtin (b := .append) (xs := #[.tmp 53, .tmp 55]) rfl ?_); at_builtin; refine Kd.R_append (Kd.int .i64) (w0 := w) w.heap.size rfl (.tmp 53) (.tmp 55) 25 2 (.int .i64 0) 8 rfl Try.underlying25 info2 rfl (by decide) (by omega) u7 x7_1 (wrap64 ((ji9) + (Int.tmod (wrap64 (rd l1 (ji12))) (wrap64 ((wrap64 (((rd_T43 t408 x9_1).f1) - (ji9))) + 1))))) [.int .i64 (wrap64 ((ji9) + (Int.tmod (wrap64 (rd l1 (ji12))) (wrap64 ((wrap64 (((rd_T43 t408 x9_1).f1) - (ji9))) + 1)))))] (fun _ => True) (fun _ => False) rfl rfl ?aP (fun _ hk => hk.elim) ?aF ?aO ?aB ?aS ?aL ?_; (case aP => exact rfl); (case aB => exact qd4); (case aF => exact (fun _ _ => trivial)); (case aO => exact qd6); (case aS => exact (below_size qd4)); (case aL => have := LMc16.out; omega); intro v416 w18 ho hb hg hat; rw [← Ny415.out] at ho; have n0_ := Aside0.mk (Kd.R_over' qd20 (Kd.R_typed qd6) (by decide) hg); have n1_ := Aside0.mk (blk_grown (g := gb407) (o := .cells #[.slice A0_0 l0_0.length c0_0, .int .i64 a0_1] 24 (0, 0)) qd7 hg (Kd.R_ne HO_7.out BK407.out (by decide))); have n2_ := Aside0.mk (hb); have n3_ := Aside0.mk (ho); clear HO_5; clear BK407; clear HB; clear HO_7; have HO_5 := n0_; have BK407 := n1_; have HB := n2_; have HO417 := n3_; clear n0_ n1_ n2_ n3_; clear ho hb hg hat)))
         go_roundg k1
         case measure => have := HK1.out; omega
         case rel => exact ⟨(y415), (wrap64 ((ji9) + (Int.tmod (wrap64 (rd l1 (ji12))) (wrap64 ((wrap64 (((rd_T43 t408 x9_1).f1) - (ji9))) + 1))))), (wrap64 (x9_1 + 1)), (by first | rfl | (simp; done) | (simp only [← hji9, ← hji12] <;> (first | rfl | simp)) | (simp [*]; done)), qd5, H', ⟨by have := HK1.out; omega⟩, ⟨by (with_reducible repeat (first | apply Kd.R_alloc | apply Kd.R_drewN | apply Kd.R_drew)); exact HO_5.out⟩, ⟨by (with_reducible repeat (first | apply Kd.R_alloc | apply Kd.R_drewN | apply Kd.R_drew)); exact HO417.out⟩, ⟨by (with_reducible repeat (first | refine blk_drewN ?_ _ | refine blk_drew ?_ | refine blk_alloc ?_ _)); exact BK407.out⟩, ⟨by repeat (first | (with_reducible first | exact HB.out | apply below_alloc | apply pw_below_drewN | apply below_drew1 | refine below_set ?_ GE407.out) | exact HB.out)⟩⟩
        rw [if_neg c16] at H
        exact absurd H (by simp)
       rw [if_neg c14] at H
       exact absurd H (by simp)
      rw [if_neg c13] at H
      exact absurd H (by simp)
     rw [if_neg c10] at H
     have c10b0 : decide (0 < (l1.length : Int)) = false := decide_eq_false c10
     have c10b1 : decide (0 < l1.length) = false := decide_eq_false (by omega)
     clear c10
     by_cases c19 : x7_1.length < 17592186044416
     ·rw [if_pos c19] at H
      have LMc19 := Aside0.mk c19
      clear c19
      obtain ⟨y418, hy418⟩ : ∃ y_ : List Int, y_ = (x7_1 ++ [ji9]) := ⟨_, rfl⟩
      replace H : (forecourtlaw01_True.l0 k1 l1 t408 y418 ji9 (wrap64 (x9_1 + 1))) = some r := by first | (rw [hy418]; with_reducible exact H) | (have H2_ := (Option.bind_some _ _).symm.trans H; rw [hy418]; with_reducible exact H2_) | (have H2_ := (Option.bind_some _ _).symm.trans H; with_reducible exact H2_) | with_reducible exact H | (rw [hy418]; exact H) | exact H
      have Ny418 := Aside0.mk hy418
      clear hy418
      have H' := Aside0.mk H
      clear H
      obtain ⟨Ao20, co20, eo20⟩ := Kd.R_slice HO_5.out
      subst eo20
      have p412 : 0 ≤ (x9_1 : Int) := of_decide_eq_true qd1
      have q412 : x9_1 < (t408.length : Int) := of_decide_eq_true qd1
      obtain ⟨ad412, e412, hx412_0, hx412_1⟩ := at_T43 (Kd.R_reads' HO_5.out).2.2 x9_1 p412 q412
      cases e412
      replace p412 := eq_true p412
      replace q412 := eq_true q412
      go_wp2_with (first | ((with_reducible refine gate_builtin (b := .append) (xs := #[.tmp 53, .tmp 55]) rfl ?_); at_builtin; refine Kd.R_append (Kd.int .i64) (w0 := w) w.heap.size rfl (.tmp 53) (.tmp 55) 25 2 (.int .i64 0) 8 rfl Try.underlying25 info2 rfl (by decide) (by omega) u7 x7_1 ji9 [.int .i64 ji9] (fun _ => True) (fun _ => False) rfl rfl ?aP (fun _ hk => hk.elim) ?aF ?aO ?aB ?aS ?aL ?_; (case aP => exact rfl); (case aB => exact qd4); (case aF => exact (fun _ _ => trivial)); (case aO => exact qd6); (case aS => exact (below_size qd4)); (case aL => have := LMc19.out; omega); intro v419 w21 ho hb hg hat; rw [← Ny418.out] at ho; have n0_ := Aside0.mk (Kd.R_over' qd20 (Kd.R_typed qd6) (by decide) hg); have n1_ := Aside0.mk (blk_grown (g := gb407) (o := .cells #[.slice A0_0 l0_0.length c0_0, .int .i64 a0_1] 24 (0, 0)) qd7 hg (Kd.R_ne HO_7.out BK407.out (by decide))); have n2_ := Aside0.mk (hb); have n3_ := Aside0.mk (ho); clear HO_5; clear BK407; clear HB; clear HO_7; have HO_5 := n0_; have BK407 := n1_; have HB := n2_; have HO420 := n3_; clear n0_ n1_ n2_ n3_; clear ho hb hg hat))
      repeat (go_quiet (first | ((with_reducible refine gate_builtin (b := .append) (xs := #[.tmp 53, .tmp 55]) rfl ?_); at_builtin; refine Kd.R_append (Kd.int .i64) (w0 := w) w.heap.size rfl (.tmp 53) (.tmp 55) 25 2 (.int .i64 0) 8 rfl Try.underlying25 info2 rfl (by decide) (by omega) u7 x7_1 ji9 [.int .i64 ji9] (fun _ => True) (fun _ => False) rfl rfl ?aP (fun _ hk => hk.elim) ?aF ?aO ?aB ?aS ?aL ?_; (case aP => exact rfl); (case aB => exact qd4); (case aF => exact (fun _ _ => trivial)); (case aO => exact qd6); (case aS => exact (below_size qd4)); (case aL => have := LMc19.out; omega); intro v419 w21 ho hb hg hat; rw [← Ny418.out] at ho; have n0_ := Aside0.mk (Kd.R_over' qd20 (Kd.R_typed qd6) (by decide) hg); have n1_ := Aside0.mk (blk_grown (g := gb407) (o := .cells #[.slice A0_0 l0_0.length c0_0, .int .i64 a0_1] 24 (0, 0)) qd7 hg (Kd.R_ne HO_7.out BK407.out (by decide))); have n2_ := Aside0.mk (hb); have n3_ := Aside0.mk (ho); clear HO_5; clear BK407; clear HB; clear HO_7; have HO_5 := n0_; have BK407 := n1_; have HB := n2_; have HO420 := n3_; clear n0_ n1_ n2_ n3_; clear ho hb hg hat)); try go_wp2_with (first | ((with_reducible refine gate_builtin (b := .append) (xs := #[.tmp 53, .tmp 55]) rfl ?_); at_builtin; refine Kd.R_append (Kd.int .i64) (w0 := w) w.heap.size rfl (.tmp 53) (.tmp 55) 25 2 (.int .i64 0) 8 rfl Try.underlying25 info2 rfl (by decide) (by omega) u7 x7_1 ji9 [.int .i64 ji9] (fun _ => True) (fun _ => False) rfl rfl ?aP (fun _ hk => hk.elim) ?aF ?aO ?aB ?aS ?aL ?_; (case aP => exact rfl); (case aB => exact qd4); (case aF => exact (fun _ _ => trivial)); (case aO => exact qd6); (case aS => exact (below_size qd4)); (case aL => have := LMc19.out; omega); intro v419 w21 ho hb hg hat; rw [← Ny418.out] at ho; have n0_ := Aside0.mk (Kd.R_over' qd20 (Kd.R_typed qd6) (by decide) hg); have n1_ := Aside0.mk (blk_grown (g := gb407) (o := .cells #[.slice A0_0 l0_0.length c0_0, .int .i64 a0_1] 24 (0, 0)) qd7 hg (Kd.R_ne HO_7.out BK407.out (by decide))); have n2_ := Aside0.mk (hb); have n3_ := Aside0.mk (ho); clear HO_5; clear BK407; clear HB; clear HO_7; have HO_5 := n0_; have BK407 := n1_; have HB := n2_; have HO420 := n3_; clear n0_ n1_ n2_ n3_; clear ho hb hg hat)))
      go_roundg k1
      case measure => have := HK1.out; omega
      case rel => exact ⟨(y418), (ji9), (wrap64 (x9_1 + 1)), (by first | rfl | (simp; done) | (simp only [← hji9] <;> (first | rfl | simp)) | (simp [*]; done)), qd5, H', ⟨by have := HK1.out; omega⟩, ⟨by (with_reducible repeat (first | apply Kd.R_alloc | apply Kd.R_drewN | apply Kd.R_drew)); exact HO_5.out⟩, ⟨by (with_reducible repeat (first | apply Kd.R_alloc | apply Kd.R_drewN | apply Kd.R_drew)); exact HO420.out⟩, ⟨by (with_reducible repeat (first | refine blk_drewN ?_ _ | refine blk_drew ?_ | refine blk_alloc ?_ _)); exact BK407.out⟩, ⟨by repeat (first | (with_reducible first | exact HB.out | apply below_alloc | apply pw_below_drewN | apply below_drew1 | refine below_set ?_ GE407.out) | exact HB.out)⟩⟩
     rw [if_neg c19] at H
     exact absurd H (by simp)
    rw [if_neg c8] at H
    exact absurd H (by simp)
   rw [if_neg c7] at H
   have c7b0 : decide (x9_1 < (t408.length : Int)) = false := decide_eq_false c7
   clear c7
   obtain rfl := Option.some.inj H
   obtain ⟨Ao22, co22, eo22⟩ := Kd.R_slice HO_5.out
   subst eo22
   go_wp2
   repeat (go_quiet (fail); try go_wp2)
   go_ret
   exact ⟨_, by first | rfl | (simp [errW_none, errW_some] <;> rfl) | (simp [*, errW_none, errW_some] <;> rfl), by (with_reducible repeat (first | apply Kd.R_alloc | apply Kd.R_drewN | apply Kd.R_drew)); exact HO_7.out, by repeat (first | (with_reducible first | exact HB.out | apply below_alloc | apply pw_below_drewN | apply below_drew1 | refine below_set ?_ GE407.out) | exact HB.out)⟩
end Go.Proofs.Ytpkajhmchcbbhaa.P
end
