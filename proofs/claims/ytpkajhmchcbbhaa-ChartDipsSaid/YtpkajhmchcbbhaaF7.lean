/- Part 7 of 39. -/
import Derived.Test.YtpkajhmchcbbhaaF0
import Derived.Test.YtpkajhmchcbbhaaF5
import Derived.Test.YtpkajhmchcbbhaaF6
import Derived.Test.YtpkajhmchcbbhaaF4
set_option linter.unusedSimpArgs false
set_option linter.unusedVariables false
section
namespace Go.Proofs.Ytpkajhmchcbbhaa.P
open Go.RowKit Go.Proofs.YtpkajhmchcbbhaaW.PrintWords Go.Proofs.YtpkajhmchcbbhaaW.PrintLast Go.Proofs.YtpkajhmchcbbhaaW.PrintMore
attribute [local go_sem] max2_int min2_int max_two min_two max_three min_three max_four min_four
mutual
def forecourtref01_Clash.l0 : Nat → Int → List (S70) → Int → Option (Int × Int × Int)
 | 0, _, _, _ => none
 | k + 1, x5, x111000, x111001 => if x5 < (x111000.length : Int) then (forecourtref01_Clash.l1 k x5 (wrap64 (x5 + 1)) x111000 x111001) else (some (0, 0, 5))
def forecourtref01_Clash.l1 : Nat → Int → Int → List (S70) → Int → Option (Int × Int × Int)
 | 0, _, _, _, _ => none
 | k + 1, x5, x6, x111000, x111001 => if x6 < (x111000.length : Int) then (if 0 ≤ x5 then (if x5 < (x111000.length : Int) then (if 0 ≤ x6 then (if ((rd_T70 x111000 x5).f1.f0) > ((rd_T70 x111000 x6).f1.f1) then (some (x5, x6, 0)) else (forecourtref01_Clash.l1 k x5 (wrap64 (x6 + 1)) x111000 x111001)) else (none)) else (none)) else (none)) else (forecourtref01_Clash.l0 k (wrap64 (x5 + 1)) x111000 x111001)
end
def forecourtref01_Clash.f (k : Nat) (l0_0 : List (S70)) (a0_1 : Int) : Option (Int × Int × Int) := (forecourtref01_CheckTank.f k l0_0 a0_1).bind fun t111 => (if t111 = 0 then (forecourtref01_Clash.l0 k 0 l0_0 a0_1) else ((forecourtref01_CheckTank.f k l0_0 a0_1).bind fun t112 => (some (0, 0, t112))))
set_option maxHeartbeats 8000000 in
set_option maxRecDepth 100000 in
theorem forecourtref01_Clash.calls (k : Nat) (A0_0 : Option Addr) (c0_0 : Nat) (l0_0 : List (S70)) (a0_1 : Int) (r1 : Int) (r2 : Int) (r3 : Int) (w : World) (hr0_0 : Kd.C k70 w A0_0 l0_0.length l0_0) (hc0_0 : l0_0.length ≤ c0_0) (h : forecourtref01_Clash.f k l0_0 a0_1 = some (r1, r2, r3)) :
  Calls Try.prog 20 #[.agg #[.slice A0_0 l0_0.length c0_0, .int .i64 a0_1]] w fun e w' => e = .returned (.tuple #[.int .i64 r1, .int .i64 r2, .int .i64 r3]) ∧ Below w.heap.size w w' := by
 have hu24 := Try.underlying24
 have HR0_0 := Aside0.mk hr0_0
 have HC0_0 := Aside0.mk hc0_0
 clear hr0_0 hc0_0
 have HB := Aside0.mk (Below.refl w.heap.size w)
 have H : ((forecourtref01_CheckTank.f k l0_0 a0_1).bind fun t111 => (if t111 = 0 then (forecourtref01_Clash.l0 k 0 l0_0 a0_1) else ((forecourtref01_CheckTank.f k l0_0 a0_1).bind fun t112 => (some (0, 0, t112))))) = some (r1, r2, r3) := h
 clear h
 replace H := Option.bind_eq_some_iff.mp H
 obtain ⟨t111, A20, H⟩ := H
 replace H : (if t111 = 0 then (forecourtref01_Clash.l0 k 0 l0_0 a0_1) else ((forecourtref01_CheckTank.f k l0_0 a0_1).bind fun t112 => (some (0, 0, t112)))) = some (r1, r2, r3) := H
 have A2 := Aside0.mk A20
 clear A20
 by_cases c3 : t111 = 0
 ·rw [if_pos c3] at H
  have c3b0 : (t111 == 0) = true := beq_iff_eq.mpr c3
  have c3b1 : (t111 != 0) = false := bne_eq_false_iff_eq.mpr c3
  clear c3
  have H' := Aside0.mk H
  clear H
  go_enter Try.func20, Try.ntmps20
  go_wp2_with (first | ((with_reducible refine gate_dst (N := 1) rfl ?_); refine box_event ?hg (N := 1) ?hd (cs := #[.slice A0_0 l0_0.length c0_0, .int .i64 a0_1]) (t := 24) ?hr ?_; (case hd => rfl); (case hg => rfl); (case hr => first | (go_simp; done) | (go_simp; rfl)); intro gb110 hg w4 hbox hb; have n0_ := Aside0.mk (below_step qf4 hb); have n1_ := Aside0.mk (hbox); have n2_ := Aside0.mk ((by rw [hg]; exact (below_size qf4) : w.heap.size ≤ gb110)); have n3_ := Aside0.mk ((by rw [hg]; exact (below_size qf4) : w.heap.size ≤ gb110)); clear HB; have HB := n0_; have BK110 := n1_; have GW110 := n2_; have GE110 := n3_; clear n0_ n1_ n2_ n3_; clear hb hbox hg; have hcz5_0 : w4.cell? ⟨gb110, 0, none⟩ = some (.slice A0_0 l0_0.length c0_0) := (blk_cell BK110.out 0).trans rfl; have hcz5_1 : w4.cell? ⟨gb110, 1, none⟩ = some (.int .i64 a0_1) := (blk_cell BK110.out 1).trans rfl; have hfz5_0 := blk_frozen BK110.out 0; have hfz5_1 := blk_frozen BK110.out 1) | (go_at_call 22; (with_reducible refine (forecourtref01_CheckTank.calls k _ _ l0_0 a0_1 t111 _ ?side1 ?side2 A2.out).mono ?_); (case side1 => (exact (Kd.C_below HR0_0.out HB.out))); (case side2 => exact HC0_0.out); rintro e w6 ⟨rfl, hb⟩; have n0_ := Aside0.mk (blk_below (g := gb110) (o := .cells #[.slice A0_0 l0_0.length c0_0, .int .i64 a0_1] 24 (0, 0)) (by exact BK110.out) hb); have n1_ := Aside0.mk (below_step qf4 hb); clear BK110; clear HB; have BK110 := n0_; have HB := n1_; clear n0_ n1_; (try clear hb); (try clear hb2); (try clear hk); (try clear hi)))
  repeat (go_quiet (fail); try go_wp2_with fail)
  go_loopg [5] k (fun kq v5 w' => ∃ (x5_1 : Int), v5 = .int .i64 x5_1 ∧ Aside0 (forecourtref01_Clash.l0 kq x5_1 l0_0 a0_1 = some (r1, r2, r3)) ∧ Aside0 (kq ≤ k) ∧ Aside0 (w'.heap[gb110]? = some (.cells #[(.slice A0_0 l0_0.length c0_0), .int .i64 a0_1] 24 (0, 0))) ∧ Aside0 (Below w.heap.size w w'))
  case atStart => exact ⟨(0), qf7, H', ⟨Nat.le_refl _⟩, ⟨by (skip); exact BK110.out⟩, ⟨by (with_reducible exact HB.out)⟩⟩
  case round =>
   clear H'
   try clear c2
   try clear p2
   try clear c3
   try clear c3b0
   try clear c3b1
   try clear hcz5_0
   try clear hcz5_1
   try clear hfz5_0
   try clear hfz5_1
   obtain ⟨x5_1, rfl, HA, HK1, BK110, HB⟩ := hrel
   cases gk with
   | zero => exact absurd HA.out (by simp [forecourtref01_Clash.l0])
   | succ k1 =>
    have H := HA.out
    clear HA
    simp only [forecourtref01_Clash.l0] at H
    by_cases c7 : x5_1 < (l0_0.length : Int)
    ·rw [if_pos c7] at H
     have c7b0 : decide (x5_1 < (l0_0.length : Int)) = true := decide_eq_true c7
     clear c7
     have H' := Aside0.mk H
     clear H
     have hcz8_0 : wr.cell? ⟨gb110, 0, none⟩ = some (.slice A0_0 l0_0.length c0_0) := (blk_cell BK110.out 0).trans rfl
     have hcz8_1 : wr.cell? ⟨gb110, 1, none⟩ = some (.int .i64 a0_1) := (blk_cell BK110.out 1).trans rfl
     have hfz8_0 := blk_frozen BK110.out 0
     have hfz8_1 := blk_frozen BK110.out 1
     go_wp2
     repeat (go_quiet (fail); try go_wp2)
     go_loopg [6] k1 (fun kq v6 w' => ∃ (x6_2 : Int), v6 = .int .i64 x6_2 ∧ Aside0 (forecourtref01_Clash.l1 kq x5_1 x6_2 l0_0 a0_1 = some (r1, r2, r3)) ∧ Aside0 (kq ≤ k1) ∧ Aside0 (w'.heap[gb110]? = some (.cells #[(.slice A0_0 l0_0.length c0_0), .int .i64 a0_1] 24 (0, 0))) ∧ Aside0 (Below w.heap.size w w'))
     case atStart => exact ⟨(wrap64 (x5_1 + 1)), qf7, H', ⟨Nat.le_refl _⟩, ⟨by (skip); exact BK110.out⟩, ⟨by (with_reducible exact HB.out)⟩⟩
     case round =>
      clear H'
      try clear c2
      try clear p2
      try clear c3
      try clear c3b0
      try clear c3b1
      try clear p6
      try clear c7
      try clear c7b0
      try clear hcz5_0
      try clear hcz5_1
      try clear hcz8_0
      try clear hcz8_1
      try clear hfz5_0
      try clear hfz5_1
      try clear hfz8_0
      try clear hfz8_1
      try clear p2
      obtain ⟨x6_2, rfl, HA, HK2, BK110, HB⟩ := hrel
      cases gk with
      | zero => exact absurd HA.out (by simp [forecourtref01_Clash.l1])
      | succ k2 =>
       have H := HA.out
       clear HA
       simp only [forecourtref01_Clash.l1] at H
       by_cases c9 : x6_2 < (l0_0.length : Int)
       ·rw [if_pos c9] at H
        have c9b0 : decide (x6_2 < (l0_0.length : Int)) = true := decide_eq_true c9
        clear c9
        by_cases c10 : 0 ≤ x5_1
        ·rw [if_pos c10] at H
         have c10b0 : decide (0 ≤ x5_1) = true := decide_eq_true c10
         clear c10
         by_cases c11 : x5_1 < (l0_0.length : Int)
         ·rw [if_pos c11] at H
          have c11b0 : decide (x5_1 < (l0_0.length : Int)) = true := decide_eq_true c11
          clear c11
          by_cases c12 : 0 ≤ x6_2
          ·rw [if_pos c12] at H
           have c12b0 : decide (0 ≤ x6_2) = true := decide_eq_true c12
           clear c12
           by_cases c13 : ((rd_T70 l0_0 x5_1).f1.f0) > ((rd_T70 l0_0 x6_2).f1.f1)
           ·rw [if_pos c13] at H
            have c13b0 : decide (((rd_T70 l0_0 x6_2).f1.f1) < ((rd_T70 l0_0 x5_1).f1.f0)) = true := decide_eq_true c13
            clear c13
            simp only [Option.some.injEq, Prod.mk.injEq] at H
            obtain ⟨rfl, rfl, rfl⟩ := H
            have hcz14_0 : wr.cell? ⟨gb110, 0, none⟩ = some (.slice A0_0 l0_0.length c0_0) := (blk_cell BK110.out 0).trans rfl
            have hcz14_1 : wr.cell? ⟨gb110, 1, none⟩ = some (.int .i64 a0_1) := (blk_cell BK110.out 1).trans rfl
            have hfz14_0 := blk_frozen BK110.out 0
            have hfz14_1 := blk_frozen BK110.out 1
            have p113 : 0 ≤ (x5_1 : Int) := of_decide_eq_true qf1
            have q113 : x5_1 < (l0_0.length : Int) := of_decide_eq_true qf1
            obtain ⟨ad113, e113, hx113_0, hx113_1, hx113_2⟩ := at_T70 HR0_0.out x5_1 p113 q113
            cases e113
            replace hx113_0 := (HB.out.cell (World.block_lt_of_cell? w _ hx113_0)).trans hx113_0
            replace hx113_1 := (HB.out.cell (World.block_lt_of_cell? w _ hx113_1)).trans hx113_1
            replace hx113_2 := (HB.out.cell (World.block_lt_of_cell? w _ hx113_2)).trans hx113_2
            replace p113 := eq_true p113
            replace q113 := eq_true q113
            have p114 : 0 ≤ (x6_2 : Int) := of_decide_eq_true qf1
            have q114 : x6_2 < (l0_0.length : Int) := of_decide_eq_true qf1
            obtain ⟨ad114, e114, hx114_0, hx114_1, hx114_2⟩ := at_T70 HR0_0.out x6_2 p114 q114
            obtain rfl : ad113 = ad114 := (by injection e114)
            replace hx114_0 := (HB.out.cell (World.block_lt_of_cell? w _ hx114_0)).trans hx114_0
            replace hx114_1 := (HB.out.cell (World.block_lt_of_cell? w _ hx114_1)).trans hx114_1
            replace hx114_2 := (HB.out.cell (World.block_lt_of_cell? w _ hx114_2)).trans hx114_2
            replace p114 := eq_true p114
            replace q114 := eq_true q114
            go_wp2
            repeat (go_quiet (fail); try go_wp2)
            go_ret3
            exact ⟨by first | rfl | (simp [errW_none, errW_some] <;> rfl) | (simp [*, errW_none, errW_some] <;> rfl), by (with_reducible apply pw_below_drewN; with_reducible exact HB.out)⟩
           rw [if_neg c13] at H
           have c13b0 : decide (((rd_T70 l0_0 x6_2).f1.f1) < ((rd_T70 l0_0 x5_1).f1.f0)) = false := decide_eq_false c13
           clear c13
           have H' := Aside0.mk H
           clear H
           have hcz15_0 : wr.cell? ⟨gb110, 0, none⟩ = some (.slice A0_0 l0_0.length c0_0) := (blk_cell BK110.out 0).trans rfl
           have hcz15_1 : wr.cell? ⟨gb110, 1, none⟩ = some (.int .i64 a0_1) := (blk_cell BK110.out 1).trans rfl
           have hfz15_0 := blk_frozen BK110.out 0
           have hfz15_1 := blk_frozen BK110.out 1
           have p113 : 0 ≤ (x5_1 : Int) := of_decide_eq_true qf1
           have q113 : x5_1 < (l0_0.length : Int) := of_decide_eq_true qf1
           obtain ⟨ad113, e113, hx113_0, hx113_1, hx113_2⟩ := at_T70 HR0_0.out x5_1 p113 q113
           cases e113
           replace hx113_0 := (HB.out.cell (World.block_lt_of_cell? w _ hx113_0)).trans hx113_0
           replace hx113_1 := (HB.out.cell (World.block_lt_of_cell? w _ hx113_1)).trans hx113_1
           replace hx113_2 := (HB.out.cell (World.block_lt_of_cell? w _ hx113_2)).trans hx113_2
           replace p113 := eq_true p113
           replace q113 := eq_true q113
           have p114 : 0 ≤ (x6_2 : Int) := of_decide_eq_true qf1
           have q114 : x6_2 < (l0_0.length : Int) := of_decide_eq_true qf1
           obtain ⟨ad114, e114, hx114_0, hx114_1, hx114_2⟩ := at_T70 HR0_0.out x6_2 p114 q114
           obtain rfl : ad113 = ad114 := (by injection e114)
           replace hx114_0 := (HB.out.cell (World.block_lt_of_cell? w _ hx114_0)).trans hx114_0
           replace hx114_1 := (HB.out.cell (World.block_lt_of_cell? w _ hx114_1)).trans hx114_1
           replace hx114_2 := (HB.out.cell (World.block_lt_of_cell? w _ hx114_2)).trans hx114_2
           replace p114 := eq_true p114
           replace q114 := eq_true q114
           go_wp2
           repeat (go_quiet (fail); try go_wp2)
           go_roundg k2
           case measure => have := HK1.out; have := HK2.out; omega
           case rel => exact ⟨(wrap64 (x6_2 + 1)), qf7, H', ⟨by have := HK1.out; have := HK2.out; omega⟩, ⟨by ((with_reducible refine blk_drewN ?_ _)); exact BK110.out⟩, ⟨by (with_reducible apply pw_below_drewN; with_reducible exact HB.out)⟩⟩
          rw [if_neg c12] at H
          exact absurd H (by simp)
         rw [if_neg c11] at H
         exact absurd H (by simp)
        rw [if_neg c10] at H
        exact absurd H (by simp)
       rw [if_neg c9] at H
       have c9b0 : decide (x6_2 < (l0_0.length : Int)) = false := decide_eq_false c9
       clear c9
       have H' := Aside0.mk H
       clear H
       have hcz16_0 : wr.cell? ⟨gb110, 0, none⟩ = some (.slice A0_0 l0_0.length c0_0) := (blk_cell BK110.out 0).trans rfl
       have hcz16_1 : wr.cell? ⟨gb110, 1, none⟩ = some (.int .i64 a0_1) := (blk_cell BK110.out 1).trans rfl
       have hfz16_0 := blk_frozen BK110.out 0
       have hfz16_1 := blk_frozen BK110.out 1
       go_wp2
       repeat (go_quiet (fail); try go_wp2)
       go_roundg k2
       case measure => have := HK1.out; have := HK2.out; omega
       case rel => exact ⟨(wrap64 (x5_1 + 1)), qf7, H', ⟨by have := HK1.out; have := HK2.out; omega⟩, ⟨by (skip); exact BK110.out⟩, ⟨by (with_reducible exact HB.out)⟩⟩
    rw [if_neg c7] at H
    have c7b0 : decide (x5_1 < (l0_0.length : Int)) = false := decide_eq_false c7
    clear c7
    simp only [Option.some.injEq, Prod.mk.injEq] at H
    obtain ⟨rfl, rfl, rfl⟩ := H
    have hcz17_0 : wr.cell? ⟨gb110, 0, none⟩ = some (.slice A0_0 l0_0.length c0_0) := (blk_cell BK110.out 0).trans rfl
    have hcz17_1 : wr.cell? ⟨gb110, 1, none⟩ = some (.int .i64 a0_1) := (blk_cell BK110.out 1).trans rfl
    have hfz17_0 := blk_frozen BK110.out 0
    have hfz17_1 := blk_frozen BK110.out 1
    go_wp2
    repeat (go_quiet (fail); try go_wp2)
    go_ret3
    exact ⟨by first | rfl | (simp [errW_none, errW_some] <;> rfl) | (simp [*, errW_none, errW_some] <;> rfl), by (with_reducible exact HB.out)⟩
 rw [if_neg c3] at H
 have c3b0 : (t111 == 0) = false := beq_eq_false_iff_ne.mpr c3
 have c3b1 : (t111 != 0) = true := bne_iff_ne.mpr c3
 replace H := Option.bind_eq_some_iff.mp H
 obtain ⟨t112, A180, H⟩ := H
 replace H : (some (0, 0, t112)) = some (r1, r2, r3) := H
 have A18 := Aside0.mk A180
 clear A180
 have EA18 := Aside0.mk (Option.some.inj (A2.out.symm.trans A18.out))
 simp only [Option.some.injEq, Prod.mk.injEq] at H
 obtain ⟨rfl, rfl, rfl⟩ := H
 go_enter Try.func20, Try.ntmps20
 go_wp2_with (first | ((with_reducible refine gate_dst (N := 1) rfl ?_); refine box_event ?hg (N := 1) ?hd (cs := #[.slice A0_0 l0_0.length c0_0, .int .i64 a0_1]) (t := 24) ?hr ?_; (case hd => rfl); (case hg => rfl); (case hr => first | (go_simp; done) | (go_simp; rfl)); intro gb110 hg w19 hbox hb; have n0_ := Aside0.mk (below_step qf4 hb); have n1_ := Aside0.mk (hbox); have n2_ := Aside0.mk ((by rw [hg]; exact (below_size qf4) : w.heap.size ≤ gb110)); have n3_ := Aside0.mk ((by rw [hg]; exact (below_size qf4) : w.heap.size ≤ gb110)); clear HB; have HB := n0_; have BK110 := n1_; have GW110 := n2_; have GE110 := n3_; clear n0_ n1_ n2_ n3_; clear hb hbox hg; have hcz20_0 : w19.cell? ⟨gb110, 0, none⟩ = some (.slice A0_0 l0_0.length c0_0) := (blk_cell BK110.out 0).trans rfl; have hcz20_1 : w19.cell? ⟨gb110, 1, none⟩ = some (.int .i64 a0_1) := (blk_cell BK110.out 1).trans rfl; have hfz20_0 := blk_frozen BK110.out 0; have hfz20_1 := blk_frozen BK110.out 1) | (go_at_call 22; (with_reducible refine (forecourtref01_CheckTank.calls k _ _ l0_0 a0_1 t111 _ ?side1 ?side2 A2.out).mono ?_); (case side1 => repeat (first | exact (Kd.C_below HR0_0.out HB.out))); (case side2 => exact HC0_0.out); rintro e w21 ⟨rfl, hb⟩; have n0_ := Aside0.mk (blk_below (g := gb110) (o := .cells #[.slice A0_0 l0_0.length c0_0, .int .i64 a0_1] 24 (0, 0)) (by exact BK110.out) hb); have n1_ := Aside0.mk (below_step (by repeat (first | with_reducible exact HB.out)) hb); clear BK110; clear HB; have BK110 := n0_; have HB := n1_; clear n0_ n1_; (try clear hb); (try clear hb2); (try clear hk); (try clear hi); have hcz22_0 : w21.cell? ⟨gb110, 0, none⟩ = some (.slice A0_0 l0_0.length c0_0) := (blk_cell BK110.out 0).trans rfl; have hcz22_1 : w21.cell? ⟨gb110, 1, none⟩ = some (.int .i64 a0_1) := (blk_cell BK110.out 1).trans rfl; have hfz22_0 := blk_frozen BK110.out 0; have hfz22_1 := blk_frozen BK110.out 1))
 repeat (go_quiet (fail); try go_wp2_with fail)
 go_ret3
 try (have d_ := EA18.out; clear EA18; subst d_)
 exact ⟨by first | rfl | (simp [errW_none, errW_some] <;> rfl) | (simp [*, errW_none, errW_some] <;> rfl), by (with_reducible exact HB.out)⟩
end Go.Proofs.Ytpkajhmchcbbhaa.P
end
section
namespace Go.Proofs.Ytpkajhmchcbbhaa.P
open Go.RowKit Go.Proofs.YtpkajhmchcbbhaaW.PrintWords Go.Proofs.YtpkajhmchcbbhaaW.PrintLast Go.Proofs.YtpkajhmchcbbhaaW.PrintMore
attribute [local go_sem] max2_int min2_int max_two min_two max_three min_three max_four min_four
def forecourtref01_Clashes.f (k : Nat) (l0_0 : List (S70)) (a0_1 : Int) : Option (Bool) := (forecourtref01_Clash.f k l0_0 a0_1).bind fun bt116 => (some (bt116.2.2 == 0))
set_option maxHeartbeats 8000000 in
set_option maxRecDepth 100000 in
theorem forecourtref01_Clashes.calls (k : Nat) (A0_0 : Option Addr) (c0_0 : Nat) (l0_0 : List (S70)) (a0_1 : Int) (r : Bool) (w : World) (hr0_0 : Kd.C k70 w A0_0 l0_0.length l0_0) (hc0_0 : l0_0.length ≤ c0_0) (h : forecourtref01_Clashes.f k l0_0 a0_1 = some r) :
  Calls Try.prog 56 #[.agg #[.slice A0_0 l0_0.length c0_0, .int .i64 a0_1]] w fun e w' => e = .returned (.bool r) ∧ Below w.heap.size w w' := by
 have hu24 := Try.underlying24
 have HR0_0 := Aside0.mk hr0_0
 have HC0_0 := Aside0.mk hc0_0
 clear hr0_0 hc0_0
 have HB := Aside0.mk (Below.refl w.heap.size w)
 have H : ((forecourtref01_Clash.f k l0_0 a0_1).bind fun bt116 => (some (bt116.2.2 == 0))) = some r := h
 clear h
 replace H := Option.bind_eq_some_iff.mp H
 obtain ⟨⟨t116, t117, t118⟩, A20, H⟩ := H
 replace H : (some (t118 == 0)) = some r := H
 have A2 := Aside0.mk A20
 clear A20
 obtain rfl := Option.some.inj H
 go_enter Try.func56, Try.ntmps56
 go_wp2_with (first | ((with_reducible refine gate_dst (N := 1) rfl ?_); refine box_event ?hg (N := 1) ?hd (cs := #[.slice A0_0 l0_0.length c0_0, .int .i64 a0_1]) (t := 24) ?hr ?_; (case hd => rfl); (case hg => rfl); (case hr => first | (go_simp; done) | (go_simp; rfl)); intro gb115 hg w3 hbox hb; have n0_ := Aside0.mk (below_step qf0 hb); have n1_ := Aside0.mk (hbox); have n2_ := Aside0.mk ((by rw [hg]; exact (below_size qf0) : w.heap.size ≤ gb115)); have n3_ := Aside0.mk ((by rw [hg]; exact (below_size qf0) : w.heap.size ≤ gb115)); clear HB; have HB := n0_; have BK115 := n1_; have GW115 := n2_; have GE115 := n3_; clear n0_ n1_ n2_ n3_; clear hb hbox hg; have hcz4_0 : w3.cell? ⟨gb115, 0, none⟩ = some (.slice A0_0 l0_0.length c0_0) := (blk_cell BK115.out 0).trans rfl; have hcz4_1 : w3.cell? ⟨gb115, 1, none⟩ = some (.int .i64 a0_1) := (blk_cell BK115.out 1).trans rfl; have hfz4_0 := blk_frozen BK115.out 0; have hfz4_1 := blk_frozen BK115.out 1) | ((with_reducible refine gate_callee (f := 20) rfl ?_); refine goesL_ (some 8) rfl rfl Try.func20 (by kernel_rfl) rfl #[.agg #[.slice A0_0 l0_0.length c0_0, .int .i64 a0_1]] rfl qf6 ?_; (with_reducible refine (forecourtref01_Clash.calls k _ _ l0_0 a0_1 t116 t117 t118 _ ?side1 ?side2 A2.out).mono ?_); (case side1 => repeat (first | exact (Kd.C_below HR0_0.out HB.out) | (with_reducible refine Kd.C_alloc ?_ _) | (with_reducible refine Kd.C_drewN ?_ _) | (with_reducible refine Kd.C_drew ?_))); (case side2 => exact HC0_0.out); rintro e w5 ⟨rfl, hb⟩; refine ⟨_, rfl, ?_⟩; have n0_ := Aside0.mk (blk_below (g := gb115) (o := .cells #[.slice A0_0 l0_0.length c0_0, .int .i64 a0_1] 24 (0, 0)) (by (with_reducible repeat (first | refine blk_drewN ?_ _ | refine blk_drew ?_ | refine blk_alloc ?_ _)); exact BK115.out) hb); have n1_ := Aside0.mk (below_step (by repeat (first | (with_reducible first | exact HB.out | apply below_alloc | apply pw_below_drewN | apply below_drew1 | refine below_set ?_ GE115.out) | exact HB.out)) hb); clear BK115; clear HB; have BK115 := n0_; have HB := n1_; clear n0_ n1_; (try clear hb); (try clear hb2); (try clear hk); (try clear hi)))
 go_ret
 exact ⟨by first | rfl | (simp [errW_none, errW_some] <;> rfl) | (simp [*, errW_none, errW_some] <;> rfl), by repeat (first | (with_reducible first | exact HB.out | apply below_alloc | apply pw_below_drewN | apply below_drew1 | refine below_set ?_ GE115.out) | exact HB.out)⟩
end Go.Proofs.Ytpkajhmchcbbhaa.P
end
section
namespace Go.Proofs.Ytpkajhmchcbbhaa.P
open Go.RowKit Go.Proofs.YtpkajhmchcbbhaaW.PrintWords Go.Proofs.YtpkajhmchcbbhaaW.PrintLast Go.Proofs.YtpkajhmchcbbhaaW.PrintMore
attribute [local go_sem] max2_int min2_int max_two min_two max_three min_three max_four min_four
mutual
def forecourtref01_tight.l0 : Nat → List (S43) → Int → List (S70) → Int → Option ((List (S43)))
 | 0, _, _, _, _ => none
 | k + 1, x3, x4, x120000, x120001 => if x4 < (x120000.length : Int) then (if 0 ≤ x4 then (forecourtref01_tight.l1 k x3 x4 0 x120000 x120001 ((rd_T70 x120000 x4).f1.f0) ((rd_T70 x120000 x4).f1.f1)) else (none)) else (some x3)
def forecourtref01_tight.l1 : Nat → List (S43) → Int → Int → List (S70) → Int → Int → Int → Option ((List (S43)))
 | 0, _, _, _, _, _, _, _ => none
 | k + 1, x3, x4, x6, x120000, x120001, x122000, x122001 => if x6 < (x120000.length : Int) then (if x6 < x4 then (if 0 ≤ x6 then (forecourtref01_tight.l1 k x3 x4 (wrap64 (x6 + 1)) x120000 x120001 (mx x122000 ((rd_T70 x120000 x6).f1.f0)) x122001) else (none)) else (if 0 ≤ x6 then (forecourtref01_tight.l1 k x3 x4 (wrap64 (x6 + 1)) x120000 x120001 x122000 (mn x122001 ((rd_T70 x120000 x6).f1.f1))) else (none))) else (if x3.length < 8796093022208 then (forecourtref01_tight.l0 k (x3 ++ [(⟨x122000, x122001⟩ : S43)]) (wrap64 (x4 + 1)) x120000 x120001) else (none))
end
def forecourtref01_tight.f (k : Nat) (l0_0 : List (S70)) (a0_1 : Int) : Option ((List (S43))) := forecourtref01_tight.l0 k ([] : List (S43)) 0 l0_0 a0_1
def forecourtref01_tight.T10 : Bool × List (List Nat × List Nat) := (true, [([], []), ([0], [0]), ([], []), ([2], [2]), ([], []), ([3, 4], [3, 4]), ([5], [5]), ([6], [6]), ([7], [7]), ([1, 8], [1, 8]), ([0, 1, 2, 3, 4, 5, 6, 7, 8, 9], []), ([10, 9, 0, 1, 2, 3, 4, 5, 6, 7, 8, 9], [9, 10])])
def forecourtref01_tight.B10 : List Nat := [0, 1, 0, 4, 0, 28, 60, 124, 252, 511, 1023, 2047]
theorem forecourtref01_tight.tab10 : rtab .any (opsOf Try.f57 10) = forecourtref01_tight.T10 := by kernel_rfl
theorem forecourtref01_tight.bits10 : waitsOk forecourtref01_tight.T10.2 forecourtref01_tight.B10 = true := by kernel_rfl
def forecourtref01_tight.T11 : Bool × List (List Nat × List Nat) := (true, [([], []), ([0], [0]), ([], []), ([2], [2]), ([], []), ([3, 4], [3, 4]), ([5], [5]), ([6], [6]), ([7], [7]), ([1, 8], [1, 8]), ([0, 1, 2, 3, 4, 5, 6, 7, 8, 9], []), ([10, 9, 0, 1, 2, 3, 4, 5, 6, 7, 8, 9], [9, 10])])
def forecourtref01_tight.B11 : List Nat := [0, 1, 0, 4, 0, 28, 60, 124, 252, 511, 1023, 2047]
theorem forecourtref01_tight.tab11 : rtab .any (opsOf Try.f57 11) = forecourtref01_tight.T11 := by kernel_rfl
theorem forecourtref01_tight.bits11 : waitsOk forecourtref01_tight.T11.2 forecourtref01_tight.B11 = true := by kernel_rfl
set_option maxHeartbeats 8000000 in
set_option maxRecDepth 100000 in
theorem forecourtref01_tight.calls (k : Nat) (A0_0 : Option Addr) (c0_0 : Nat) (l0_0 : List (S70)) (a0_1 : Int) (r : List (S43)) (w : World) (hr0_0 : Kd.C k70 w A0_0 l0_0.length l0_0) (hc0_0 : l0_0.length ≤ c0_0) (h : forecourtref01_tight.f k l0_0 a0_1 = some r) :
  Calls Try.prog 57 #[.agg #[.slice A0_0 l0_0.length c0_0, .int .i64 a0_1]] w fun e w' => ∃ v0_ : Value, e = .returned (v0_) ∧ Kd.R k43 43 w' w.heap.size (fun _ => True) v0_ r ∧ Below w.heap.size w w' := by
 have hu24 := Try.underlying24
 have hu43 := Try.underlying43
 have HR0_0 := Aside0.mk hr0_0
 have HC0_0 := Aside0.mk hc0_0
 clear hr0_0 hc0_0
 have HB := Aside0.mk (Below.refl w.heap.size w)
 have H : (forecourtref01_tight.l0 k ([] : List (S43)) 0 l0_0 a0_1) = some r := h
 clear h
 have H' := Aside0.mk H
 clear H
 go_enter Try.func57, Try.ntmps57
 go_wp2_with (first | ((with_reducible refine gate_dst (N := 1) rfl ?_); refine box_event ?hg (N := 1) ?hd (cs := #[.slice A0_0 l0_0.length c0_0, .int .i64 a0_1]) (t := 24) ?hr ?_; (case hd => rfl); (case hg => rfl); (case hr => first | (go_simp; done) | (go_simp; rfl)); intro gb119 hg w2 hbox hb; have n0_ := Aside0.mk (below_step qf4 hb); have n1_ := Aside0.mk (hbox); have n2_ := Aside0.mk ((by rw [hg]; exact (below_size qf4) : w.heap.size ≤ gb119)); have n3_ := Aside0.mk ((by rw [hg]; exact (below_size qf4) : w.heap.size ≤ gb119)); clear HB; have HB := n0_; have BK119 := n1_; have GW119 := n2_; have GE119 := n3_; clear n0_ n1_ n2_ n3_; clear hb hbox hg))
 go_loopg [3, 4] k (fun kq v3 v4 w' => ∃ (x3_1 : List (S43)) (x4_1 : Int), v4 = .int .i64 x4_1 ∧ Aside0 (forecourtref01_tight.l0 kq x3_1 x4_1 l0_0 a0_1 = some r) ∧ Aside0 (kq ≤ k) ∧ Aside0 (Kd.R k43 43 w' w.heap.size (fun _ => True) v3 x3_1) ∧ Aside0 (w'.heap[gb119]? = some (.cells #[(.slice A0_0 l0_0.length c0_0), .int .i64 a0_1] 24 (0, 0))) ∧ Aside0 (Below w.heap.size w w'))
 case atStart => exact ⟨(([] : List (S43))), (0), qf7, H', ⟨Nat.le_refl _⟩, ⟨by first | exact Kd.R_nil _ _ _ _ _ | exact Kd.N_nil _ _ _ _ _ | exact Kd.V_nil _ _ _ _ _ | exact Kd.Q_nil _ _ _ _ _ | exact Kd.S_nil _ _ _ _ _⟩, ⟨by (skip); exact BK119.out⟩, ⟨by (with_reducible exact HB.out)⟩⟩
 case round =>
  clear H'
  try clear p2
  obtain ⟨x3_1, x4_1, rfl, HA, HK1, HO_3, BK119, HB⟩ := hrel
  cases gk with
  | zero => exact absurd HA.out (by simp [forecourtref01_tight.l0])
  | succ k1 =>
   have H := HA.out
   clear HA
   simp only [forecourtref01_tight.l0] at H
   by_cases c3 : x4_1 < (l0_0.length : Int)
   ·rw [if_pos c3] at H
    have c3b0 : decide (x4_1 < (l0_0.length : Int)) = true := decide_eq_true c3
    clear c3
    by_cases c4 : 0 ≤ x4_1
    ·rw [if_pos c4] at H
     have c4b0 : decide (0 ≤ x4_1) = true := decide_eq_true c4
     clear c4
     have H' := Aside0.mk H
     clear H
     have hcz5_0 : wr.cell? ⟨gb119, 0, none⟩ = some (.slice A0_0 l0_0.length c0_0) := (blk_cell BK119.out 0).trans rfl
     have hcz5_1 : wr.cell? ⟨gb119, 1, none⟩ = some (.int .i64 a0_1) := (blk_cell BK119.out 1).trans rfl
     have hfz5_0 := blk_frozen BK119.out 0
     have hfz5_1 := blk_frozen BK119.out 1
     have p120 : 0 ≤ (x4_1 : Int) := of_decide_eq_true qf1
     have q120 : x4_1 < (l0_0.length : Int) := of_decide_eq_true qf1
     obtain ⟨ad120, e120, hx120_0, hx120_1, hx120_2⟩ := at_T70 HR0_0.out x4_1 p120 q120
     cases e120
     replace hx120_0 := (HB.out.cell (World.block_lt_of_cell? w _ hx120_0)).trans hx120_0
     replace hx120_1 := (HB.out.cell (World.block_lt_of_cell? w _ hx120_1)).trans hx120_1
     replace hx120_2 := (HB.out.cell (World.block_lt_of_cell? w _ hx120_2)).trans hx120_2
     replace p120 := eq_true p120
     replace q120 := eq_true q120
     go_wp2_with (first | ((with_reducible refine gate_dst (N := 5) rfl ?_); refine box_event ?hg (N := 5) ?hd (cs := #[.int .i64 0, .int .i64 0]) (t := 43) ?hr ?_; (case hd => rfl); (case hg => rfl); (case hr => first | (go_simp; done) | (go_simp; rfl)); intro gb121 hg w6 hbox hb; have n0_ := Aside0.mk (Kd.R_below (Kd.R_elderB (by exact HO_3.out) gb121 (Nat.le_of_eq hg.symm)) hb); have n1_ := Aside0.mk (blk_below (g := gb119) (o := .cells #[.slice (some ad120) l0_0.length c0_0, .int .i64 a0_1] 24 (0, 0)) (by exact BK119.out) hb); have n2_ := Aside0.mk (below_step qf4 hb); have n3_ := Aside0.mk (hbox); have n4_ := Aside0.mk ((by rw [hg]; exact (below_size qf4) : w.heap.size ≤ gb121)); have n5_ := Aside0.mk ((by rw [hg]; exact (below_size qf4) : w.heap.size ≤ gb121)); have n6_ := Aside0.mk ((by rw [hg]; exact Nat.ne_of_lt (blk_lt (g := gb119) (o := .cells #[.slice (some ad120) l0_0.length c0_0, .int .i64 a0_1] 24 (0, 0)) (by exact BK119.out)) : gb119 ≠ gb121)); have n7_ := Aside0.mk ((by rw [hg]; exact Nat.ne_of_gt (blk_lt (g := gb119) (o := .cells #[.slice (some ad120) l0_0.length c0_0, .int .i64 a0_1] 24 (0, 0)) (by exact BK119.out)) : gb121 ≠ gb119)); clear HO_3; clear BK119; clear HB; have HO_3 := n0_; have BK119 := n1_; have HB := n2_; have BK121 := n3_; have GW121 := n4_; have GE121 := n5_; have NB119_121 := n6_; have NB121_119 := n7_; clear n0_ n1_ n2_ n3_ n4_ n5_ n6_ n7_; clear hb hbox hg; have hnb7 := NB121_119.out; have hnc7 := NB119_121.out; have hcz8_0 : w6.cell? ⟨gb121, 0, none⟩ = some (.int .i64 0) := (blk_cell BK121.out 0).trans rfl; have hcz8_1 : w6.cell? ⟨gb121, 1, none⟩ = some (.int .i64 0) := (blk_cell BK121.out 1).trans rfl; have hfz8_0 := blk_frozen BK121.out 0; have hfz8_1 := blk_frozen BK121.out 1))
     go_loopg [6] k1 (fun kq v6 w' => ∃ (x6_2 : Int) (x122000_2 : Int) (x122001_2 : Int), v6 = .int .i64 x6_2 ∧ Aside0 (forecourtref01_tight.l1 kq x3_1 x4_1 x6_2 l0_0 a0_1 x122000_2 x122001_2 = some r) ∧ Aside0 (kq ≤ k1) ∧ Aside0 (Kd.R k43 43 w' w.heap.size (fun k_ => k_ ≠ gb121) u3 x3_1) ∧ Aside0 (w'.heap[gb119]? = some (.cells #[(.slice (some ad120) l0_0.length c0_0), .int .i64 a0_1] 24 (0, 0))) ∧ Aside0 (w'.heap[gb121]? = some (.cells #[.int .i64 x122000_2, .int .i64 x122001_2] 43 (0, 0))) ∧ Aside0 (Below w.heap.size w w'))
     case atStart => exact ⟨(0), ((rd_T70 l0_0 x4_1).f1.f0), ((rd_T70 l0_0 x4_1).f1.f1), qf7, H', ⟨Nat.le_refl _⟩, ⟨by (skip); exact Kd.R_mono (Kd.R_far (p := ⟨gb121, 1, none⟩) (Kd.R_far (p := ⟨gb121, 0, none⟩) (Kd.R_mono HO_3.out (fun k_ hk => (⟨hk, hk.2⟩ : _ ∧ k_ ≠ gb121))) (fun _ hk => hk.2) (.int .i64 ((rd_T70 l0_0 x4_1).f1.f0))) (fun _ hk => hk.2) (.int .i64 ((rd_T70 l0_0 x4_1).f1.f1))) (fun _ hk => hk.1.2)⟩, ⟨by (skip); refine blk_far ?_ NB119_121.out _; (skip); refine blk_far ?_ NB119_121.out _; (skip); exact BK119.out⟩, ⟨by (skip); refine blk_put (cs := #[.int .i64 ((rd_T70 l0_0 x4_1).f1.f0), .int .i64 0]) ?_ 1 _ rfl; (skip); refine blk_put (cs := #[.int .i64 0, .int .i64 0]) ?_ 0 _ rfl; (skip); exact BK121.out⟩, ⟨by (with_reducible refine below_set ?_ GE121.out; with_reducible refine below_set ?_ GE121.out; with_reducible exact HB.out)⟩⟩
     case round =>
      clear H'
      try clear p1
      try clear q1
      try clear hx1
      try clear p2
      try clear c3
      try clear c3b0
      try clear c4
      try clear c4b0
      try clear c5
      try clear c7
      try clear hcz5_0
      try clear hcz5_1
      try clear hcz8_0
      try clear hcz8_1
      try clear hfz5_0
      try clear hfz5_1
      try clear hfz8_0
      try clear hfz8_1
      try clear hx120_0
      try clear hx120_1
      try clear hx120_2
      try clear p120
      try clear p2
      try clear q120
      obtain ⟨x6_2, x122000_2, x122001_2, rfl, HA, HK2, HO_3, BK119, BK121, HB⟩ := hrel
      cases gk with
      | zero => exact absurd HA.out (by simp [forecourtref01_tight.l1])
      | succ k2 =>
       have H := HA.out
       clear HA
       simp only [forecourtref01_tight.l1] at H
       by_cases c9 : x6_2 < (l0_0.length : Int)
       ·rw [if_pos c9] at H
        have c9b0 : decide (x6_2 < (l0_0.length : Int)) = true := decide_eq_true c9
        clear c9
        by_cases c10 : x6_2 < x4_1
        ·rw [if_pos c10] at H
         have c10b0 : decide (x6_2 < x4_1) = true := decide_eq_true c10
         clear c10
         by_cases c11 : 0 ≤ x6_2
         ·rw [if_pos c11] at H
          have c11b0 : decide (0 ≤ x6_2) = true := decide_eq_true c11
          clear c11
          obtain ⟨ji12, hji12⟩ : ∃ j_ : Int, (mx x122000_2 ((rd_T70 l0_0 x6_2).f1.f0)) = j_ := ⟨_, rfl⟩
          replace H : (forecourtref01_tight.l1 k2 x3_1 x4_1 (wrap64 (x6_2 + 1)) l0_0 a0_1 ji12 x122001_2) = some r := by first | (rw [hji12] at H; exact H) | (simp only [hji12] at H ⊢; exact H)
          have hji12_ : (if x122000_2 < ((rd_T70 l0_0 x6_2).f1.f0) then ((rd_T70 l0_0 x6_2).f1.f0) else x122000_2) = ji12 := hji12
          have H' := Aside0.mk H
          clear H
          have hnb13 := NB119_121.out
          have hnc13 := NB121_119.out
          have hcz14_0 : wr.cell? ⟨gb119, 0, none⟩ = some (.slice (some ad120) l0_0.length c0_0) := (blk_cell BK119.out 0).trans rfl
          have hcz14_1 : wr.cell? ⟨gb119, 1, none⟩ = some (.int .i64 a0_1) := (blk_cell BK119.out 1).trans rfl
          have hfz14_0 := blk_frozen BK119.out 0
          have hfz14_1 := blk_frozen BK119.out 1
          try go_wp2
          have n0_ := Aside0.mk (Kd.R_drew HO_3.out)
          have n1_ := Aside0.mk (blk_drew BK119.out)
          have n2_ := Aside0.mk (blk_drew BK121.out)
          have n3_ := Aside0.mk (below_drew1 HB.out)
          clear HO_3 BK119 BK121 HB
          have HO_3 := n0_
          have BK119 := n1_
          have BK121 := n2_
          have HB := n3_
          clear n0_ n1_ n2_ n3_
          have p122 : 0 ≤ (x6_2 : Int) := of_decide_eq_true qf1
          have q122 : x6_2 < (l0_0.length : Int) := of_decide_eq_true qf1
          obtain ⟨ad122, e122, hx122_0, hx122_1, hx122_2⟩ := at_T70 HR0_0.out x6_2 p122 q122
          have hw122_2 := hx122_2
          have hw122_1 := hx122_1
          have hw122_0 := hx122_0
          obtain rfl : ad120 = ad122 := (by injection e122)
          replace hx122_0 := (HB.out.cell (World.block_lt_of_cell? w _ hx122_0)).trans hx122_0
          replace hx122_1 := (HB.out.cell (World.block_lt_of_cell? w _ hx122_1)).trans hx122_1
          replace hx122_2 := (HB.out.cell (World.block_lt_of_cell? w _ hx122_2)).trans hx122_2
          replace p122 := eq_true p122
          replace q122 := eq_true q122
          refine start_ (n := 12) (S := fun w' => w'.cell? ⟨gb121, 0, none⟩ = some (.int .i64 x122000_2) ∧ w'.cell? ⟨gb121, 1, none⟩ = some (.int .i64 x122001_2) ∧ w'.cell? ⟨gb119, 0, none⟩ = some (.slice (some ad120) l0_0.length c0_0) ∧ w'.cell? ⟨gb119, 1, none⟩ = some (.int .i64 a0_1) ∧ w'.cell? (ad120.add ((x6_2).toNat * 3)) = some (.int .i64 ((rd_T70 l0_0 x6_2).f0)) ∧ w'.cell? ⟨(ad120.add ((x6_2).toNat * 3)).block, (ad120.add ((x6_2).toNat * 3)).off + 1, none⟩ = some (.int .i64 ((rd_T70 l0_0 x6_2).f1.f0)) ∧ w'.cell? ⟨(ad120.add ((x6_2).toNat * 3)).block, (ad120.add ((x6_2).toNat * 3)).off + 2, none⟩ = some (.int .i64 ((rd_T70 l0_0 x6_2).f1.f1))) (ds := [11]) #[false, false, false, false, false, false, false, false, false, false, false, false] (by kernel_rfl) rfl rfl ⟨(blk_cell BK121.out 0).trans rfl, (blk_cell BK121.out 1).trans rfl, (blk_cell BK119.out 0).trans rfl, (blk_cell BK119.out 1).trans rfl, ((HB.out.cell (World.block_lt_of_cell? w _ hw122_0)).trans hw122_0), ((HB.out.cell (World.block_lt_of_cell? w _ hw122_1)).trans hw122_1), ((HB.out.cell (World.block_lt_of_cell? w _ hw122_2)).trans hw122_2)⟩ (fun hHeld => ?_); refine with_tabW forecourtref01_tight.tab10 forecourtref01_tight.bits10 (fun HT_ HW_ => ?_)
          generalize wr.drew = w15 at HO_3 BK119 BK121 HB hx122_0 hx122_1 hx122_2 hHeld ⊢
          refine pureT (i := 0) (N := some 30) HT_.out ?_
          refine pureT (i := 2) (N := some 32) HT_.out ?_
          refine pureT (i := 4) (N := some 34) HT_.out ?_
          refine takeT (i := 1) (N := some 31) HT_.out HW_.out hHeld (hy := by (rintro w' ⟨s0, s1, s2, s3, s4, s5, s6⟩; go_simp; with_reducible rfl)) (h := ?_)
          refine takeT (i := 3) (N := some 33) HT_.out HW_.out hHeld (hy := by (rintro w' ⟨s0, s1, s2, s3, s4, s5, s6⟩; go_simp; with_reducible rfl)) (h := ?_)
          refine pureT (i := 5) (N := some 35) HT_.out ?_
          refine pureT (i := 6) (N := some 36) HT_.out ?_
          refine pureT (i := 7) (N := some 37) HT_.out ?_
          refine takeT (i := 8) (N := some 38) HT_.out HW_.out hHeld (hy := by (rintro w' ⟨s0, s1, s2, s3, s4, s5, s6⟩; go_simp; with_reducible rfl)) (h := ?_)
          refine pureT (i := 9) (N := some 39) HT_.out ?_
          refine pureT (i := 10) (N := some 40) HT_.out ?_
          refine last_ (i := 11) (N := none) #[true, true, true, true, true, true, true, true, true, true, true, true] rfl rfl (one_of HT_.out (by kernel_rfl)) (by decide) (fun K hK => ?_)
          have hs16 : w15.cell? ⟨gb121, 0, none⟩ = some (.int .i64 x122000_2) := (blk_cell BK121.out 0).trans rfl
          have hfs16 := blk_frozen BK121.out 0
          have hns16_0 := NB119_121.out
          have hms16_0 := NB121_119.out
          refine skip_ (w1 := ?_) (by rfl) rfl ?_ ?_
          rotate_left
          ·go_simp
           rfl
          refine hK.out _ _ ?_
          clear hK K
          refine done_ (done_of HT_.out (by kernel_rfl)) ?_
          try go_wp2
          go_roundg k2
          case measure => have := HK1.out; have := HK2.out; omega
          case rel => exact ⟨(wrap64 (x6_2 + 1)), (ji12), (x122001_2), qf7, H', ⟨by have := HK1.out; have := HK2.out; omega⟩, ⟨by (skip); exact Kd.R_mono (Kd.R_far (p := ⟨gb121, 0, none⟩) (Kd.R_mono HO_3.out (fun k_ hk => (⟨hk, hk⟩ : _ ∧ k_ ≠ gb121))) (fun _ hk => hk.2) (.int .i64 ji12)) (fun _ hk => hk.1)⟩, ⟨by (skip); refine blk_far ?_ NB119_121.out _; (skip); exact BK119.out⟩, ⟨by (skip); refine blk_put (cs := #[.int .i64 x122000_2, .int .i64 x122001_2]) ?_ 0 _ rfl; (skip); exact BK121.out⟩, ⟨by (with_reducible refine below_set ?_ GE121.out; with_reducible exact HB.out)⟩⟩
         rw [if_neg c11] at H
         exact absurd H (by simp)
        rw [if_neg c10] at H
        have c10b0 : decide (x6_2 < x4_1) = false := decide_eq_false c10
        clear c10
        by_cases c17 : 0 ≤ x6_2
        ·rw [if_pos c17] at H
         have c17b0 : decide (0 ≤ x6_2) = true := decide_eq_true c17
         clear c17
         obtain ⟨ji18, hji18⟩ : ∃ j_ : Int, (mn x122001_2 ((rd_T70 l0_0 x6_2).f1.f1)) = j_ := ⟨_, rfl⟩
         replace H : (forecourtref01_tight.l1 k2 x3_1 x4_1 (wrap64 (x6_2 + 1)) l0_0 a0_1 x122000_2 ji18) = some r := by first | (rw [hji18] at H; exact H) | (simp only [hji18] at H ⊢; exact H)
         have hji18_ : (if ((rd_T70 l0_0 x6_2).f1.f1) < x122001_2 then ((rd_T70 l0_0 x6_2).f1.f1) else x122001_2) = ji18 := hji18
         have H' := Aside0.mk H
         clear H
         have hnb19 := NB119_121.out
         have hnc19 := NB121_119.out
         have hcz20_0 : wr.cell? ⟨gb119, 0, none⟩ = some (.slice (some ad120) l0_0.length c0_0) := (blk_cell BK119.out 0).trans rfl
         have hcz20_1 : wr.cell? ⟨gb119, 1, none⟩ = some (.int .i64 a0_1) := (blk_cell BK119.out 1).trans rfl
         have hfz20_0 := blk_frozen BK119.out 0
         have hfz20_1 := blk_frozen BK119.out 1
         try go_wp2
         have n0_ := Aside0.mk (Kd.R_drew HO_3.out)
         have n1_ := Aside0.mk (blk_drew BK119.out)
         have n2_ := Aside0.mk (blk_drew BK121.out)
         have n3_ := Aside0.mk (below_drew1 HB.out)
         clear HO_3 BK119 BK121 HB
         have HO_3 := n0_
         have BK119 := n1_
         have BK121 := n2_
         have HB := n3_
         clear n0_ n1_ n2_ n3_
         have p123 : 0 ≤ (x6_2 : Int) := of_decide_eq_true qf1
         have q123 : x6_2 < (l0_0.length : Int) := of_decide_eq_true qf1
         obtain ⟨ad123, e123, hx123_0, hx123_1, hx123_2⟩ := at_T70 HR0_0.out x6_2 p123 q123
         have hw123_2 := hx123_2
         have hw123_1 := hx123_1
         have hw123_0 := hx123_0
         obtain rfl : ad120 = ad123 := (by injection e123)
         replace hx123_0 := (HB.out.cell (World.block_lt_of_cell? w _ hx123_0)).trans hx123_0
         replace hx123_1 := (HB.out.cell (World.block_lt_of_cell? w _ hx123_1)).trans hx123_1
         replace hx123_2 := (HB.out.cell (World.block_lt_of_cell? w _ hx123_2)).trans hx123_2
         replace p123 := eq_true p123
         replace q123 := eq_true q123
         refine start_ (n := 12) (S := fun w' => w'.cell? ⟨gb121, 0, none⟩ = some (.int .i64 x122000_2) ∧ w'.cell? ⟨gb121, 1, none⟩ = some (.int .i64 x122001_2) ∧ w'.cell? ⟨gb119, 0, none⟩ = some (.slice (some ad120) l0_0.length c0_0) ∧ w'.cell? ⟨gb119, 1, none⟩ = some (.int .i64 a0_1) ∧ w'.cell? (ad120.add ((x6_2).toNat * 3)) = some (.int .i64 ((rd_T70 l0_0 x6_2).f0)) ∧ w'.cell? ⟨(ad120.add ((x6_2).toNat * 3)).block, (ad120.add ((x6_2).toNat * 3)).off + 1, none⟩ = some (.int .i64 ((rd_T70 l0_0 x6_2).f1.f0)) ∧ w'.cell? ⟨(ad120.add ((x6_2).toNat * 3)).block, (ad120.add ((x6_2).toNat * 3)).off + 2, none⟩ = some (.int .i64 ((rd_T70 l0_0 x6_2).f1.f1))) (ds := [11]) #[false, false, false, false, false, false, false, false, false, false, false, false] (by kernel_rfl) rfl rfl ⟨(blk_cell BK121.out 0).trans rfl, (blk_cell BK121.out 1).trans rfl, (blk_cell BK119.out 0).trans rfl, (blk_cell BK119.out 1).trans rfl, ((HB.out.cell (World.block_lt_of_cell? w _ hw123_0)).trans hw123_0), ((HB.out.cell (World.block_lt_of_cell? w _ hw123_1)).trans hw123_1), ((HB.out.cell (World.block_lt_of_cell? w _ hw123_2)).trans hw123_2)⟩ (fun hHeld => ?_); refine with_tabW forecourtref01_tight.tab11 forecourtref01_tight.bits11 (fun HT_ HW_ => ?_)
         generalize wr.drew = w21 at HO_3 BK119 BK121 HB hx123_0 hx123_1 hx123_2 hHeld ⊢
         refine pureT (i := 0) (N := some 41) HT_.out ?_
         refine pureT (i := 2) (N := some 43) HT_.out ?_
         refine pureT (i := 4) (N := some 45) HT_.out ?_
         refine takeT (i := 1) (N := some 42) HT_.out HW_.out hHeld (hy := by (rintro w' ⟨s0, s1, s2, s3, s4, s5, s6⟩; go_simp; with_reducible rfl)) (h := ?_)
         refine takeT (i := 3) (N := some 44) HT_.out HW_.out hHeld (hy := by (rintro w' ⟨s0, s1, s2, s3, s4, s5, s6⟩; go_simp; with_reducible rfl)) (h := ?_)
         refine pureT (i := 5) (N := some 46) HT_.out ?_
         refine pureT (i := 6) (N := some 47) HT_.out ?_
         refine pureT (i := 7) (N := some 48) HT_.out ?_
         refine takeT (i := 8) (N := some 49) HT_.out HW_.out hHeld (hy := by (rintro w' ⟨s0, s1, s2, s3, s4, s5, s6⟩; go_simp; with_reducible rfl)) (h := ?_)
         refine pureT (i := 9) (N := some 50) HT_.out ?_
         refine pureT (i := 10) (N := some 51) HT_.out ?_
         refine last_ (i := 11) (N := none) #[true, true, true, true, true, true, true, true, true, true, true, true] rfl rfl (one_of HT_.out (by kernel_rfl)) (by decide) (fun K hK => ?_)
         have hs22 : w21.cell? ⟨gb121, 1, none⟩ = some (.int .i64 x122001_2) := (blk_cell BK121.out 1).trans rfl
         have hfs22 := blk_frozen BK121.out 1
         have hns22_0 := NB119_121.out
         have hms22_0 := NB121_119.out
         refine skip_ (w1 := ?_) (by rfl) rfl ?_ ?_
         rotate_left
         ·go_simp
          rfl
         refine hK.out _ _ ?_
         clear hK K
         refine done_ (done_of HT_.out (by kernel_rfl)) ?_
         try go_wp2
         go_roundg k2
         case measure => have := HK1.out; have := HK2.out; omega
         case rel => exact ⟨(wrap64 (x6_2 + 1)), (x122000_2), (ji18), qf7, H', ⟨by have := HK1.out; have := HK2.out; omega⟩, ⟨by (skip); exact Kd.R_mono (Kd.R_far (p := ⟨gb121, 1, none⟩) (Kd.R_mono HO_3.out (fun k_ hk => (⟨hk, hk⟩ : _ ∧ k_ ≠ gb121))) (fun _ hk => hk.2) (.int .i64 ji18)) (fun _ hk => hk.1)⟩, ⟨by (skip); refine blk_far ?_ NB119_121.out _; (skip); exact BK119.out⟩, ⟨by (skip); refine blk_put (cs := #[.int .i64 x122000_2, .int .i64 x122001_2]) ?_ 1 _ rfl; (skip); exact BK121.out⟩, ⟨by (with_reducible refine below_set ?_ GE121.out; with_reducible exact HB.out)⟩⟩
        rw [if_neg c17] at H
        exact absurd H (by simp)
       rw [if_neg c9] at H
       have c9b0 : decide (x6_2 < (l0_0.length : Int)) = false := decide_eq_false c9
       clear c9
       by_cases c23 : x3_1.length < 8796093022208
       ·rw [if_pos c23] at H
        have LMc23 := Aside0.mk c23
        clear c23
        obtain ⟨y124, hy124⟩ : ∃ y_ : List (S43), y_ = (x3_1 ++ [(⟨x122000_2, x122001_2⟩ : S43)]) := ⟨_, rfl⟩
        replace H : (forecourtref01_tight.l0 k2 y124 (wrap64 (x4_1 + 1)) l0_0 a0_1) = some r := by first | (rw [hy124]; with_reducible exact H) | (have H2_ := (Option.bind_some _ _).symm.trans H; rw [hy124]; with_reducible exact H2_) | (have H2_ := (Option.bind_some _ _).symm.trans H; with_reducible exact H2_) | with_reducible exact H | (rw [hy124]; exact H) | exact H
        have Ny124 := Aside0.mk hy124
        clear hy124
        have H' := Aside0.mk H
        clear H
        have hnb24 := NB119_121.out
        have hnc24 := NB121_119.out
        have hcz25_0 : wr.cell? ⟨gb119, 0, none⟩ = some (.slice (some ad120) l0_0.length c0_0) := (blk_cell BK119.out 0).trans rfl
        have hcz25_1 : wr.cell? ⟨gb119, 1, none⟩ = some (.int .i64 a0_1) := (blk_cell BK119.out 1).trans rfl
        have hfz25_0 := blk_frozen BK119.out 0
        have hfz25_1 := blk_frozen BK119.out 1
        have hcz26_0 : wr.cell? ⟨gb121, 0, none⟩ = some (.int .i64 x122000_2) := (blk_cell BK121.out 0).trans rfl
        have hcz26_1 : wr.cell? ⟨gb121, 1, none⟩ = some (.int .i64 x122001_2) := (blk_cell BK121.out 1).trans rfl
        have hfz26_0 := blk_frozen BK121.out 0
        have hfz26_1 := blk_frozen BK121.out 1
        go_wp2_with (first | ((with_reducible refine gate_builtin (b := .append) (xs := #[.tmp 52, .tmp 54]) rfl ?_); at_builtin; refine Kd.R_append k43 (w0 := w) w.heap.size rfl (.tmp 52) (.tmp 54) 28 43 (.agg #[(.int .i64 0), (.int .i64 0)]) 16 rfl Try.underlying28 info43 rfl (by decide) (by omega) u3 x3_1 (⟨x122000_2, x122001_2⟩ : S43) [.int .i64 x122000_2, .int .i64 x122001_2] (fun k_ => k_ ≠ gb121) (fun _ => False) rfl rfl ?aP (fun _ hk => hk.elim) ?aF ?aO ?aB ?aS ?aL ?_; (case aP => exact k43_mkM _ _ _ (⟨x122000_2, x122001_2⟩ : S43)); (case aB => exact qf4); (case aF => exact (fun k_ hk => Kd.freshB (g := gb121) (o := .cells #[.int .i64 x122000_2, .int .i64 x122001_2] 43 (0, 0)) (by exact BK121.out) k_ hk)); (case aO => exact (by exact HO_3.out)); (case aS => exact (below_size qf4)); (case aL => have := LMc23.out; omega); intro v125 w27 ho hb hg hat; rw [← Ny124.out] at ho; have n0_ := Aside0.mk (blk_grown (g := gb119) (o := .cells #[.slice (some ad120) l0_0.length c0_0, .int .i64 a0_1] 24 (0, 0)) (by exact BK119.out) hg (Kd.R_ne HO_3.out BK119.out (by decide))); have n1_ := Aside0.mk (blk_grown (g := gb121) (o := .cells #[.int .i64 x122000_2, .int .i64 x122001_2] 43 (0, 0)) (by exact BK121.out) hg (Kd.R_away HO_3.out (fun _ hk => hk))); have n2_ := Aside0.mk (hb); have n3_ := Aside0.mk (ho); clear BK119; clear BK121; clear HB; clear HO_3; have BK119 := n0_; have BK121 := n1_; have HB := n2_; have HO126 := n3_; clear n0_ n1_ n2_ n3_; clear ho hb hg hat))
        go_roundg k2
        case measure => have := HK1.out; have := HK2.out; omega
        case rel => exact ⟨(y124), (wrap64 (x4_1 + 1)), qf7, H', ⟨by have := HK1.out; have := HK2.out; omega⟩, ⟨by (skip); exact Kd.R_mono HO126.out (fun _ hk => trivial)⟩, ⟨by (skip); exact BK119.out⟩, ⟨by (with_reducible exact HB.out)⟩⟩
       rw [if_neg c23] at H
       exact absurd H (by simp)
    rw [if_neg c4] at H
    exact absurd H (by simp)
   rw [if_neg c3] at H
   have c3b0 : decide (x4_1 < (l0_0.length : Int)) = false := decide_eq_false c3
   clear c3
   obtain rfl := Option.some.inj H
   have hcz28_0 : wr.cell? ⟨gb119, 0, none⟩ = some (.slice A0_0 l0_0.length c0_0) := (blk_cell BK119.out 0).trans rfl
   have hcz28_1 : wr.cell? ⟨gb119, 1, none⟩ = some (.int .i64 a0_1) := (blk_cell BK119.out 1).trans rfl
   have hfz28_0 := blk_frozen BK119.out 0
   have hfz28_1 := blk_frozen BK119.out 1
   go_wp2
   go_ret
   exact ⟨_, by first | rfl | (simp [errW_none, errW_some] <;> rfl) | (simp [*, errW_none, errW_some] <;> rfl), by (skip); exact HO_3.out, by (with_reducible exact HB.out)⟩
end Go.Proofs.Ytpkajhmchcbbhaa.P
end
