/- Part 13 of 51. -/
import Derived.Test.YtpkajhmchcbbhaaD0
import Derived.Test.YtpkajhmchcbbhaaD6
set_option linter.unusedSimpArgs false
set_option linter.unusedVariables false
section
namespace Go.Proofs.Ytpkajhmchcbbhaa.P
open Go.RowKit Go.Proofs.YtpkajhmchcbbhaaW.PrintWords Go.Proofs.YtpkajhmchcbbhaaW.PrintLast Go.Proofs.YtpkajhmchcbbhaaW.PrintMore
attribute [local go_sem] max2_int min2_int max_two min_two max_three min_three max_four min_four
def forecourtref01_piece.l0 : Nat → Int → Int → List (S70) → Int → Option (Int)
 | 0, _, _, _, _ => none
 | k + 1, x1, x5, x182000, x182001 => if (wrap64 (x5 + 2)) < (x182000.length : Int) then (if 0 ≤ (wrap64 (x5 + 1)) then (if (wrap64 (x5 + 1)) < (x182000.length : Int) then (if ((rd_T70 x182000 (wrap64 (x5 + 1))).f0) ≤ x1 then (forecourtref01_piece.l0 k x1 (wrap64 (x5 + 1)) x182000 x182001) else (some x5)) else (none)) else (none)) else (some x5)
def forecourtref01_piece.f (k : Nat) (l0_0 : List (S70)) (a0_1 : Int) (a1 : Int) : Option (Int) := forecourtref01_piece.l0 k a1 0 l0_0 a0_1
set_option maxHeartbeats 8000000 in
set_option maxRecDepth 100000 in
theorem forecourtref01_piece.calls (k : Nat) (A0_0 : Option Addr) (c0_0 : Nat) (l0_0 : List (S70)) (a0_1 : Int) (a1 : Int) (r : Int) (w : World) (hr0_0 : Kd.C k70 w A0_0 l0_0.length l0_0) (hc0_0 : l0_0.length ≤ c0_0) (h : forecourtref01_piece.f k l0_0 a0_1 a1 = some r) :
  Calls Try.prog 81 #[.agg #[.slice A0_0 l0_0.length c0_0, .int .i64 a0_1], .int .i64 a1] w fun e w' => e = .returned (.int .i64 r) ∧ Below w.heap.size w w' := by
 have hu24 := Try.underlying24
 have HR0_0 := Aside0.mk hr0_0
 have HC0_0 := Aside0.mk hc0_0
 clear hr0_0 hc0_0
 have HB := Aside0.mk (Below.refl w.heap.size w)
 have H : (forecourtref01_piece.l0 k a1 0 l0_0 a0_1) = some r := h
 clear h
 have H' := Aside0.mk H
 clear H
 go_enter Try.func81, Try.ntmps81
 go_wp2_with (first | ((with_reducible refine gate_dst (N := 2) rfl ?_); refine box_event ?hg (N := 2) ?hd (cs := #[.slice A0_0 l0_0.length c0_0, .int .i64 a0_1]) (t := 24) ?hr ?_; (case hd => rfl); (case hg => rfl); (case hr => first | (go_simp; done) | (go_simp; rfl)); intro gb181 hg w3 hbox hb; have n0_ := Aside0.mk (below_step qd0 hb); have n1_ := Aside0.mk (hbox); have n2_ := Aside0.mk ((by rw [hg]; exact (below_size qd0) : w.heap.size ≤ gb181)); have n3_ := Aside0.mk ((by rw [hg]; exact (below_size qd0) : w.heap.size ≤ gb181)); clear HB; have HB := n0_; have BK181 := n1_; have GW181 := n2_; have GE181 := n3_; clear n0_ n1_ n2_ n3_; clear hb hbox hg))
 go_loopg [5] k (fun kq v5 w' => ∃ (x5_1 : Int), v5 = .int .i64 x5_1 ∧ Aside0 (forecourtref01_piece.l0 kq a1 x5_1 l0_0 a0_1 = some r) ∧ Aside0 (kq ≤ k) ∧ Aside0 (w'.heap[gb181]? = some (.cells #[(.slice A0_0 l0_0.length c0_0), .int .i64 a0_1] 24 (0, 0))) ∧ Aside0 (Below w.heap.size w w'))
 case atStart => exact ⟨(0), qd5, H', ⟨Nat.le_refl _⟩, ⟨by (with_reducible repeat (first | refine blk_drewN ?_ _ | refine blk_drew ?_ | refine blk_alloc ?_ _)); exact BK181.out⟩, ⟨by repeat (first | (with_reducible first | exact HB.out | apply below_alloc | apply pw_below_drewN | apply below_drew1 | refine below_set ?_ GE181.out) | exact HB.out)⟩⟩
 case round =>
  clear H'
  try clear p2
  obtain ⟨x5_1, rfl, HA, HK1, BK181, HB⟩ := hrel
  cases gk with
  | zero => exact absurd HA.out (by simp [forecourtref01_piece.l0])
  | succ k1 =>
   have H := HA.out
   clear HA
   simp only [forecourtref01_piece.l0] at H
   by_cases c4 : (wrap64 (x5_1 + 2)) < (l0_0.length : Int)
   ·rw [if_pos c4] at H
    have c4b0 : decide ((wrap64 (x5_1 + 2)) < (l0_0.length : Int)) = true := decide_eq_true c4
    clear c4
    obtain ⟨ji5, hji5⟩ : ∃ j_ : Int, (wrap64 (x5_1 + 1)) = j_ := ⟨_, rfl⟩
    replace H : (if 0 ≤ (ji5) then (if (ji5) < (l0_0.length : Int) then (if ((rd_T70 l0_0 (ji5)).f0) ≤ a1 then (forecourtref01_piece.l0 k1 a1 ji5 l0_0 a0_1) else (some x5_1)) else (none)) else (none)) = some r := by first | (rw [hji5] at H; exact H) | (simp only [hji5] at H ⊢; exact H)
    have hji5w : (IntKind.i64.wrap (x5_1 + 1)) = ji5 := (i64_w _).trans hji5
    by_cases c6 : 0 ≤ (ji5)
    ·rw [if_pos c6] at H
     have c6b0 : decide (0 ≤ (ji5)) = true := decide_eq_true c6
     clear c6
     by_cases c7 : (ji5) < (l0_0.length : Int)
     ·rw [if_pos c7] at H
      have c7b0 : decide ((ji5) < (l0_0.length : Int)) = true := decide_eq_true c7
      clear c7
      by_cases c8 : ((rd_T70 l0_0 (ji5)).f0) ≤ a1
      ·rw [if_pos c8] at H
       have c8b0 : decide (((rd_T70 l0_0 (ji5)).f0) ≤ a1) = true := decide_eq_true c8
       clear c8
       have H' := Aside0.mk H
       clear H
       have hcz9_0 : wr.cell? ⟨gb181, 0, none⟩ = some (.slice A0_0 l0_0.length c0_0) := (blk_cell BK181.out 0).trans rfl
       have hcz9_1 : wr.cell? ⟨gb181, 1, none⟩ = some (.int .i64 a0_1) := (blk_cell BK181.out 1).trans rfl
       have hfz9_0 := blk_frozen BK181.out 0
       have hfz9_1 := blk_frozen BK181.out 1
       have p182 : 0 ≤ ((ji5) : Int) := of_decide_eq_true qd1
       have q182 : (ji5) < (l0_0.length : Int) := of_decide_eq_true qd1
       obtain ⟨ad182, e182, hx182_0, hx182_1, hx182_2⟩ := at_T70 HR0_0.out (ji5) p182 q182
       cases e182
       replace hx182_0 := (HB.out.cell (World.block_lt_of_cell? w _ hx182_0)).trans hx182_0
       replace hx182_1 := (HB.out.cell (World.block_lt_of_cell? w _ hx182_1)).trans hx182_1
       replace hx182_2 := (HB.out.cell (World.block_lt_of_cell? w _ hx182_2)).trans hx182_2
       replace p182 := eq_true p182
       replace q182 := eq_true q182
       go_wp2
       go_roundg k1
       case measure => have := HK1.out; omega
       case rel => exact ⟨(ji5), (by first | rfl | (simp; done) | (simp only [← hji5] <;> (first | rfl | simp)) | (simp [*]; done)), H', ⟨by have := HK1.out; omega⟩, ⟨by (with_reducible repeat (first | refine blk_drewN ?_ _ | refine blk_drew ?_ | refine blk_alloc ?_ _)); exact BK181.out⟩, ⟨by repeat (first | (with_reducible first | exact HB.out | apply below_alloc | apply pw_below_drewN | apply below_drew1 | refine below_set ?_ GE181.out) | exact HB.out)⟩⟩
      rw [if_neg c8] at H
      have c8b0 : decide (((rd_T70 l0_0 (ji5)).f0) ≤ a1) = false := decide_eq_false c8
      clear c8
      obtain rfl := Option.some.inj H
      have hcz10_0 : wr.cell? ⟨gb181, 0, none⟩ = some (.slice A0_0 l0_0.length c0_0) := (blk_cell BK181.out 0).trans rfl
      have hcz10_1 : wr.cell? ⟨gb181, 1, none⟩ = some (.int .i64 a0_1) := (blk_cell BK181.out 1).trans rfl
      have hfz10_0 := blk_frozen BK181.out 0
      have hfz10_1 := blk_frozen BK181.out 1
      have p182 : 0 ≤ ((ji5) : Int) := of_decide_eq_true qd1
      have q182 : (ji5) < (l0_0.length : Int) := of_decide_eq_true qd1
      obtain ⟨ad182, e182, hx182_0, hx182_1, hx182_2⟩ := at_T70 HR0_0.out (ji5) p182 q182
      cases e182
      replace hx182_0 := (HB.out.cell (World.block_lt_of_cell? w _ hx182_0)).trans hx182_0
      replace hx182_1 := (HB.out.cell (World.block_lt_of_cell? w _ hx182_1)).trans hx182_1
      replace hx182_2 := (HB.out.cell (World.block_lt_of_cell? w _ hx182_2)).trans hx182_2
      replace p182 := eq_true p182
      replace q182 := eq_true q182
      go_wp2
      go_ret
      exact ⟨by first | rfl | (simp [errW_none, errW_some] <;> rfl) | (simp only [← hji5]; first | rfl | (simp [errW_none, errW_some] <;> rfl)) | (simp [*, errW_none, errW_some] <;> rfl), by repeat (first | (with_reducible first | exact HB.out | apply below_alloc | apply pw_below_drewN | apply below_drew1 | refine below_set ?_ GE181.out) | exact HB.out)⟩
     rw [if_neg c7] at H
     exact absurd H (by simp)
    rw [if_neg c6] at H
    exact absurd H (by simp)
   rw [if_neg c4] at H
   have c4b0 : decide ((wrap64 (x5_1 + 2)) < (l0_0.length : Int)) = false := decide_eq_false c4
   clear c4
   obtain rfl := Option.some.inj H
   have hcz11_0 : wr.cell? ⟨gb181, 0, none⟩ = some (.slice A0_0 l0_0.length c0_0) := (blk_cell BK181.out 0).trans rfl
   have hcz11_1 : wr.cell? ⟨gb181, 1, none⟩ = some (.int .i64 a0_1) := (blk_cell BK181.out 1).trans rfl
   have hfz11_0 := blk_frozen BK181.out 0
   have hfz11_1 := blk_frozen BK181.out 1
   go_wp2
   go_ret
   exact ⟨by first | rfl | (simp [errW_none, errW_some] <;> rfl) | (simp [*, errW_none, errW_some] <;> rfl), by repeat (first | (with_reducible first | exact HB.out | apply below_alloc | apply pw_below_drewN | apply below_drew1 | refine below_set ?_ GE181.out) | exact HB.out)⟩
end Go.Proofs.Ytpkajhmchcbbhaa.P
end
section
namespace Go.Proofs.Ytpkajhmchcbbhaa.P
open Go.RowKit Go.Proofs.YtpkajhmchcbbhaaW.PrintWords Go.Proofs.YtpkajhmchcbbhaaW.PrintLast Go.Proofs.YtpkajhmchcbbhaaW.PrintMore
attribute [local go_sem] max2_int min2_int max_two min_two max_three min_three max_four min_four
def forecourtref01_below.f (k : Nat) (l0_0 : List (S70)) (a0_1 : Int) (l1 : List Int) (a2 : Int) : Option (Int × Int) := (forecourtref01_piece.f k l0_0 a0_1 a2).bind fun t184 => (if 0 ≤ t184 then (if t184 < (l0_0.length : Int) then (if 0 ≤ (wrap64 (t184 + 1)) then (if (wrap64 (t184 + 1)) < (l0_0.length : Int) then (if t184 < (l1.length : Int) then (if (wrap64 (t184 + 1)) < (l1.length : Int) then (some (wrap64 ((wrap64 ((rd l1 t184) * (wrap64 (((rd_T70 l0_0 (wrap64 (t184 + 1))).f0) - a2)))) + (wrap64 ((rd l1 (wrap64 (t184 + 1))) * (wrap64 (a2 - ((rd_T70 l0_0 t184).f0)))))), wrap64 (((rd_T70 l0_0 (wrap64 (t184 + 1))).f0) - ((rd_T70 l0_0 t184).f0)))) else (none)) else (none)) else (none)) else (none)) else (none)) else (none))
set_option maxHeartbeats 8000000 in
set_option maxRecDepth 100000 in
theorem forecourtref01_below.calls (k : Nat) (A0_0 : Option Addr) (c0_0 : Nat) (l0_0 : List (S70)) (a0_1 : Int) (A1 : Option Addr) (c1 : Nat) (l1 : List Int) (a2 : Int) (r1 : Int) (r2 : Int) (w : World) (hr0_0 : Kd.C k70 w A0_0 l0_0.length l0_0) (hc0_0 : l0_0.length ≤ c0_0) (hr1 : Kd.C (Kd.int .i64) w A1 l1.length l1) (hc1 : l1.length ≤ c1) (h : forecourtref01_below.f k l0_0 a0_1 l1 a2 = some (r1, r2)) :
  Calls Try.prog 67 #[.agg #[.slice A0_0 l0_0.length c0_0, .int .i64 a0_1], .slice A1 l1.length c1, .int .i64 a2] w fun e w' => e = .returned (.tuple #[.int .i64 r1, .int .i64 r2]) ∧ Below w.heap.size w w' := by
 have hu24 := Try.underlying24
 have HR0_0 := Aside0.mk hr0_0
 have HC0_0 := Aside0.mk hc0_0
 clear hr0_0 hc0_0
 have HR1 := Aside0.mk hr1
 have HC1 := Aside0.mk hc1
 clear hr1 hc1
 have HB := Aside0.mk (Below.refl w.heap.size w)
 have H : ((forecourtref01_piece.f k l0_0 a0_1 a2).bind fun t184 => (if 0 ≤ t184 then (if t184 < (l0_0.length : Int) then (if 0 ≤ (wrap64 (t184 + 1)) then (if (wrap64 (t184 + 1)) < (l0_0.length : Int) then (if t184 < (l1.length : Int) then (if (wrap64 (t184 + 1)) < (l1.length : Int) then (some (wrap64 ((wrap64 ((rd l1 t184) * (wrap64 (((rd_T70 l0_0 (wrap64 (t184 + 1))).f0) - a2)))) + (wrap64 ((rd l1 (wrap64 (t184 + 1))) * (wrap64 (a2 - ((rd_T70 l0_0 t184).f0)))))), wrap64 (((rd_T70 l0_0 (wrap64 (t184 + 1))).f0) - ((rd_T70 l0_0 t184).f0)))) else (none)) else (none)) else (none)) else (none)) else (none)) else (none))) = some (r1, r2) := h
 clear h
 replace H := Option.bind_eq_some_iff.mp H
 obtain ⟨t184, A40, H⟩ := H
 replace H : (if 0 ≤ t184 then (if t184 < (l0_0.length : Int) then (if 0 ≤ (wrap64 (t184 + 1)) then (if (wrap64 (t184 + 1)) < (l0_0.length : Int) then (if t184 < (l1.length : Int) then (if (wrap64 (t184 + 1)) < (l1.length : Int) then (some (wrap64 ((wrap64 ((rd l1 t184) * (wrap64 (((rd_T70 l0_0 (wrap64 (t184 + 1))).f0) - a2)))) + (wrap64 ((rd l1 (wrap64 (t184 + 1))) * (wrap64 (a2 - ((rd_T70 l0_0 t184).f0)))))), wrap64 (((rd_T70 l0_0 (wrap64 (t184 + 1))).f0) - ((rd_T70 l0_0 t184).f0)))) else (none)) else (none)) else (none)) else (none)) else (none)) else (none)) = some (r1, r2) := H
 have A4 := Aside0.mk A40
 clear A40
 by_cases c5 : 0 ≤ t184
 ·rw [if_pos c5] at H
  have c5b0 : decide (0 ≤ t184) = true := decide_eq_true c5
  clear c5
  by_cases c6 : t184 < (l0_0.length : Int)
  ·rw [if_pos c6] at H
   have c6b0 : decide (t184 < (l0_0.length : Int)) = true := decide_eq_true c6
   clear c6
   obtain ⟨ji7, hji7⟩ : ∃ j_ : Int, (wrap64 (t184 + 1)) = j_ := ⟨_, rfl⟩
   replace H : (if 0 ≤ (ji7) then (if (ji7) < (l0_0.length : Int) then (if t184 < (l1.length : Int) then (if (ji7) < (l1.length : Int) then (some (wrap64 ((wrap64 ((rd l1 t184) * (wrap64 (((rd_T70 l0_0 (ji7)).f0) - a2)))) + (wrap64 ((rd l1 (ji7)) * (wrap64 (a2 - ((rd_T70 l0_0 t184).f0)))))), wrap64 (((rd_T70 l0_0 (ji7)).f0) - ((rd_T70 l0_0 t184).f0)))) else (none)) else (none)) else (none)) else (none)) = some (r1, r2) := by first | (rw [hji7] at H; exact H) | (simp only [hji7] at H ⊢; exact H)
   (try rw [hji7] at A4)
   have hji7w : (IntKind.i64.wrap (t184 + 1)) = ji7 := (i64_w _).trans hji7
   by_cases c8 : 0 ≤ (ji7)
   ·rw [if_pos c8] at H
    have c8b0 : decide (0 ≤ (ji7)) = true := decide_eq_true c8
    clear c8
    by_cases c9 : (ji7) < (l0_0.length : Int)
    ·rw [if_pos c9] at H
     have c9b0 : decide ((ji7) < (l0_0.length : Int)) = true := decide_eq_true c9
     clear c9
     by_cases c10 : t184 < (l1.length : Int)
     ·rw [if_pos c10] at H
      have c10b0 : decide (t184 < (l1.length : Int)) = true := decide_eq_true c10
      clear c10
      by_cases c11 : (ji7) < (l1.length : Int)
      ·rw [if_pos c11] at H
       have c11b0 : decide ((ji7) < (l1.length : Int)) = true := decide_eq_true c11
       clear c11
       simp only [Option.some.injEq, Prod.mk.injEq] at H
       obtain ⟨rfl, rfl⟩ := H
       go_enter Try.func67, Try.ntmps67
       go_wp2_with (first | ((with_reducible refine gate_dst (N := 3) rfl ?_); refine box_event ?hg (N := 3) ?hd (cs := #[.slice A0_0 l0_0.length c0_0, .int .i64 a0_1]) (t := 24) ?hr ?_; (case hd => rfl); (case hg => rfl); (case hr => first | (go_simp; done) | (go_simp; rfl)); intro gb183 hg w12 hbox hb; have n0_ := Aside0.mk (below_step qd3 hb); have n1_ := Aside0.mk (hbox); have n2_ := Aside0.mk ((by rw [hg]; exact (below_size qd3) : w.heap.size ≤ gb183)); have n3_ := Aside0.mk ((by rw [hg]; exact (below_size qd3) : w.heap.size ≤ gb183)); clear HB; have HB := n0_; have BK183 := n1_; have GW183 := n2_; have GE183 := n3_; clear n0_ n1_ n2_ n3_; clear hb hbox hg; have hcz13_0 : w12.cell? ⟨gb183, 0, none⟩ = some (.slice A0_0 l0_0.length c0_0) := (blk_cell BK183.out 0).trans rfl; have hcz13_1 : w12.cell? ⟨gb183, 1, none⟩ = some (.int .i64 a0_1) := (blk_cell BK183.out 1).trans rfl; have hfz13_0 := blk_frozen BK183.out 0; have hfz13_1 := blk_frozen BK183.out 1) | (go_at_call 81; (with_reducible refine (forecourtref01_piece.calls k _ _ l0_0 a0_1 a2 t184 _ ?side1 ?side2 A4.out).mono ?_); (case side1 => (exact (Kd.C_below HR0_0.out HB.out))); (case side2 => exact HC0_0.out); rintro e w14 ⟨rfl, hb⟩; have n0_ := Aside0.mk (blk_below (g := gb183) (o := .cells #[.slice A0_0 l0_0.length c0_0, .int .i64 a0_1] 24 (0, 0)) (by exact BK183.out) hb); have n1_ := Aside0.mk (below_step qd3 hb); clear BK183; clear HB; have BK183 := n0_; have HB := n1_; clear n0_ n1_; (try clear hb); (try clear hb2); (try clear hk); (try clear hi); have hcz15_0 : w14.cell? ⟨gb183, 0, none⟩ = some (.slice A0_0 l0_0.length c0_0) := (blk_cell BK183.out 0).trans rfl; have hcz15_1 : w14.cell? ⟨gb183, 1, none⟩ = some (.int .i64 a0_1) := (blk_cell BK183.out 1).trans rfl; have hfz15_0 := blk_frozen BK183.out 0; have hfz15_1 := blk_frozen BK183.out 1; have p185 : 0 ≤ (t184 : Int) := of_decide_eq_true qd1; have q185 : t184 < (l0_0.length : Int) := of_decide_eq_true qd1; obtain ⟨ad185, e185, hx185_0, hx185_1, hx185_2⟩ := at_T70 HR0_0.out t184 p185 q185; cases e185; replace hx185_0 := (HB.out.cell (World.block_lt_of_cell? w _ hx185_0)).trans hx185_0; replace hx185_1 := (HB.out.cell (World.block_lt_of_cell? w _ hx185_1)).trans hx185_1; replace hx185_2 := (HB.out.cell (World.block_lt_of_cell? w _ hx185_2)).trans hx185_2; replace p185 := eq_true p185; replace q185 := eq_true q185; have p186 : 0 ≤ ((ji7) : Int) := of_decide_eq_true qd1; have q186 : (ji7) < (l0_0.length : Int) := of_decide_eq_true qd1; obtain ⟨ad186, e186, hx186_0, hx186_1, hx186_2⟩ := at_T70 HR0_0.out (ji7) p186 q186; obtain rfl : ad185 = ad186 := (by injection e186); replace hx186_0 := (HB.out.cell (World.block_lt_of_cell? w _ hx186_0)).trans hx186_0; replace hx186_1 := (HB.out.cell (World.block_lt_of_cell? w _ hx186_1)).trans hx186_1; replace hx186_2 := (HB.out.cell (World.block_lt_of_cell? w _ hx186_2)).trans hx186_2; replace p186 := eq_true p186; replace q186 := eq_true q186; have p187 : 0 ≤ (t184 : Int) := of_decide_eq_true qd1; have q187 : t184 < (l1.length : Int) := of_decide_eq_true qd1; obtain ⟨ad187, e187, hx187_0⟩ := Kd.at_int HR1.out t184 p187 q187; cases e187; replace hx187_0 := (HB.out.cell (World.block_lt_of_cell? w _ hx187_0)).trans hx187_0; replace p187 := eq_true p187; replace q187 := eq_true q187; have p188 : 0 ≤ ((ji7) : Int) := of_decide_eq_true qd1; have q188 : (ji7) < (l1.length : Int) := of_decide_eq_true qd1; obtain ⟨ad188, e188, hx188_0⟩ := Kd.at_int HR1.out (ji7) p188 q188; obtain rfl : ad187 = ad188 := (by injection e188); replace hx188_0 := (HB.out.cell (World.block_lt_of_cell? w _ hx188_0)).trans hx188_0; replace p188 := eq_true p188; replace q188 := eq_true q188))
       repeat (go_quiet (fail); try go_wp2_with fail)
       go_ret2
       exact ⟨by first | rfl | (simp [errW_none, errW_some] <;> rfl) | (simp only [← hji7]; first | rfl | (simp [errW_none, errW_some] <;> rfl)) | (simp [*, errW_none, errW_some] <;> rfl), by (with_reducible apply pw_below_drewN; with_reducible apply pw_below_drewN; with_reducible exact HB.out)⟩
      rw [if_neg c11] at H
      exact absurd H (by simp)
     rw [if_neg c10] at H
     exact absurd H (by simp)
    rw [if_neg c9] at H
    exact absurd H (by simp)
   rw [if_neg c8] at H
   exact absurd H (by simp)
  rw [if_neg c6] at H
  exact absurd H (by simp)
 rw [if_neg c5] at H
 exact absurd H (by simp)
end Go.Proofs.Ytpkajhmchcbbhaa.P
end
