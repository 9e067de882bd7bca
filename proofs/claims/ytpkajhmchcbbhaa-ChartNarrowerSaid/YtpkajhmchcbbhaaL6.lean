/- Part 6 of 44. -/
import Derived.Test.YtpkajhmchcbbhaaL0
import Derived.Test.YtpkajhmchcbbhaaL5
set_option linter.unusedSimpArgs false
set_option linter.unusedVariables false
section
namespace Go.Proofs.Ytpkajhmchcbbhaa.P
open Go.RowKit Go.Proofs.YtpkajhmchcbbhaaW.PrintWords Go.Proofs.YtpkajhmchcbbhaaW.PrintLast Go.Proofs.YtpkajhmchcbbhaaW.PrintMore
attribute [local go_sem] max2_int min2_int max_two min_two max_three min_three max_four min_four
mutual
def forecourtref01_CheckTank.j0 : Nat → Bool → List (S70) → Int → Option (Int)
 | 0, _, _, _ => none
 | k + 1, x14, x104000, x104001 => if x14 = true then (some 6) else (forecourtref01_CheckTank.l0 k 0 x104000 x104001)
def forecourtref01_CheckTank.l0 : Nat → Int → List (S70) → Int → Option (Int)
 | 0, _, _, _ => none
 | k + 1, x3, x104000, x104001 => if x3 < (x104000.length : Int) then (if 0 ≤ x3 then (if ((rd_T70 x104000 x3).f0) < 0 then (some 3) else (if ((rd_T70 x104000 x3).f0) > 4000 then (some 3) else (if x3 > 0 then (if 0 ≤ (wrap64 (x3 - 1)) then (if (wrap64 (x3 - 1)) < (x104000.length : Int) then (if ((rd_T70 x104000 x3).f0) ≤ ((rd_T70 x104000 (wrap64 (x3 - 1))).f0) then (some 3) else (forecourtref01_CheckTank.l0 k (wrap64 (x3 + 1)) x104000 x104001)) else (none)) else (none)) else (forecourtref01_CheckTank.l0 k (wrap64 (x3 + 1)) x104000 x104001)))) else (none)) else (forecourtref01_CheckTank.l1 k 0 x104000 x104001)
def forecourtref01_CheckTank.l1 : Nat → Int → List (S70) → Int → Option (Int)
 | 0, _, _, _ => none
 | k + 1, x4, x104000, x104001 => if x4 < (x104000.length : Int) then (if 0 ≤ x4 then ((forecourtref01_valid.f ((rd_T70 x104000 x4).f1.f0) ((rd_T70 x104000 x4).f1.f1) 0 100000).bind fun t109 => (if t109 = true then (forecourtref01_CheckTank.l1 k (wrap64 (x4 + 1)) x104000 x104001) else (some 2))) else (none)) else (if x104001 < 0 then (some 2) else (if x104001 > 50 then (some 2) else (some 0)))
end
def forecourtref01_CheckTank.f (k : Nat) (l0_0 : List (S70)) (a0_1 : Int) : Option (Int) := if (l0_0.length : Int) < 2 then (forecourtref01_CheckTank.j0 k true l0_0 a0_1) else (forecourtref01_CheckTank.j0 k (decide ((l0_0.length : Int) > 16)) l0_0 a0_1)
set_option maxHeartbeats 8000000 in
set_option maxRecDepth 100000 in
theorem forecourtref01_CheckTank.calls (k : Nat) (A0_0 : Option Addr) (c0_0 : Nat) (l0_0 : List (S70)) (a0_1 : Int) (r : Int) (w : World) (hr0_0 : Kd.C k70 w A0_0 l0_0.length l0_0) (hc0_0 : l0_0.length ≤ c0_0) (h : forecourtref01_CheckTank.f k l0_0 a0_1 = some r) :
  Calls Try.prog 22 #[.agg #[.slice A0_0 l0_0.length c0_0, .int .i64 a0_1]] w fun e w' => e = .returned (.int .i64 r) ∧ Below w.heap.size w w' := by
 have hu24 := Try.underlying24
 have hu43 := Try.underlying43
 have HR0_0 := Aside0.mk hr0_0
 have HC0_0 := Aside0.mk hc0_0
 clear hr0_0 hc0_0
 have HB := Aside0.mk (Below.refl w.heap.size w)
 have H : (if (l0_0.length : Int) < 2 then (forecourtref01_CheckTank.j0 k true l0_0 a0_1) else (forecourtref01_CheckTank.j0 k (decide ((l0_0.length : Int) > 16)) l0_0 a0_1)) = some r := h
 clear h
 have HC2 := Aside0.mk H
 clear H
 go_enter Try.func22, Try.ntmps22
 go_upto_region 1 with (first | ((with_reducible refine gate_dst (N := 1) rfl ?_); (try (refine gate_guard (by rfl) ?_; dsimp only)); refine box_event ?hg (N := 1) ?hd (cs := #[.slice A0_0 l0_0.length c0_0, .int .i64 a0_1]) (t := 24) ?hr ?_; (case hd => rfl); (case hg => rfl); (case hr => first | (go_simp; done) | (go_simp; rfl)); intro gb103 hg w3 hbox hb; have n0_ := Aside0.mk (below_step ql3 hb); have n1_ := Aside0.mk (hbox); have n2_ := Aside0.mk ((by rw [hg]; exact (below_size ql3) : w.heap.size ≤ gb103)); have n3_ := Aside0.mk ((by rw [hg]; exact (below_size ql3) : w.heap.size ≤ gb103)); clear HB; have HB := n0_; have BK103 := n1_; have GW103 := n2_; have GE103 := n3_; clear n0_ n1_ n2_ n3_; clear hb hbox hg))
 repeat (go_quiet (fail); go_upto_region 1 with (first | ((with_reducible refine gate_dst (N := 1) rfl ?_); (try (refine gate_guard (by rfl) ?_; dsimp only)); refine box_event ?hg (N := 1) ?hd (cs := #[.slice A0_0 l0_0.length c0_0, .int .i64 a0_1]) (t := 24) ?hr ?_; (case hd => rfl); (case hg => rfl); (case hr => first | (go_simp; done) | (go_simp; rfl)); intro gb103 hg w3 hbox hb; have n0_ := Aside0.mk (below_step (by skip) hb); have n1_ := Aside0.mk (hbox); have n2_ := Aside0.mk ((by rw [hg]; exact (below_size (by skip)) : w.heap.size ≤ gb103)); have n3_ := Aside0.mk ((by rw [hg]; exact (below_size (by skip)) : w.heap.size ≤ gb103)); clear HB; have HB := n0_; have BK103 := n1_; have GW103 := n2_; have GE103 := n3_; clear n0_ n1_ n2_ n3_; clear hb hbox hg)))
 (try simp only [Act.put, List.setIfInBounds_toArray, List.set_cons_zero, List.set_cons_succ])
 go_cut [14] (fun v14 wc => ∃ (kq : Nat) (x14_1 : Bool), v14 = .bool x14_1 ∧ Aside0 (forecourtref01_CheckTank.j0 kq x14_1 l0_0 a0_1 = some r) ∧ Aside0 (kq ≤ k) ∧ Aside0 (wc.heap[gb103]? = some (.cells #[(.slice A0_0 l0_0.length c0_0), .int .i64 a0_1] 24 (0, 0))) ∧ Aside0 (Below w.heap.size w wc))
 case first =>
  have H := HC2.out
  clear HC2
  by_cases c4 : (l0_0.length : Int) < 2
  ·rw [if_pos c4] at H
   have c4b0 : decide ((l0_0.length : Int) < 2) = true := decide_eq_true c4
   have c4b1 : decide (l0_0.length < 2) = true := decide_eq_true (by omega)
   clear c4
   (first | rw [c4b0] | (simp only [i64_w, i32_w]; rw [c4b0]) | skip)
   have H' := Aside0.mk H
   clear H
   have hcz5_0 : w3.cell? ⟨gb103, 0, none⟩ = some (.slice A0_0 l0_0.length c0_0) := (blk_cell BK103.out 0).trans rfl
   have hcz5_1 : w3.cell? ⟨gb103, 1, none⟩ = some (.int .i64 a0_1) := (blk_cell BK103.out 1).trans rfl
   have hfz5_0 := blk_frozen BK103.out 0
   have hfz5_1 := blk_frozen BK103.out 1
   go_wp2
   repeat (go_quiet (fail); try go_wp2)
   go_meet
   case rel => exact ⟨_, (true), ql4, H', ⟨by first | omega | exact Nat.le_refl _⟩, ⟨by (skip); exact BK103.out⟩, ⟨by (with_reducible exact HB.out)⟩⟩
  rw [if_neg c4] at H
  have c4b0 : decide ((l0_0.length : Int) < 2) = false := decide_eq_false c4
  have c4b1 : decide (l0_0.length < 2) = false := decide_eq_false (by omega)
  clear c4
  (first | rw [c4b0] | (simp only [i64_w, i32_w]; rw [c4b0]) | skip)
  have H' := Aside0.mk H
  clear H
  have hcz6_0 : w3.cell? ⟨gb103, 0, none⟩ = some (.slice A0_0 l0_0.length c0_0) := (blk_cell BK103.out 0).trans rfl
  have hcz6_1 : w3.cell? ⟨gb103, 1, none⟩ = some (.int .i64 a0_1) := (blk_cell BK103.out 1).trans rfl
  have hfz6_0 := blk_frozen BK103.out 0
  have hfz6_1 := blk_frozen BK103.out 1
  go_wp2
  repeat (go_quiet (fail); try go_wp2)
  go_meet
  case rel => exact ⟨_, (decide ((l0_0.length : Int) > 16)), ql4, H', ⟨by first | omega | exact Nat.le_refl _⟩, ⟨by (skip); exact BK103.out⟩, ⟨by (with_reducible exact HB.out)⟩⟩
 case rest =>
  clear HC2
  try clear c2
  try clear p2
  try clear c4
  try clear c4b0
  try clear c4b1
  try clear hcz5_0
  try clear hcz5_1
  try clear hcz6_0
  try clear hcz6_1
  try clear hfz5_0
  try clear hfz5_1
  try clear hfz6_0
  try clear hfz6_1
  obtain ⟨kq, x14_1, rfl, HA, HJ1, BK103, HB⟩ := hcut
  cases kq with
  | zero => exact absurd HA.out (by simp [forecourtref01_CheckTank.j0])
  | succ kj1 =>
   have H := HA.out
   clear HA
   simp only [forecourtref01_CheckTank.j0] at H
   by_cases c7 : x14_1 = true
   ·subst c7
    have H1 : (some 6) = some r := by rw [if_pos rfl] at H; exact H
    clear H
    have H := H1
    clear H1
    obtain rfl := Option.some.inj H
    go_wp2
    repeat (go_quiet (fail); try go_wp2)
    go_ret
    exact ⟨by first | rfl | (simp [errW_none, errW_some] <;> rfl) | (simp [*, errW_none, errW_some] <;> rfl), by (with_reducible exact HB.out)⟩
   replace c7 := Bool.eq_false_iff.mpr c7
   subst c7
   have H1 : (forecourtref01_CheckTank.l0 kj1 0 l0_0 a0_1) = some r := by rw [if_neg (show ¬ (false = true) by decide)] at H; exact H
   clear H
   have H := H1
   clear H1
   have H' := Aside0.mk H
   clear H
   go_wp2
   repeat (go_quiet (fail); try go_wp2)
   go_loopg [3] kj1 (fun kq v3 w' => ∃ (x3_2 : Int), v3 = .int .i64 x3_2 ∧ Aside0 (forecourtref01_CheckTank.l0 kq x3_2 l0_0 a0_1 = some r) ∧ Aside0 (kq ≤ kj1) ∧ Aside0 (w'.heap[gb103]? = some (.cells #[(.slice A0_0 l0_0.length c0_0), .int .i64 a0_1] 24 (0, 0))) ∧ Aside0 (Below w.heap.size w w'))
   case atStart => exact ⟨(0), ql4, H', ⟨Nat.le_refl _⟩, ⟨by (skip); exact BK103.out⟩, ⟨by (with_reducible exact HB.out)⟩⟩
   case round =>
    clear H'
    try clear c2
    try clear p2
    try clear c4
    try clear c4b0
    try clear c4b1
    try clear c7
    try clear hcz5_0
    try clear hcz5_1
    try clear hcz6_0
    try clear hcz6_1
    try clear hfz5_0
    try clear hfz5_1
    try clear hfz6_0
    try clear hfz6_1
    try clear p2
    obtain ⟨x3_2, rfl, HA, HK2, BK103, HB⟩ := hrel
    cases gk with
    | zero => exact absurd HA.out (by simp [forecourtref01_CheckTank.l0])
    | succ k2 =>
     have H := HA.out
     clear HA
     simp only [forecourtref01_CheckTank.l0] at H
     by_cases c8 : x3_2 < (l0_0.length : Int)
     ·rw [if_pos c8] at H
      have c8b0 : decide (x3_2 < (l0_0.length : Int)) = true := decide_eq_true c8
      clear c8
      by_cases c9 : 0 ≤ x3_2
      ·rw [if_pos c9] at H
       have c9b0 : decide (0 ≤ x3_2) = true := decide_eq_true c9
       clear c9
       by_cases c10 : ((rd_T70 l0_0 x3_2).f0) < 0
       ·rw [if_pos c10] at H
        have c10b0 : decide (((rd_T70 l0_0 x3_2).f0) < 0) = true := decide_eq_true c10
        clear c10
        obtain rfl := Option.some.inj H
        have hcz11_0 : wr.cell? ⟨gb103, 0, none⟩ = some (.slice A0_0 l0_0.length c0_0) := (blk_cell BK103.out 0).trans rfl
        have hcz11_1 : wr.cell? ⟨gb103, 1, none⟩ = some (.int .i64 a0_1) := (blk_cell BK103.out 1).trans rfl
        have hfz11_0 := blk_frozen BK103.out 0
        have hfz11_1 := blk_frozen BK103.out 1
        have p104 : 0 ≤ (x3_2 : Int) := of_decide_eq_true ql1
        have q104 : x3_2 < (l0_0.length : Int) := of_decide_eq_true ql1
        obtain ⟨ad104, e104, hx104_0, hx104_1, hx104_2⟩ := at_T70 HR0_0.out x3_2 p104 q104
        cases e104
        replace hx104_0 := (HB.out.cell (World.block_lt_of_cell? w _ hx104_0)).trans hx104_0
        replace hx104_1 := (HB.out.cell (World.block_lt_of_cell? w _ hx104_1)).trans hx104_1
        replace hx104_2 := (HB.out.cell (World.block_lt_of_cell? w _ hx104_2)).trans hx104_2
        replace p104 := eq_true p104
        replace q104 := eq_true q104
        go_wp2
        repeat (go_quiet (fail); try go_wp2)
        go_ret
        exact ⟨by first | rfl | (simp [errW_none, errW_some] <;> rfl) | (simp [*, errW_none, errW_some] <;> rfl), by (with_reducible apply pw_below_drewN; with_reducible exact HB.out)⟩
       rw [if_neg c10] at H
       have c10b0 : decide (((rd_T70 l0_0 x3_2).f0) < 0) = false := decide_eq_false c10
       clear c10
       by_cases c12 : ((rd_T70 l0_0 x3_2).f0) > 4000
       ·rw [if_pos c12] at H
        have c12b0 : decide (4000 < ((rd_T70 l0_0 x3_2).f0)) = true := decide_eq_true c12
        clear c12
        obtain rfl := Option.some.inj H
        have hcz13_0 : wr.cell? ⟨gb103, 0, none⟩ = some (.slice A0_0 l0_0.length c0_0) := (blk_cell BK103.out 0).trans rfl
        have hcz13_1 : wr.cell? ⟨gb103, 1, none⟩ = some (.int .i64 a0_1) := (blk_cell BK103.out 1).trans rfl
        have hfz13_0 := blk_frozen BK103.out 0
        have hfz13_1 := blk_frozen BK103.out 1
        have p104 : 0 ≤ (x3_2 : Int) := of_decide_eq_true ql1
        have q104 : x3_2 < (l0_0.length : Int) := of_decide_eq_true ql1
        obtain ⟨ad104, e104, hx104_0, hx104_1, hx104_2⟩ := at_T70 HR0_0.out x3_2 p104 q104
        cases e104
        replace hx104_0 := (HB.out.cell (World.block_lt_of_cell? w _ hx104_0)).trans hx104_0
        replace hx104_1 := (HB.out.cell (World.block_lt_of_cell? w _ hx104_1)).trans hx104_1
        replace hx104_2 := (HB.out.cell (World.block_lt_of_cell? w _ hx104_2)).trans hx104_2
        replace p104 := eq_true p104
        replace q104 := eq_true q104
        have p105 : 0 ≤ (x3_2 : Int) := of_decide_eq_true ql1
        have q105 : x3_2 < (l0_0.length : Int) := of_decide_eq_true ql1
        obtain ⟨ad105, e105, hx105_0, hx105_1, hx105_2⟩ := at_T70 HR0_0.out x3_2 p105 q105
        obtain rfl : ad104 = ad105 := (by injection e105)
        replace hx105_0 := (HB.out.cell (World.block_lt_of_cell? w _ hx105_0)).trans hx105_0
        replace hx105_1 := (HB.out.cell (World.block_lt_of_cell? w _ hx105_1)).trans hx105_1
        replace hx105_2 := (HB.out.cell (World.block_lt_of_cell? w _ hx105_2)).trans hx105_2
        replace p105 := eq_true p105
        replace q105 := eq_true q105
        go_wp2
        repeat (go_quiet (fail); try go_wp2)
        go_ret
        exact ⟨by first | rfl | (simp [errW_none, errW_some] <;> rfl) | (simp [*, errW_none, errW_some] <;> rfl), by (with_reducible apply pw_below_drewN; with_reducible exact HB.out)⟩
       rw [if_neg c12] at H
       have c12b0 : decide (4000 < ((rd_T70 l0_0 x3_2).f0)) = false := decide_eq_false c12
       clear c12
       by_cases c14 : x3_2 > 0
       ·rw [if_pos c14] at H
        have c14b0 : decide (0 < x3_2) = true := decide_eq_true c14
        clear c14
        obtain ⟨ji15, hji15⟩ : ∃ j_ : Int, (wrap64 (x3_2 - 1)) = j_ := ⟨_, rfl⟩
        replace H : (if 0 ≤ (ji15) then (if (ji15) < (l0_0.length : Int) then (if ((rd_T70 l0_0 x3_2).f0) ≤ ((rd_T70 l0_0 (ji15)).f0) then (some 3) else (forecourtref01_CheckTank.l0 k2 (wrap64 (x3_2 + 1)) l0_0 a0_1)) else (none)) else (none)) = some r := by first | (rw [hji15] at H; exact H) | (simp only [hji15] at H ⊢; exact H)
        have hji15w : (IntKind.i64.wrap (x3_2 - 1)) = ji15 := (i64_w _).trans hji15
        by_cases c16 : 0 ≤ (ji15)
        ·rw [if_pos c16] at H
         have c16b0 : decide (0 ≤ (ji15)) = true := decide_eq_true c16
         clear c16
         by_cases c17 : (ji15) < (l0_0.length : Int)
         ·rw [if_pos c17] at H
          have c17b0 : decide ((ji15) < (l0_0.length : Int)) = true := decide_eq_true c17
          clear c17
          by_cases c18 : ((rd_T70 l0_0 x3_2).f0) ≤ ((rd_T70 l0_0 (ji15)).f0)
          ·rw [if_pos c18] at H
           have c18b0 : decide (((rd_T70 l0_0 x3_2).f0) ≤ ((rd_T70 l0_0 (ji15)).f0)) = true := decide_eq_true c18
           clear c18
           obtain rfl := Option.some.inj H
           have hcz19_0 : wr.cell? ⟨gb103, 0, none⟩ = some (.slice A0_0 l0_0.length c0_0) := (blk_cell BK103.out 0).trans rfl
           have hcz19_1 : wr.cell? ⟨gb103, 1, none⟩ = some (.int .i64 a0_1) := (blk_cell BK103.out 1).trans rfl
           have hfz19_0 := blk_frozen BK103.out 0
           have hfz19_1 := blk_frozen BK103.out 1
           have p104 : 0 ≤ (x3_2 : Int) := of_decide_eq_true ql1
           have q104 : x3_2 < (l0_0.length : Int) := of_decide_eq_true ql1
           obtain ⟨ad104, e104, hx104_0, hx104_1, hx104_2⟩ := at_T70 HR0_0.out x3_2 p104 q104
           cases e104
           replace hx104_0 := (HB.out.cell (World.block_lt_of_cell? w _ hx104_0)).trans hx104_0
           replace hx104_1 := (HB.out.cell (World.block_lt_of_cell? w _ hx104_1)).trans hx104_1
           replace hx104_2 := (HB.out.cell (World.block_lt_of_cell? w _ hx104_2)).trans hx104_2
           replace p104 := eq_true p104
           replace q104 := eq_true q104
           have p105 : 0 ≤ (x3_2 : Int) := of_decide_eq_true ql1
           have q105 : x3_2 < (l0_0.length : Int) := of_decide_eq_true ql1
           obtain ⟨ad105, e105, hx105_0, hx105_1, hx105_2⟩ := at_T70 HR0_0.out x3_2 p105 q105
           obtain rfl : ad104 = ad105 := (by injection e105)
           replace hx105_0 := (HB.out.cell (World.block_lt_of_cell? w _ hx105_0)).trans hx105_0
           replace hx105_1 := (HB.out.cell (World.block_lt_of_cell? w _ hx105_1)).trans hx105_1
           replace hx105_2 := (HB.out.cell (World.block_lt_of_cell? w _ hx105_2)).trans hx105_2
           replace p105 := eq_true p105
           replace q105 := eq_true q105
           have p106 : 0 ≤ (x3_2 : Int) := of_decide_eq_true ql1
           have q106 : x3_2 < (l0_0.length : Int) := of_decide_eq_true ql1
           obtain ⟨ad106, e106, hx106_0, hx106_1, hx106_2⟩ := at_T70 HR0_0.out x3_2 p106 q106
           obtain rfl : ad104 = ad106 := (by injection e106)
           replace hx106_0 := (HB.out.cell (World.block_lt_of_cell? w _ hx106_0)).trans hx106_0
           replace hx106_1 := (HB.out.cell (World.block_lt_of_cell? w _ hx106_1)).trans hx106_1
           replace hx106_2 := (HB.out.cell (World.block_lt_of_cell? w _ hx106_2)).trans hx106_2
           replace p106 := eq_true p106
           replace q106 := eq_true q106
           have p107 : 0 ≤ ((ji15) : Int) := of_decide_eq_true ql1
           have q107 : (ji15) < (l0_0.length : Int) := of_decide_eq_true ql1
           obtain ⟨ad107, e107, hx107_0, hx107_1, hx107_2⟩ := at_T70 HR0_0.out (ji15) p107 q107
           obtain rfl : ad104 = ad107 := (by injection e107)
           replace hx107_0 := (HB.out.cell (World.block_lt_of_cell? w _ hx107_0)).trans hx107_0
           replace hx107_1 := (HB.out.cell (World.block_lt_of_cell? w _ hx107_1)).trans hx107_1
           replace hx107_2 := (HB.out.cell (World.block_lt_of_cell? w _ hx107_2)).trans hx107_2
           replace p107 := eq_true p107
           replace q107 := eq_true q107
           go_wp2
           repeat (go_quiet (fail); try go_wp2)
           go_ret
           exact ⟨by first | rfl | (simp [errW_none, errW_some] <;> rfl) | (simp only [← hji15]; first | rfl | (simp [errW_none, errW_some] <;> rfl)) | (simp [*, errW_none, errW_some] <;> rfl), by (with_reducible apply pw_below_drewN; with_reducible exact HB.out)⟩
          rw [if_neg c18] at H
          have c18b0 : decide (((rd_T70 l0_0 x3_2).f0) ≤ ((rd_T70 l0_0 (ji15)).f0)) = false := decide_eq_false c18
          clear c18
          have H' := Aside0.mk H
          clear H
          have hcz20_0 : wr.cell? ⟨gb103, 0, none⟩ = some (.slice A0_0 l0_0.length c0_0) := (blk_cell BK103.out 0).trans rfl
          have hcz20_1 : wr.cell? ⟨gb103, 1, none⟩ = some (.int .i64 a0_1) := (blk_cell BK103.out 1).trans rfl
          have hfz20_0 := blk_frozen BK103.out 0
          have hfz20_1 := blk_frozen BK103.out 1
          have p104 : 0 ≤ (x3_2 : Int) := of_decide_eq_true ql1
          have q104 : x3_2 < (l0_0.length : Int) := of_decide_eq_true ql1
          obtain ⟨ad104, e104, hx104_0, hx104_1, hx104_2⟩ := at_T70 HR0_0.out x3_2 p104 q104
          cases e104
          replace hx104_0 := (HB.out.cell (World.block_lt_of_cell? w _ hx104_0)).trans hx104_0
          replace hx104_1 := (HB.out.cell (World.block_lt_of_cell? w _ hx104_1)).trans hx104_1
          replace hx104_2 := (HB.out.cell (World.block_lt_of_cell? w _ hx104_2)).trans hx104_2
          replace p104 := eq_true p104
          replace q104 := eq_true q104
          have p105 : 0 ≤ (x3_2 : Int) := of_decide_eq_true ql1
          have q105 : x3_2 < (l0_0.length : Int) := of_decide_eq_true ql1
          obtain ⟨ad105, e105, hx105_0, hx105_1, hx105_2⟩ := at_T70 HR0_0.out x3_2 p105 q105
          obtain rfl : ad104 = ad105 := (by injection e105)
          replace hx105_0 := (HB.out.cell (World.block_lt_of_cell? w _ hx105_0)).trans hx105_0
          replace hx105_1 := (HB.out.cell (World.block_lt_of_cell? w _ hx105_1)).trans hx105_1
          replace hx105_2 := (HB.out.cell (World.block_lt_of_cell? w _ hx105_2)).trans hx105_2
          replace p105 := eq_true p105
          replace q105 := eq_true q105
          have p106 : 0 ≤ (x3_2 : Int) := of_decide_eq_true ql1
          have q106 : x3_2 < (l0_0.length : Int) := of_decide_eq_true ql1
          obtain ⟨ad106, e106, hx106_0, hx106_1, hx106_2⟩ := at_T70 HR0_0.out x3_2 p106 q106
          obtain rfl : ad104 = ad106 := (by injection e106)
          replace hx106_0 := (HB.out.cell (World.block_lt_of_cell? w _ hx106_0)).trans hx106_0
          replace hx106_1 := (HB.out.cell (World.block_lt_of_cell? w _ hx106_1)).trans hx106_1
          replace hx106_2 := (HB.out.cell (World.block_lt_of_cell? w _ hx106_2)).trans hx106_2
          replace p106 := eq_true p106
          replace q106 := eq_true q106
          have p107 : 0 ≤ ((ji15) : Int) := of_decide_eq_true ql1
          have q107 : (ji15) < (l0_0.length : Int) := of_decide_eq_true ql1
          obtain ⟨ad107, e107, hx107_0, hx107_1, hx107_2⟩ := at_T70 HR0_0.out (ji15) p107 q107
          obtain rfl : ad104 = ad107 := (by injection e107)
          replace hx107_0 := (HB.out.cell (World.block_lt_of_cell? w _ hx107_0)).trans hx107_0
          replace hx107_1 := (HB.out.cell (World.block_lt_of_cell? w _ hx107_1)).trans hx107_1
          replace hx107_2 := (HB.out.cell (World.block_lt_of_cell? w _ hx107_2)).trans hx107_2
          replace p107 := eq_true p107
          replace q107 := eq_true q107
          go_wp2
          repeat (go_quiet (fail); try go_wp2)
          go_roundg k2
          case measure => have := HJ1.out; have := HK2.out; omega
          case rel => exact ⟨(wrap64 (x3_2 + 1)), ql4, H', ⟨by have := HJ1.out; have := HK2.out; omega⟩, ⟨by ((with_reducible refine blk_drewN ?_ _)); exact BK103.out⟩, ⟨by (with_reducible apply pw_below_drewN; with_reducible exact HB.out)⟩⟩
         rw [if_neg c17] at H
         exact absurd H (by simp)
        rw [if_neg c16] at H
        exact absurd H (by simp)
       rw [if_neg c14] at H
       have c14b0 : decide (0 < x3_2) = false := decide_eq_false c14
       clear c14
       have H' := Aside0.mk H
       clear H
       have hcz21_0 : wr.cell? ⟨gb103, 0, none⟩ = some (.slice A0_0 l0_0.length c0_0) := (blk_cell BK103.out 0).trans rfl
       have hcz21_1 : wr.cell? ⟨gb103, 1, none⟩ = some (.int .i64 a0_1) := (blk_cell BK103.out 1).trans rfl
       have hfz21_0 := blk_frozen BK103.out 0
       have hfz21_1 := blk_frozen BK103.out 1
       have p104 : 0 ≤ (x3_2 : Int) := of_decide_eq_true ql1
       have q104 : x3_2 < (l0_0.length : Int) := of_decide_eq_true ql1
       obtain ⟨ad104, e104, hx104_0, hx104_1, hx104_2⟩ := at_T70 HR0_0.out x3_2 p104 q104
       cases e104
       replace hx104_0 := (HB.out.cell (World.block_lt_of_cell? w _ hx104_0)).trans hx104_0
       replace hx104_1 := (HB.out.cell (World.block_lt_of_cell? w _ hx104_1)).trans hx104_1
       replace hx104_2 := (HB.out.cell (World.block_lt_of_cell? w _ hx104_2)).trans hx104_2
       replace p104 := eq_true p104
       replace q104 := eq_true q104
       have p105 : 0 ≤ (x3_2 : Int) := of_decide_eq_true ql1
       have q105 : x3_2 < (l0_0.length : Int) := of_decide_eq_true ql1
       obtain ⟨ad105, e105, hx105_0, hx105_1, hx105_2⟩ := at_T70 HR0_0.out x3_2 p105 q105
       obtain rfl : ad104 = ad105 := (by injection e105)
       replace hx105_0 := (HB.out.cell (World.block_lt_of_cell? w _ hx105_0)).trans hx105_0
       replace hx105_1 := (HB.out.cell (World.block_lt_of_cell? w _ hx105_1)).trans hx105_1
       replace hx105_2 := (HB.out.cell (World.block_lt_of_cell? w _ hx105_2)).trans hx105_2
       replace p105 := eq_true p105
       replace q105 := eq_true q105
       go_wp2
       repeat (go_quiet (fail); try go_wp2)
       go_roundg k2
       case measure => have := HJ1.out; have := HK2.out; omega
       case rel => exact ⟨(wrap64 (x3_2 + 1)), ql4, H', ⟨by have := HJ1.out; have := HK2.out; omega⟩, ⟨by ((with_reducible refine blk_drewN ?_ _)); exact BK103.out⟩, ⟨by (with_reducible apply pw_below_drewN; with_reducible exact HB.out)⟩⟩
      rw [if_neg c9] at H
      exact absurd H (by simp)
     rw [if_neg c8] at H
     have c8b0 : decide (x3_2 < (l0_0.length : Int)) = false := decide_eq_false c8
     clear c8
     have H' := Aside0.mk H
     clear H
     have hcz22_0 : wr.cell? ⟨gb103, 0, none⟩ = some (.slice A0_0 l0_0.length c0_0) := (blk_cell BK103.out 0).trans rfl
     have hcz22_1 : wr.cell? ⟨gb103, 1, none⟩ = some (.int .i64 a0_1) := (blk_cell BK103.out 1).trans rfl
     have hfz22_0 := blk_frozen BK103.out 0
     have hfz22_1 := blk_frozen BK103.out 1
     go_wp2
     repeat (go_quiet (fail); try go_wp2)
     go_loopg [4] k2 (fun kq v4 w' => ∃ (x4_3 : Int), v4 = .int .i64 x4_3 ∧ Aside0 (forecourtref01_CheckTank.l1 kq x4_3 l0_0 a0_1 = some r) ∧ Aside0 (kq ≤ k2) ∧ Aside0 (w'.heap[gb103]? = some (.cells #[(.slice A0_0 l0_0.length c0_0), .int .i64 a0_1] 24 (0, 0))) ∧ Aside0 (Below w.heap.size w w'))
     case atStart => exact ⟨(0), ql4, H', ⟨Nat.le_refl _⟩, ⟨by (skip); exact BK103.out⟩, ⟨by (with_reducible exact HB.out)⟩⟩
     case round =>
      clear H'
      try clear c1
      try clear p1
      try clear q1
      try clear hx1
      try clear c2
      try clear p2
      try clear c4
      try clear c4b0
      try clear c4b1
      try clear p6
      try clear c7
      try clear c8
      try clear c8b0
      try clear c9
      try clear c9b0
      try clear c10
      try clear c10b0
      try clear p10
      try clear q10
      try clear hx10
      try clear c12
      try clear c12b0
      try clear c14
      try clear c14b0
      try clear c16
      try clear c16b0
      try clear c17
      try clear c17b0
      try clear c18
      try clear c18b0
      try clear c22
      try clear hcz11_0
      try clear hcz11_1
      try clear hcz13_0
      try clear hcz13_1
      try clear hcz19_0
      try clear hcz19_1
      try clear hcz20_0
      try clear hcz20_1
      try clear hcz21_0
      try clear hcz21_1
      try clear hcz22_0
      try clear hcz22_1
      try clear hcz5_0
      try clear hcz5_1
      try clear hcz6_0
      try clear hcz6_1
      try clear hfz11_0
      try clear hfz11_1
      try clear hfz13_0
      try clear hfz13_1
      try clear hfz19_0
      try clear hfz19_1
      try clear hfz20_0
      try clear hfz20_1
      try clear hfz21_0
      try clear hfz21_1
      try clear hfz22_0
      try clear hfz22_1
      try clear hfz5_0
      try clear hfz5_1
      try clear hfz6_0
      try clear hfz6_1
      try clear hx104_0
      try clear hx104_1
      try clear hx104_2
      try clear hx105_0
      try clear hx105_1
      try clear hx105_2
      try clear hx106_0
      try clear hx106_1
      try clear hx106_2
      try clear hx107_0
      try clear hx107_1
      try clear hx107_2
      try clear p104
      try clear p105
      try clear p106
      try clear p107
      try clear p2
      try clear q104
      try clear q105
      try clear q106
      try clear q107
      obtain ⟨x4_3, rfl, HA, HK3, BK103, HB⟩ := hrel
      cases gk with
      | zero => exact absurd HA.out (by simp [forecourtref01_CheckTank.l1])
      | succ k3 =>
       have H := HA.out
       clear HA
       simp only [forecourtref01_CheckTank.l1] at H
       by_cases c23 : x4_3 < (l0_0.length : Int)
       ·rw [if_pos c23] at H
        have c23b0 : decide (x4_3 < (l0_0.length : Int)) = true := decide_eq_true c23
        clear c23
        by_cases c24 : 0 ≤ x4_3
        ·rw [if_pos c24] at H
         have c24b0 : decide (0 ≤ x4_3) = true := decide_eq_true c24
         clear c24
         replace H := Option.bind_eq_some_iff.mp H
         obtain ⟨t109, A250, H⟩ := H
         replace H : (if t109 = true then (forecourtref01_CheckTank.l1 k3 (wrap64 (x4_3 + 1)) l0_0 a0_1) else (some 2)) = some r := H
         have A25 := Aside0.mk A250
         clear A250
         by_cases c26 : t109 = true
         ·subst c26
          have H1 : (forecourtref01_CheckTank.l1 k3 (wrap64 (x4_3 + 1)) l0_0 a0_1) = some r := by rw [if_pos rfl] at H; exact H
          clear H
          have H := H1
          clear H1
          have H' := Aside0.mk H
          clear H
          have hcz27_0 : wr.cell? ⟨gb103, 0, none⟩ = some (.slice A0_0 l0_0.length c0_0) := (blk_cell BK103.out 0).trans rfl
          have hcz27_1 : wr.cell? ⟨gb103, 1, none⟩ = some (.int .i64 a0_1) := (blk_cell BK103.out 1).trans rfl
          have hfz27_0 := blk_frozen BK103.out 0
          have hfz27_1 := blk_frozen BK103.out 1
          have p108 : 0 ≤ (x4_3 : Int) := of_decide_eq_true ql1
          have q108 : x4_3 < (l0_0.length : Int) := of_decide_eq_true ql1
          obtain ⟨ad108, e108, hx108_0, hx108_1, hx108_2⟩ := at_T70 HR0_0.out x4_3 p108 q108
          cases e108
          replace hx108_0 := (HB.out.cell (World.block_lt_of_cell? w _ hx108_0)).trans hx108_0
          replace hx108_1 := (HB.out.cell (World.block_lt_of_cell? w _ hx108_1)).trans hx108_1
          replace hx108_2 := (HB.out.cell (World.block_lt_of_cell? w _ hx108_2)).trans hx108_2
          replace p108 := eq_true p108
          replace q108 := eq_true q108
          go_wp2_with (first | (go_at_call 62; (with_reducible refine (forecourtref01_valid.calls ((rd_T70 l0_0 x4_3).f1.f0) ((rd_T70 l0_0 x4_3).f1.f1) 0 100000 true _ A25.out).mono ?_); rintro e w28 ⟨rfl, hb⟩; have n0_ := Aside0.mk (blk_below (g := gb103) (o := .cells #[.slice (some ad108) l0_0.length c0_0, .int .i64 a0_1] 24 (0, 0)) (by exact BK103.out) hb); have n1_ := Aside0.mk (below_step ql3 hb); clear BK103; clear HB; have BK103 := n0_; have HB := n1_; clear n0_ n1_; (try clear hb); (try clear hb2); (try clear hk); (try clear hi)))
          repeat (go_quiet (fail); try go_wp2_with fail)
          go_roundg k3
          case measure => have := HJ1.out; have := HK2.out; have := HK3.out; omega
          case rel => exact ⟨(wrap64 (x4_3 + 1)), ql4, H', ⟨by have := HJ1.out; have := HK2.out; have := HK3.out; omega⟩, ⟨by (skip); exact BK103.out⟩, ⟨by (with_reducible exact HB.out)⟩⟩
         replace c26 := Bool.eq_false_iff.mpr c26
         subst c26
         have H1 : (some 2) = some r := by rw [if_neg (show ¬ (false = true) by decide)] at H; exact H
         clear H
         have H := H1
         clear H1
         obtain rfl := Option.some.inj H
         have hcz29_0 : wr.cell? ⟨gb103, 0, none⟩ = some (.slice A0_0 l0_0.length c0_0) := (blk_cell BK103.out 0).trans rfl
         have hcz29_1 : wr.cell? ⟨gb103, 1, none⟩ = some (.int .i64 a0_1) := (blk_cell BK103.out 1).trans rfl
         have hfz29_0 := blk_frozen BK103.out 0
         have hfz29_1 := blk_frozen BK103.out 1
         have p108 : 0 ≤ (x4_3 : Int) := of_decide_eq_true ql1
         have q108 : x4_3 < (l0_0.length : Int) := of_decide_eq_true ql1
         obtain ⟨ad108, e108, hx108_0, hx108_1, hx108_2⟩ := at_T70 HR0_0.out x4_3 p108 q108
         cases e108
         replace hx108_0 := (HB.out.cell (World.block_lt_of_cell? w _ hx108_0)).trans hx108_0
         replace hx108_1 := (HB.out.cell (World.block_lt_of_cell? w _ hx108_1)).trans hx108_1
         replace hx108_2 := (HB.out.cell (World.block_lt_of_cell? w _ hx108_2)).trans hx108_2
         replace p108 := eq_true p108
         replace q108 := eq_true q108
         go_wp2_with (first | (go_at_call 62; (with_reducible refine (forecourtref01_valid.calls ((rd_T70 l0_0 x4_3).f1.f0) ((rd_T70 l0_0 x4_3).f1.f1) 0 100000 false _ A25.out).mono ?_); rintro e w30 ⟨rfl, hb⟩; have n0_ := Aside0.mk (blk_below (g := gb103) (o := .cells #[.slice (some ad108) l0_0.length c0_0, .int .i64 a0_1] 24 (0, 0)) (by exact BK103.out) hb); have n1_ := Aside0.mk (below_step ql3 hb); clear BK103; clear HB; have BK103 := n0_; have HB := n1_; clear n0_ n1_; (try clear hb); (try clear hb2); (try clear hk); (try clear hi)))
         repeat (go_quiet (fail); try go_wp2_with fail)
         go_ret
         exact ⟨by first | rfl | (simp [errW_none, errW_some] <;> rfl) | (simp [*, errW_none, errW_some] <;> rfl), by (with_reducible exact HB.out)⟩
        rw [if_neg c24] at H
        exact absurd H (by simp)
       rw [if_neg c23] at H
       have c23b0 : decide (x4_3 < (l0_0.length : Int)) = false := decide_eq_false c23
       clear c23
       by_cases c31 : a0_1 < 0
       ·rw [if_pos c31] at H
        have c31b0 : decide (a0_1 < 0) = true := decide_eq_true c31
        clear c31
        obtain rfl := Option.some.inj H
        have hcz32_0 : wr.cell? ⟨gb103, 0, none⟩ = some (.slice A0_0 l0_0.length c0_0) := (blk_cell BK103.out 0).trans rfl
        have hcz32_1 : wr.cell? ⟨gb103, 1, none⟩ = some (.int .i64 a0_1) := (blk_cell BK103.out 1).trans rfl
        have hfz32_0 := blk_frozen BK103.out 0
        have hfz32_1 := blk_frozen BK103.out 1
        go_wp2
        repeat (go_quiet (fail); try go_wp2)
        go_ret
        exact ⟨by first | rfl | (simp [errW_none, errW_some] <;> rfl) | (simp [*, errW_none, errW_some] <;> rfl), by (with_reducible exact HB.out)⟩
       rw [if_neg c31] at H
       have c31b0 : decide (a0_1 < 0) = false := decide_eq_false c31
       clear c31
       by_cases c33 : a0_1 > 50
       ·rw [if_pos c33] at H
        have c33b0 : decide (50 < a0_1) = true := decide_eq_true c33
        clear c33
        obtain rfl := Option.some.inj H
        have hcz34_0 : wr.cell? ⟨gb103, 0, none⟩ = some (.slice A0_0 l0_0.length c0_0) := (blk_cell BK103.out 0).trans rfl
        have hcz34_1 : wr.cell? ⟨gb103, 1, none⟩ = some (.int .i64 a0_1) := (blk_cell BK103.out 1).trans rfl
        have hfz34_0 := blk_frozen BK103.out 0
        have hfz34_1 := blk_frozen BK103.out 1
        go_wp2
        repeat (go_quiet (fail); try go_wp2)
        go_ret
        exact ⟨by first | rfl | (simp [errW_none, errW_some] <;> rfl) | (simp [*, errW_none, errW_some] <;> rfl), by (with_reducible exact HB.out)⟩
       rw [if_neg c33] at H
       have c33b0 : decide (50 < a0_1) = false := decide_eq_false c33
       clear c33
       obtain rfl := Option.some.inj H
       have hcz35_0 : wr.cell? ⟨gb103, 0, none⟩ = some (.slice A0_0 l0_0.length c0_0) := (blk_cell BK103.out 0).trans rfl
       have hcz35_1 : wr.cell? ⟨gb103, 1, none⟩ = some (.int .i64 a0_1) := (blk_cell BK103.out 1).trans rfl
       have hfz35_0 := blk_frozen BK103.out 0
       have hfz35_1 := blk_frozen BK103.out 1
       go_wp2
       repeat (go_quiet (fail); try go_wp2)
       go_ret
       exact ⟨by first | rfl | (simp [errW_none, errW_some] <;> rfl) | (simp [*, errW_none, errW_some] <;> rfl), by (with_reducible exact HB.out)⟩
end Go.Proofs.Ytpkajhmchcbbhaa.P
end
