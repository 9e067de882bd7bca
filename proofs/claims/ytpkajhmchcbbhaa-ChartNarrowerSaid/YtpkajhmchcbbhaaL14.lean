/- Part 14 of 44. -/
import Derived.Test.YtpkajhmchcbbhaaL0
import Derived.Test.YtpkajhmchcbbhaaL4
import Derived.Test.YtpkajhmchcbbhaaL5
import Derived.Test.YtpkajhmchcbbhaaL13
set_option linter.unusedSimpArgs false
set_option linter.unusedVariables false
section
namespace Go.Proofs.Ytpkajhmchcbbhaa.P
open Go.RowKit Go.Proofs.YtpkajhmchcbbhaaW.PrintWords Go.Proofs.YtpkajhmchcbbhaaW.PrintLast Go.Proofs.YtpkajhmchcbbhaaW.PrintMore
attribute [local go_sem] max2_int min2_int max_two min_two max_three min_three max_four min_four
def chart_CheckChart.l0 : Nat → Int → List Int → Int → Int → List (S70) → Int → Option (Int)
 | 0, _, _, _, _, _, _ => none
 | k + 1, x6, x20, x21, x22, x135000, x135001 => if x22 < x21 then (if 0 ≤ x22 then (if x22 < (x20.length : Int) then (if x22 < (x135000.length : Int) then ((chart_within.f (mx x6 ((rd_T70 x135000 x22).f1.f0)) ((rd_T70 x135000 x22).f1.f1) (([rd x20 x22] : List Int))).bind fun t142 => (if t142 = true then (chart_CheckChart.l0 k (rd x20 x22) x20 x21 (wrap64 (x22 + 1)) x135000 x135001) else (some 21))) else (none)) else (none)) else (none)) else (some 0)
def chart_CheckChart.f (k : Nat) (l0_0 : List (S70)) (a0_1 : Int) (l1 : List Int) : Option (Int) := (chart_CheckTank.f l0_0 a0_1).bind fun t135 => (if t135 = 0 then (if (l1.length : Int) = (l0_0.length : Int) then (chart_CheckChart.l0 k 0 l1 (l1.length : Int) 0 l0_0 a0_1) else (some 15)) else (some t135))
def chart_CheckChart.T10 : Bool × List (List Nat × List Nat) := (true, [([], []), ([], []), ([1], [1]), ([], []), ([2, 3], [2, 3]), ([4], [4]), ([5], [5]), ([6], [6]), ([0, 7], [0, 7]), ([], []), ([9], [9]), ([], []), ([10, 11], [10, 11]), ([12], [12]), ([13], [13]), ([14], [14]), ([], []), ([16], [16]), ([8, 15, 17], [8, 15, 17]), ([18], [18])])
def chart_CheckChart.B10 : List Nat := [0, 0, 2, 0, 14, 30, 62, 126, 255, 0, 512, 0, 3584, 7680, 15872, 32256, 0, 65536, 262143, 524287]
theorem chart_CheckChart.tab10 : rtab .any (opsOf Try.f23 10) = chart_CheckChart.T10 := by kernel_rfl
theorem chart_CheckChart.bits10 : waitsOk chart_CheckChart.T10.2 chart_CheckChart.B10 = true := by kernel_rfl
set_option maxHeartbeats 8000000 in
set_option maxRecDepth 100000 in
theorem chart_CheckChart.calls (k : Nat) (A0_0 : Option Addr) (c0_0 : Nat) (l0_0 : List (S70)) (a0_1 : Int) (A1 : Option Addr) (c1 : Nat) (l1 : List Int) (r : Int) (w : World) (hr0_0 : Kd.C k70 w A0_0 l0_0.length l0_0) (hc0_0 : l0_0.length ≤ c0_0) (hr1 : Kd.C (Kd.int .i64) w A1 l1.length l1) (hc1 : l1.length ≤ c1) (h : chart_CheckChart.f k l0_0 a0_1 l1 = some r) :
  Calls Try.prog 23 #[.agg #[.slice A0_0 l0_0.length c0_0, .int .i64 a0_1], .slice A1 l1.length c1] w fun e w' => e = .returned (.int .i64 r) ∧ Below w.heap.size w w' := by
 have hu24 := Try.underlying24
 have HR0_0 := Aside0.mk hr0_0
 have HC0_0 := Aside0.mk hc0_0
 clear hr0_0 hc0_0
 have HR1 := Aside0.mk hr1
 have HC1 := Aside0.mk hc1
 clear hr1 hc1
 have HB := Aside0.mk (Below.refl w.heap.size w)
 have H : ((chart_CheckTank.f l0_0 a0_1).bind fun t135 => (if t135 = 0 then (if (l1.length : Int) = (l0_0.length : Int) then (chart_CheckChart.l0 k 0 l1 (l1.length : Int) 0 l0_0 a0_1) else (some 15)) else (some t135))) = some r := h
 clear h
 replace H := Option.bind_eq_some_iff.mp H
 obtain ⟨t135, A30, H⟩ := H
 replace H : (if t135 = 0 then (if (l1.length : Int) = (l0_0.length : Int) then (chart_CheckChart.l0 k 0 l1 (l1.length : Int) 0 l0_0 a0_1) else (some 15)) else (some t135)) = some r := H
 have A3 := Aside0.mk A30
 clear A30
 by_cases c4 : t135 = 0
 ·rw [if_pos c4] at H
  have c4b0 : (t135 == 0) = true := beq_iff_eq.mpr c4
  have c4b1 : (t135 != 0) = false := bne_eq_false_iff_eq.mpr c4
  clear c4
  by_cases c5 : (l1.length : Int) = (l0_0.length : Int)
  ·rw [if_pos c5] at H
   have c5b0 : ((l1.length : Int) == (l0_0.length : Int)) = true := beq_iff_eq.mpr c5
   have c5b1 : ((l1.length : Int) != (l0_0.length : Int)) = false := bne_eq_false_iff_eq.mpr c5
   have c5b2 : (l1.length == l0_0.length) = true := by first | simpa using c5 | (simp at c5 ⊢; omega)
   clear c5
   have H' := Aside0.mk H
   clear H
   go_enter Try.func23, Try.ntmps23
   go_wp2_with (first | ((with_reducible refine gate_dst (N := 2) rfl ?_); refine box_event ?hg (N := 2) ?hd (cs := #[.slice A0_0 l0_0.length c0_0, .int .i64 a0_1]) (t := 24) ?hr ?_; (case hd => rfl); (case hg => rfl); (case hr => first | (go_simp; done) | (go_simp; rfl)); intro gb134 hg w6 hbox hb; have n0_ := Aside0.mk (below_step ql3 hb); have n1_ := Aside0.mk (hbox); have n2_ := Aside0.mk ((by rw [hg]; exact (below_size ql3) : w.heap.size ≤ gb134)); have n3_ := Aside0.mk ((by rw [hg]; exact (below_size ql3) : w.heap.size ≤ gb134)); clear HB; have HB := n0_; have BK134 := n1_; have GW134 := n2_; have GE134 := n3_; clear n0_ n1_ n2_ n3_; clear hb hbox hg; have hcz7_0 : w6.cell? ⟨gb134, 0, none⟩ = some (.slice A0_0 l0_0.length c0_0) := (blk_cell BK134.out 0).trans rfl; have hcz7_1 : w6.cell? ⟨gb134, 1, none⟩ = some (.int .i64 a0_1) := (blk_cell BK134.out 1).trans rfl; have hfz7_0 := blk_frozen BK134.out 0; have hfz7_1 := blk_frozen BK134.out 1) | ((with_reducible refine gate_callee (f := 21) rfl ?_); refine goesL_ (some 10) rfl rfl Try.func21 (by kernel_rfl) rfl #[.agg #[.slice A0_0 l0_0.length c0_0, .int .i64 a0_1]] rfl ql2 ?_; (with_reducible refine (chart_CheckTank.calls _ _ l0_0 a0_1 t135 _ ?side1 ?side2 A3.out).mono ?_); (case side1 => (exact (Kd.C_below HR0_0.out HB.out))); (case side2 => exact HC0_0.out); rintro e w8 ⟨rfl, hb⟩; refine ⟨_, rfl, ?_⟩; have n0_ := Aside0.mk (blk_below (g := gb134) (o := .cells #[.slice A0_0 l0_0.length c0_0, .int .i64 a0_1] 24 (0, 0)) (by exact BK134.out) hb); have n1_ := Aside0.mk (below_step ql3 hb); clear BK134; clear HB; have BK134 := n0_; have HB := n1_; clear n0_ n1_; (try clear hb); (try clear hb2); (try clear hk); (try clear hi); have hcz9_0 : w8.cell? ⟨gb134, 0, none⟩ = some (.slice A0_0 l0_0.length c0_0) := (blk_cell BK134.out 0).trans rfl; have hcz9_1 : w8.cell? ⟨gb134, 1, none⟩ = some (.int .i64 a0_1) := (blk_cell BK134.out 1).trans rfl; have hfz9_0 := blk_frozen BK134.out 0; have hfz9_1 := blk_frozen BK134.out 1))
   go_loopg [6, 22] k (fun kq v6 v22 w' => ∃ (x6_1 : Int) (x22_1 : Int), v6 = .int .i64 x6_1 ∧ v22 = .int .i64 x22_1 ∧ Aside0 (chart_CheckChart.l0 kq x6_1 l1 (l1.length : Int) x22_1 l0_0 a0_1 = some r) ∧ Aside0 (kq ≤ k) ∧ Aside0 (w'.heap[gb134]? = some (.cells #[(.slice A0_0 l0_0.length c0_0), .int .i64 a0_1] 24 (0, 0))) ∧ Aside0 (Below w.heap.size w w'))
   case atStart => exact ⟨(0), (0), ql4, ql4, H', ⟨Nat.le_refl _⟩, ⟨by (skip); exact BK134.out⟩, ⟨by (with_reducible exact HB.out)⟩⟩
   case round =>
    clear H'
    try clear c1
    try clear c2
    try clear p2
    try clear c4
    try clear c4b0
    try clear c4b1
    try clear c5
    try clear c5b0
    try clear c5b1
    try clear c5b2
    try clear hcz7_0
    try clear hcz7_1
    try clear hcz9_0
    try clear hcz9_1
    try clear hfz7_0
    try clear hfz7_1
    try clear hfz9_0
    try clear hfz9_1
    obtain ⟨x6_1, x22_1, rfl, rfl, HA, HK1, BK134, HB⟩ := hrel
    cases gk with
    | zero => exact absurd HA.out (by simp [chart_CheckChart.l0])
    | succ k1 =>
     have H := HA.out
     clear HA
     simp only [chart_CheckChart.l0] at H
     by_cases c10 : x22_1 < (l1.length : Int)
     ·rw [if_pos c10] at H
      have c10b0 : decide (x22_1 < (l1.length : Int)) = true := decide_eq_true c10
      clear c10
      by_cases c11 : 0 ≤ x22_1
      ·rw [if_pos c11] at H
       have c11b0 : decide (0 ≤ x22_1) = true := decide_eq_true c11
       clear c11
       by_cases c12 : x22_1 < (l1.length : Int)
       ·rw [if_pos c12] at H
        have c12b0 : decide (x22_1 < (l1.length : Int)) = true := decide_eq_true c12
        clear c12
        by_cases c13 : x22_1 < (l0_0.length : Int)
        ·rw [if_pos c13] at H
         have c13b0 : decide (x22_1 < (l0_0.length : Int)) = true := decide_eq_true c13
         clear c13
         obtain ⟨ji14, hji14⟩ : ∃ j_ : Int, (mx x6_1 ((rd_T70 l0_0 x22_1).f1.f0)) = j_ := ⟨_, rfl⟩
         replace H : ((chart_within.f (ji14) ((rd_T70 l0_0 x22_1).f1.f1) (([rd l1 x22_1] : List Int))).bind fun t142 => (if t142 = true then (chart_CheckChart.l0 k1 (rd l1 x22_1) l1 (l1.length : Int) (wrap64 (x22_1 + 1)) l0_0 a0_1) else (some 21))) = some r := by first | (rw [hji14] at H; exact H) | (simp only [hji14] at H ⊢; exact H)
         have hji14_ : (if x6_1 < ((rd_T70 l0_0 x22_1).f1.f0) then ((rd_T70 l0_0 x22_1).f1.f0) else x6_1) = ji14 := hji14
         obtain ⟨y139, hy139⟩ : ∃ y_ : List Int, y_ = (([rd l1 x22_1] : List Int)) := ⟨_, rfl⟩
         replace H : ((chart_within.f (ji14) ((rd_T70 l0_0 x22_1).f1.f1) y139).bind fun t142 => (if t142 = true then (chart_CheckChart.l0 k1 (rd l1 x22_1) l1 (l1.length : Int) (wrap64 (x22_1 + 1)) l0_0 a0_1) else (some 21))) = some r := by first | (rw [hy139]; with_reducible exact H) | (have H2_ := (Option.bind_some _ _).symm.trans H; rw [hy139]; with_reducible exact H2_) | (have H2_ := (Option.bind_some _ _).symm.trans H; with_reducible exact H2_) | with_reducible exact H | (rw [hy139]; exact H) | exact H
         have Ny139 := Aside0.mk hy139
         clear hy139
         replace H := Option.bind_eq_some_iff.mp H
         obtain ⟨t142, A150, H⟩ := H
         replace H : (if t142 = true then (chart_CheckChart.l0 k1 (rd l1 x22_1) l1 (l1.length : Int) (wrap64 (x22_1 + 1)) l0_0 a0_1) else (some 21)) = some r := H
         have A15 := Aside0.mk A150
         clear A150
         by_cases c16 : t142 = true
         ·subst c16
          have H1 : (chart_CheckChart.l0 k1 (rd l1 x22_1) l1 (l1.length : Int) (wrap64 (x22_1 + 1)) l0_0 a0_1) = some r := by rw [if_pos rfl] at H; exact H
          clear H
          have H := H1
          clear H1
          have H' := Aside0.mk H
          clear H
          have p136 : 0 ≤ (x22_1 : Int) := of_decide_eq_true ql1
          have q136 : x22_1 < (l1.length : Int) := of_decide_eq_true ql1
          obtain ⟨ad136, e136, hx136_0⟩ := Kd.at_int HR1.out x22_1 p136 q136
          cases e136
          replace hx136_0 := (HB.out.cell (World.block_lt_of_cell? w _ hx136_0)).trans hx136_0
          replace p136 := eq_true p136
          replace q136 := eq_true q136
          try go_wp2
          have n0_ := Aside0.mk (blk_drew BK134.out)
          have n1_ := Aside0.mk (below_drew1 HB.out)
          clear BK134 HB
          have BK134 := n0_
          have HB := n1_
          clear n0_ n1_
          have p137 : 0 ≤ (x22_1 : Int) := of_decide_eq_true ql1
          have q137 : x22_1 < (l0_0.length : Int) := of_decide_eq_true ql1
          obtain ⟨ad137, e137, hx137_0, hx137_1, hx137_2⟩ := at_T70 HR0_0.out x22_1 p137 q137
          have hw137_2 := hx137_2
          have hw137_1 := hx137_1
          have hw137_0 := hx137_0
          cases e137
          replace hx137_0 := (HB.out.cell (World.block_lt_of_cell? w _ hx137_0)).trans hx137_0
          replace hx137_1 := (HB.out.cell (World.block_lt_of_cell? w _ hx137_1)).trans hx137_1
          replace hx137_2 := (HB.out.cell (World.block_lt_of_cell? w _ hx137_2)).trans hx137_2
          replace p137 := eq_true p137
          replace q137 := eq_true q137
          have p138 : 0 ≤ (x22_1 : Int) := of_decide_eq_true ql1
          have q138 : x22_1 < (l0_0.length : Int) := of_decide_eq_true ql1
          obtain ⟨ad138, e138, hx138_0, hx138_1, hx138_2⟩ := at_T70 HR0_0.out x22_1 p138 q138
          have hw138_2 := hx138_2
          have hw138_1 := hx138_1
          have hw138_0 := hx138_0
          obtain rfl : ad137 = ad138 := (by injection e138)
          replace hx138_0 := (HB.out.cell (World.block_lt_of_cell? w _ hx138_0)).trans hx138_0
          replace hx138_1 := (HB.out.cell (World.block_lt_of_cell? w _ hx138_1)).trans hx138_1
          replace hx138_2 := (HB.out.cell (World.block_lt_of_cell? w _ hx138_2)).trans hx138_2
          replace p138 := eq_true p138
          replace q138 := eq_true q138
          refine start_ (n := 20) (S := fun w' => w'.cell? ⟨gb134, 0, none⟩ = some (.slice (some ad137) l0_0.length c0_0) ∧ w'.cell? ⟨gb134, 1, none⟩ = some (.int .i64 a0_1) ∧ w'.cell? (ad137.add ((x22_1).toNat * 3)) = some (.int .i64 ((rd_T70 l0_0 x22_1).f0)) ∧ w'.cell? ⟨(ad137.add ((x22_1).toNat * 3)).block, (ad137.add ((x22_1).toNat * 3)).off + 1, none⟩ = some (.int .i64 ((rd_T70 l0_0 x22_1).f1.f0)) ∧ w'.cell? ⟨(ad137.add ((x22_1).toNat * 3)).block, (ad137.add ((x22_1).toNat * 3)).off + 2, none⟩ = some (.int .i64 ((rd_T70 l0_0 x22_1).f1.f1)) ∧ w'.cell? (ad137.add ((x22_1).toNat * 3)) = some (.int .i64 ((rd_T70 l0_0 x22_1).f0)) ∧ w'.cell? ⟨(ad137.add ((x22_1).toNat * 3)).block, (ad137.add ((x22_1).toNat * 3)).off + 1, none⟩ = some (.int .i64 ((rd_T70 l0_0 x22_1).f1.f0)) ∧ w'.cell? ⟨(ad137.add ((x22_1).toNat * 3)).block, (ad137.add ((x22_1).toNat * 3)).off + 2, none⟩ = some (.int .i64 ((rd_T70 l0_0 x22_1).f1.f1))) (ds := []) #[false, false, false, false, false, false, false, false, false, false, false, false, false, false, false, false, false, false, false, false] (by kernel_rfl) rfl rfl ⟨(blk_cell BK134.out 0).trans rfl, (blk_cell BK134.out 1).trans rfl, ((HB.out.cell (World.block_lt_of_cell? w _ hw137_0)).trans hw137_0), ((HB.out.cell (World.block_lt_of_cell? w _ hw137_1)).trans hw137_1), ((HB.out.cell (World.block_lt_of_cell? w _ hw137_2)).trans hw137_2), ((HB.out.cell (World.block_lt_of_cell? w _ hw138_0)).trans hw138_0), ((HB.out.cell (World.block_lt_of_cell? w _ hw138_1)).trans hw138_1), ((HB.out.cell (World.block_lt_of_cell? w _ hw138_2)).trans hw138_2)⟩ (fun hHeld => ?_); refine with_tabW chart_CheckChart.tab10 chart_CheckChart.bits10 (fun HT_ HW_ => ?_)
          generalize wr.drew = w17 at BK134 HB hx137_0 hx137_1 hx137_2 hx138_0 hx138_1 hx138_2 hHeld ⊢
          refine pureT (i := 0) (N := some 27) HT_.out ?_
          refine pureT (i := 1) (N := some 28) HT_.out ?_
          refine pureT (i := 3) (N := some 30) HT_.out ?_
          refine pureT (i := 9) (N := some 36) HT_.out ?_
          refine pureT (i := 11) (N := some 38) HT_.out ?_
          refine pureT (i := 16) (N := some 43) HT_.out ?_
          refine takeT (i := 2) (N := some 29) HT_.out HW_.out hHeld (hy := by (rintro w' ⟨s0, s1, s2, s3, s4, s5, s6, s7⟩; go_simp; with_reducible rfl)) (h := ?_)
          refine pureT (i := 4) (N := some 31) HT_.out ?_
          refine pureT (i := 5) (N := some 32) HT_.out ?_
          refine pureT (i := 6) (N := some 33) HT_.out ?_
          refine takeT (i := 7) (N := some 34) HT_.out HW_.out hHeld (hy := by (rintro w' ⟨s0, s1, s2, s3, s4, s5, s6, s7⟩; go_simp; with_reducible rfl)) (h := ?_)
          refine pureT (i := 8) (N := some 35) HT_.out ?_
          refine takeT (i := 10) (N := some 37) HT_.out HW_.out hHeld (hy := by (rintro w' ⟨s0, s1, s2, s3, s4, s5, s6, s7⟩; go_simp; with_reducible rfl)) (h := ?_)
          refine pureT (i := 12) (N := some 39) HT_.out ?_
          refine pureT (i := 13) (N := some 40) HT_.out ?_
          refine pureT (i := 14) (N := some 41) HT_.out ?_
          refine takeT (i := 15) (N := some 42) HT_.out HW_.out hHeld (hy := by (rintro w' ⟨s0, s1, s2, s3, s4, s5, s6, s7⟩; go_simp; with_reducible rfl)) (h := ?_)
          refine one_ (i := 17) (N := some 44) #[true, true, true, true, true, true, true, true, true, true, true, true, true, true, true, true, true, true, false, false] rfl rfl (one_of HT_.out (by kernel_rfl)) (by decide) (fun K hK => ?_)
          refine Kd.R_lit_step (Kd.int .i64) _ 2 ?hg (N := 44) ?hd (xs := ([rd l1 x22_1] : List Int)) (inner := [.int .i64 (rd l1 x22_1)]) (ok := fun _ => True) (okp := fun _ => True) ?hr ?hp (fun _ hk => hk) trivial (Below.refl _ _) (Nat.le_refl _) (by simp) ?_; (case hd => rfl); (case hg => rfl); (case hr => first | (go_simp; done) | (go_simp; rfl)); (case hp => exact (Reps.one (show Kd.M (Kd.int .i64) _ _ _ (rd l1 x22_1) [.int .i64 (rd l1 x22_1)] from rfl) (Reps.none _ _)))
          intro v140 w18 ho19 hb hg_ hnew_
          clear hg_ hnew_
          (first | rw [← Ny139.out] at ho19 | (simp only [Int.reduceToNat] at ho19; rw [← Ny139.out] at ho19))
          have n0_ := Aside0.mk (Kd.R_lower ho19 (below_size ql3))
          have n1_ := Aside0.mk (blk_below (g := gb134) (o := .cells #[.slice (some ad137) l0_0.length c0_0, .int .i64 a0_1] 24 (0, 0)) (by exact BK134.out) hb)
          have n2_ := Aside0.mk (below_step ql3 hb)
          clear BK134 HB
          have HO141 := n0_
          have BK134 := n1_
          have HB := n2_
          clear n0_ n1_ n2_ hb ho19
          obtain ⟨Ao20, co20, eo20⟩ := Kd.R_slice HO141.out
          (first | subst eo20 | (injection eo20 with f1_ f2_ f3_; have f4_ := f1_.symm; have f5_ := f3_.symm; clear f1_ f2_ f3_; subst f4_; subst f5_))
          refine hK.out _ _ ⟨(blk_cell BK134.out 0).trans rfl, (blk_cell BK134.out 1).trans rfl, ((HB.out.cell (World.block_lt_of_cell? w _ hw137_0)).trans hw137_0), ((HB.out.cell (World.block_lt_of_cell? w _ hw137_1)).trans hw137_1), ((HB.out.cell (World.block_lt_of_cell? w _ hw137_2)).trans hw137_2), ((HB.out.cell (World.block_lt_of_cell? w _ hw138_0)).trans hw138_0), ((HB.out.cell (World.block_lt_of_cell? w _ hw138_1)).trans hw138_1), ((HB.out.cell (World.block_lt_of_cell? w _ hw138_2)).trans hw138_2)⟩ (fun hHeld => ?_)
          clear hK K
          refine norm_ (a' := ?_) ?_ ?_
          rotate_left
          ·show Act.put _ (some 44) _ = _
           simp only [Act.put, List.setIfInBounds_toArray, List.set_cons_zero, List.set_cons_succ, i64_w, i32_w]
           rfl
          refine one_ (i := 18) (N := some 45) #[true, true, true, true, true, true, true, true, true, true, true, true, true, true, true, true, true, true, true, false] rfl rfl (one_of HT_.out (by kernel_rfl)) (by decide) (fun K hK => ?_)
          refine goes_ Try.func58 (by kernel_rfl) rfl #[.int .i64 ji14, .int .i64 ((rd_T70 l0_0 x22_1).f1.f1), .slice Ao20 y139.length co20] (by rfl) rfl rfl ql27 ?_
          with_reducible refine (chart_within.calls ji14 ((rd_T70 l0_0 x22_1).f1.f1) _ _ y139 true _ ?side1 ?side2 A15.out).mono ?_
          (case side1 => (exact (Kd.R_reads' HO141.out).2.2))
          (case side2 => exact (Kd.R_reads' HO141.out).2.1)
          rintro e w21 ⟨rfl, hb⟩
          refine ⟨_, rfl, ?_⟩
          have n0_ := Aside0.mk (Kd.R_below (by exact HO141.out) hb)
          have n1_ := Aside0.mk (blk_below (g := gb134) (o := .cells #[.slice (some ad137) l0_0.length c0_0, .int .i64 a0_1] 24 (0, 0)) (by exact BK134.out) hb)
          have n2_ := Aside0.mk (below_step ql3 hb)
          clear HO141 BK134 HB
          have HO141 := n0_
          have BK134 := n1_
          have HB := n2_
          clear n0_ n1_ n2_
          (try clear hb)
          refine hK.out _ _ ⟨(blk_cell BK134.out 0).trans rfl, (blk_cell BK134.out 1).trans rfl, ((HB.out.cell (World.block_lt_of_cell? w _ hw137_0)).trans hw137_0), ((HB.out.cell (World.block_lt_of_cell? w _ hw137_1)).trans hw137_1), ((HB.out.cell (World.block_lt_of_cell? w _ hw137_2)).trans hw137_2), ((HB.out.cell (World.block_lt_of_cell? w _ hw138_0)).trans hw138_0), ((HB.out.cell (World.block_lt_of_cell? w _ hw138_1)).trans hw138_1), ((HB.out.cell (World.block_lt_of_cell? w _ hw138_2)).trans hw138_2)⟩ (fun hHeld => ?_)
          clear hK K
          refine norm_ (a' := ?_) ?_ ?_
          rotate_left
          ·show Act.put _ (some 45) _ = _
           simp only [Act.put, List.setIfInBounds_toArray, List.set_cons_zero, List.set_cons_succ, i64_w, i32_w]
           rfl
          refine pureT (i := 19) (N := some 46) HT_.out ?_
          refine done_ (done_of HT_.out (by kernel_rfl)) ?_
          try go_wp2
          go_roundg k1
          case measure => have := HK1.out; omega
          case rel => exact ⟨(rd l1 x22_1), (wrap64 (x22_1 + 1)), ql4, ql4, H', ⟨by have := HK1.out; omega⟩, ⟨by (skip); exact BK134.out⟩, ⟨by (with_reducible exact HB.out)⟩⟩
         replace c16 := Bool.eq_false_iff.mpr c16
         subst c16
         have H1 : (some 21) = some r := by rw [if_neg (show ¬ (false = true) by decide)] at H; exact H
         clear H
         have H := H1
         clear H1
         obtain rfl := Option.some.inj H
         have p136 : 0 ≤ (x22_1 : Int) := of_decide_eq_true ql1
         have q136 : x22_1 < (l1.length : Int) := of_decide_eq_true ql1
         obtain ⟨ad136, e136, hx136_0⟩ := Kd.at_int HR1.out x22_1 p136 q136
         cases e136
         replace hx136_0 := (HB.out.cell (World.block_lt_of_cell? w _ hx136_0)).trans hx136_0
         replace p136 := eq_true p136
         replace q136 := eq_true q136
         try go_wp2
         have n0_ := Aside0.mk (blk_drew BK134.out)
         have n1_ := Aside0.mk (below_drew1 HB.out)
         clear BK134 HB
         have BK134 := n0_
         have HB := n1_
         clear n0_ n1_
         have p137 : 0 ≤ (x22_1 : Int) := of_decide_eq_true ql1
         have q137 : x22_1 < (l0_0.length : Int) := of_decide_eq_true ql1
         obtain ⟨ad137, e137, hx137_0, hx137_1, hx137_2⟩ := at_T70 HR0_0.out x22_1 p137 q137
         have hw137_2 := hx137_2
         have hw137_1 := hx137_1
         have hw137_0 := hx137_0
         cases e137
         replace hx137_0 := (HB.out.cell (World.block_lt_of_cell? w _ hx137_0)).trans hx137_0
         replace hx137_1 := (HB.out.cell (World.block_lt_of_cell? w _ hx137_1)).trans hx137_1
         replace hx137_2 := (HB.out.cell (World.block_lt_of_cell? w _ hx137_2)).trans hx137_2
         replace p137 := eq_true p137
         replace q137 := eq_true q137
         have p138 : 0 ≤ (x22_1 : Int) := of_decide_eq_true ql1
         have q138 : x22_1 < (l0_0.length : Int) := of_decide_eq_true ql1
         obtain ⟨ad138, e138, hx138_0, hx138_1, hx138_2⟩ := at_T70 HR0_0.out x22_1 p138 q138
         have hw138_2 := hx138_2
         have hw138_1 := hx138_1
         have hw138_0 := hx138_0
         obtain rfl : ad137 = ad138 := (by injection e138)
         replace hx138_0 := (HB.out.cell (World.block_lt_of_cell? w _ hx138_0)).trans hx138_0
         replace hx138_1 := (HB.out.cell (World.block_lt_of_cell? w _ hx138_1)).trans hx138_1
         replace hx138_2 := (HB.out.cell (World.block_lt_of_cell? w _ hx138_2)).trans hx138_2
         replace p138 := eq_true p138
         replace q138 := eq_true q138
         refine start_ (n := 20) (S := fun w' => w'.cell? ⟨gb134, 0, none⟩ = some (.slice (some ad137) l0_0.length c0_0) ∧ w'.cell? ⟨gb134, 1, none⟩ = some (.int .i64 a0_1) ∧ w'.cell? (ad137.add ((x22_1).toNat * 3)) = some (.int .i64 ((rd_T70 l0_0 x22_1).f0)) ∧ w'.cell? ⟨(ad137.add ((x22_1).toNat * 3)).block, (ad137.add ((x22_1).toNat * 3)).off + 1, none⟩ = some (.int .i64 ((rd_T70 l0_0 x22_1).f1.f0)) ∧ w'.cell? ⟨(ad137.add ((x22_1).toNat * 3)).block, (ad137.add ((x22_1).toNat * 3)).off + 2, none⟩ = some (.int .i64 ((rd_T70 l0_0 x22_1).f1.f1)) ∧ w'.cell? (ad137.add ((x22_1).toNat * 3)) = some (.int .i64 ((rd_T70 l0_0 x22_1).f0)) ∧ w'.cell? ⟨(ad137.add ((x22_1).toNat * 3)).block, (ad137.add ((x22_1).toNat * 3)).off + 1, none⟩ = some (.int .i64 ((rd_T70 l0_0 x22_1).f1.f0)) ∧ w'.cell? ⟨(ad137.add ((x22_1).toNat * 3)).block, (ad137.add ((x22_1).toNat * 3)).off + 2, none⟩ = some (.int .i64 ((rd_T70 l0_0 x22_1).f1.f1))) (ds := []) #[false, false, false, false, false, false, false, false, false, false, false, false, false, false, false, false, false, false, false, false] (by kernel_rfl) rfl rfl ⟨(blk_cell BK134.out 0).trans rfl, (blk_cell BK134.out 1).trans rfl, ((HB.out.cell (World.block_lt_of_cell? w _ hw137_0)).trans hw137_0), ((HB.out.cell (World.block_lt_of_cell? w _ hw137_1)).trans hw137_1), ((HB.out.cell (World.block_lt_of_cell? w _ hw137_2)).trans hw137_2), ((HB.out.cell (World.block_lt_of_cell? w _ hw138_0)).trans hw138_0), ((HB.out.cell (World.block_lt_of_cell? w _ hw138_1)).trans hw138_1), ((HB.out.cell (World.block_lt_of_cell? w _ hw138_2)).trans hw138_2)⟩ (fun hHeld => ?_); refine with_tabW chart_CheckChart.tab10 chart_CheckChart.bits10 (fun HT_ HW_ => ?_)
         generalize wr.drew = w22 at BK134 HB hx137_0 hx137_1 hx137_2 hx138_0 hx138_1 hx138_2 hHeld ⊢
         refine pureT (i := 0) (N := some 27) HT_.out ?_
         refine pureT (i := 1) (N := some 28) HT_.out ?_
         refine pureT (i := 3) (N := some 30) HT_.out ?_
         refine pureT (i := 9) (N := some 36) HT_.out ?_
         refine pureT (i := 11) (N := some 38) HT_.out ?_
         refine pureT (i := 16) (N := some 43) HT_.out ?_
         refine takeT (i := 2) (N := some 29) HT_.out HW_.out hHeld (hy := by (rintro w' ⟨s0, s1, s2, s3, s4, s5, s6, s7⟩; go_simp; with_reducible rfl)) (h := ?_)
         refine pureT (i := 4) (N := some 31) HT_.out ?_
         refine pureT (i := 5) (N := some 32) HT_.out ?_
         refine pureT (i := 6) (N := some 33) HT_.out ?_
         refine takeT (i := 7) (N := some 34) HT_.out HW_.out hHeld (hy := by (rintro w' ⟨s0, s1, s2, s3, s4, s5, s6, s7⟩; go_simp; with_reducible rfl)) (h := ?_)
         refine pureT (i := 8) (N := some 35) HT_.out ?_
         refine takeT (i := 10) (N := some 37) HT_.out HW_.out hHeld (hy := by (rintro w' ⟨s0, s1, s2, s3, s4, s5, s6, s7⟩; go_simp; with_reducible rfl)) (h := ?_)
         refine pureT (i := 12) (N := some 39) HT_.out ?_
         refine pureT (i := 13) (N := some 40) HT_.out ?_
         refine pureT (i := 14) (N := some 41) HT_.out ?_
         refine takeT (i := 15) (N := some 42) HT_.out HW_.out hHeld (hy := by (rintro w' ⟨s0, s1, s2, s3, s4, s5, s6, s7⟩; go_simp; with_reducible rfl)) (h := ?_)
         refine one_ (i := 17) (N := some 44) #[true, true, true, true, true, true, true, true, true, true, true, true, true, true, true, true, true, true, false, false] rfl rfl (one_of HT_.out (by kernel_rfl)) (by decide) (fun K hK => ?_)
         refine Kd.R_lit_step (Kd.int .i64) _ 2 ?hg (N := 44) ?hd (xs := ([rd l1 x22_1] : List Int)) (inner := [.int .i64 (rd l1 x22_1)]) (ok := fun _ => True) (okp := fun _ => True) ?hr ?hp (fun _ hk => hk) trivial (Below.refl _ _) (Nat.le_refl _) (by simp) ?_; (case hd => rfl); (case hg => rfl); (case hr => first | (go_simp; done) | (go_simp; rfl)); (case hp => exact (Reps.one (show Kd.M (Kd.int .i64) _ _ _ (rd l1 x22_1) [.int .i64 (rd l1 x22_1)] from rfl) (Reps.none _ _)))
         intro v140 w23 ho24 hb hg_ hnew_
         clear hg_ hnew_
         (first | rw [← Ny139.out] at ho24 | (simp only [Int.reduceToNat] at ho24; rw [← Ny139.out] at ho24))
         have n0_ := Aside0.mk (Kd.R_lower ho24 (below_size ql3))
         have n1_ := Aside0.mk (blk_below (g := gb134) (o := .cells #[.slice (some ad137) l0_0.length c0_0, .int .i64 a0_1] 24 (0, 0)) (by exact BK134.out) hb)
         have n2_ := Aside0.mk (below_step ql3 hb)
         clear BK134 HB
         have HO141 := n0_
         have BK134 := n1_
         have HB := n2_
         clear n0_ n1_ n2_ hb ho24
         obtain ⟨Ao25, co25, eo25⟩ := Kd.R_slice HO141.out
         (first | subst eo25 | (injection eo25 with f1_ f2_ f3_; have f4_ := f1_.symm; have f5_ := f3_.symm; clear f1_ f2_ f3_; subst f4_; subst f5_))
         refine hK.out _ _ ⟨(blk_cell BK134.out 0).trans rfl, (blk_cell BK134.out 1).trans rfl, ((HB.out.cell (World.block_lt_of_cell? w _ hw137_0)).trans hw137_0), ((HB.out.cell (World.block_lt_of_cell? w _ hw137_1)).trans hw137_1), ((HB.out.cell (World.block_lt_of_cell? w _ hw137_2)).trans hw137_2), ((HB.out.cell (World.block_lt_of_cell? w _ hw138_0)).trans hw138_0), ((HB.out.cell (World.block_lt_of_cell? w _ hw138_1)).trans hw138_1), ((HB.out.cell (World.block_lt_of_cell? w _ hw138_2)).trans hw138_2)⟩ (fun hHeld => ?_)
         clear hK K
         refine norm_ (a' := ?_) ?_ ?_
         rotate_left
         ·show Act.put _ (some 44) _ = _
          simp only [Act.put, List.setIfInBounds_toArray, List.set_cons_zero, List.set_cons_succ, i64_w, i32_w]
          rfl
         refine one_ (i := 18) (N := some 45) #[true, true, true, true, true, true, true, true, true, true, true, true, true, true, true, true, true, true, true, false] rfl rfl (one_of HT_.out (by kernel_rfl)) (by decide) (fun K hK => ?_)
         refine goes_ Try.func58 (by kernel_rfl) rfl #[.int .i64 ji14, .int .i64 ((rd_T70 l0_0 x22_1).f1.f1), .slice Ao25 y139.length co25] (by rfl) rfl rfl ql27 ?_
         with_reducible refine (chart_within.calls ji14 ((rd_T70 l0_0 x22_1).f1.f1) _ _ y139 false _ ?side1 ?side2 A15.out).mono ?_
         (case side1 => (exact (Kd.R_reads' HO141.out).2.2))
         (case side2 => exact (Kd.R_reads' HO141.out).2.1)
         rintro e w26 ⟨rfl, hb⟩
         refine ⟨_, rfl, ?_⟩
         have n0_ := Aside0.mk (Kd.R_below (by exact HO141.out) hb)
         have n1_ := Aside0.mk (blk_below (g := gb134) (o := .cells #[.slice (some ad137) l0_0.length c0_0, .int .i64 a0_1] 24 (0, 0)) (by exact BK134.out) hb)
         have n2_ := Aside0.mk (below_step ql3 hb)
         clear HO141 BK134 HB
         have HO141 := n0_
         have BK134 := n1_
         have HB := n2_
         clear n0_ n1_ n2_
         (try clear hb)
         refine hK.out _ _ ⟨(blk_cell BK134.out 0).trans rfl, (blk_cell BK134.out 1).trans rfl, ((HB.out.cell (World.block_lt_of_cell? w _ hw137_0)).trans hw137_0), ((HB.out.cell (World.block_lt_of_cell? w _ hw137_1)).trans hw137_1), ((HB.out.cell (World.block_lt_of_cell? w _ hw137_2)).trans hw137_2), ((HB.out.cell (World.block_lt_of_cell? w _ hw138_0)).trans hw138_0), ((HB.out.cell (World.block_lt_of_cell? w _ hw138_1)).trans hw138_1), ((HB.out.cell (World.block_lt_of_cell? w _ hw138_2)).trans hw138_2)⟩ (fun hHeld => ?_)
         clear hK K
         refine norm_ (a' := ?_) ?_ ?_
         rotate_left
         ·show Act.put _ (some 45) _ = _
          simp only [Act.put, List.setIfInBounds_toArray, List.set_cons_zero, List.set_cons_succ, i64_w, i32_w]
          rfl
         refine pureT (i := 19) (N := some 46) HT_.out ?_
         refine done_ (done_of HT_.out (by kernel_rfl)) ?_
         try go_wp2
         go_ret
         exact ⟨by first | rfl | (simp [errW_none, errW_some] <;> rfl) | (simp only [← hji14]; first | rfl | (simp [errW_none, errW_some] <;> rfl)) | (simp [*, errW_none, errW_some] <;> rfl), by (with_reducible exact HB.out)⟩
        rw [if_neg c13] at H
        exact absurd H (by simp)
       rw [if_neg c12] at H
       exact absurd H (by simp)
      rw [if_neg c11] at H
      exact absurd H (by simp)
     rw [if_neg c10] at H
     have c10b0 : decide (x22_1 < (l1.length : Int)) = false := decide_eq_false c10
     clear c10
     obtain rfl := Option.some.inj H
     go_wp2
     go_ret
     exact ⟨by first | rfl | (simp [errW_none, errW_some] <;> rfl) | (simp [*, errW_none, errW_some] <;> rfl), by (with_reducible exact HB.out)⟩
  rw [if_neg c5] at H
  have c5b0 : ((l1.length : Int) == (l0_0.length : Int)) = false := beq_eq_false_iff_ne.mpr c5
  have c5b1 : ((l1.length : Int) != (l0_0.length : Int)) = true := bne_iff_ne.mpr c5
  have c5b2 : (l1.length == l0_0.length) = false := by first | simpa using c5 | (simp at c5 ⊢; omega)
  obtain rfl := Option.some.inj H
  go_enter Try.func23, Try.ntmps23
  go_wp2_with (first | ((with_reducible refine gate_dst (N := 2) rfl ?_); refine box_event ?hg (N := 2) ?hd (cs := #[.slice A0_0 l0_0.length c0_0, .int .i64 a0_1]) (t := 24) ?hr ?_; (case hd => rfl); (case hg => rfl); (case hr => first | (go_simp; done) | (go_simp; rfl)); intro gb134 hg w27 hbox hb; have n0_ := Aside0.mk (below_step ql3 hb); have n1_ := Aside0.mk (hbox); have n2_ := Aside0.mk ((by rw [hg]; exact (below_size ql3) : w.heap.size ≤ gb134)); have n3_ := Aside0.mk ((by rw [hg]; exact (below_size ql3) : w.heap.size ≤ gb134)); clear HB; have HB := n0_; have BK134 := n1_; have GW134 := n2_; have GE134 := n3_; clear n0_ n1_ n2_ n3_; clear hb hbox hg; have hcz28_0 : w27.cell? ⟨gb134, 0, none⟩ = some (.slice A0_0 l0_0.length c0_0) := (blk_cell BK134.out 0).trans rfl; have hcz28_1 : w27.cell? ⟨gb134, 1, none⟩ = some (.int .i64 a0_1) := (blk_cell BK134.out 1).trans rfl; have hfz28_0 := blk_frozen BK134.out 0; have hfz28_1 := blk_frozen BK134.out 1) | ((with_reducible refine gate_callee (f := 21) rfl ?_); refine goesL_ (some 10) rfl rfl Try.func21 (by kernel_rfl) rfl #[.agg #[.slice A0_0 l0_0.length c0_0, .int .i64 a0_1]] rfl ql2 ?_; (with_reducible refine (chart_CheckTank.calls _ _ l0_0 a0_1 t135 _ ?side1 ?side2 A3.out).mono ?_); (case side1 => (exact (Kd.C_below HR0_0.out HB.out))); (case side2 => exact HC0_0.out); rintro e w29 ⟨rfl, hb⟩; refine ⟨_, rfl, ?_⟩; have n0_ := Aside0.mk (blk_below (g := gb134) (o := .cells #[.slice A0_0 l0_0.length c0_0, .int .i64 a0_1] 24 (0, 0)) (by exact BK134.out) hb); have n1_ := Aside0.mk (below_step ql3 hb); clear BK134; clear HB; have BK134 := n0_; have HB := n1_; clear n0_ n1_; (try clear hb); (try clear hb2); (try clear hk); (try clear hi); have hcz30_0 : w29.cell? ⟨gb134, 0, none⟩ = some (.slice A0_0 l0_0.length c0_0) := (blk_cell BK134.out 0).trans rfl; have hcz30_1 : w29.cell? ⟨gb134, 1, none⟩ = some (.int .i64 a0_1) := (blk_cell BK134.out 1).trans rfl; have hfz30_0 := blk_frozen BK134.out 0; have hfz30_1 := blk_frozen BK134.out 1))
  go_ret
  exact ⟨by first | rfl | (simp [errW_none, errW_some] <;> rfl) | (simp [*, errW_none, errW_some] <;> rfl), by (with_reducible exact HB.out)⟩
 rw [if_neg c4] at H
 have c4b0 : (t135 == 0) = false := beq_eq_false_iff_ne.mpr c4
 have c4b1 : (t135 != 0) = true := bne_iff_ne.mpr c4
 obtain rfl := Option.some.inj H
 go_enter Try.func23, Try.ntmps23
 go_wp2_with (first | ((with_reducible refine gate_dst (N := 2) rfl ?_); refine box_event ?hg (N := 2) ?hd (cs := #[.slice A0_0 l0_0.length c0_0, .int .i64 a0_1]) (t := 24) ?hr ?_; (case hd => rfl); (case hg => rfl); (case hr => first | (go_simp; done) | (go_simp; rfl)); intro gb134 hg w31 hbox hb; have n0_ := Aside0.mk (below_step ql3 hb); have n1_ := Aside0.mk (hbox); have n2_ := Aside0.mk ((by rw [hg]; exact (below_size ql3) : w.heap.size ≤ gb134)); have n3_ := Aside0.mk ((by rw [hg]; exact (below_size ql3) : w.heap.size ≤ gb134)); clear HB; have HB := n0_; have BK134 := n1_; have GW134 := n2_; have GE134 := n3_; clear n0_ n1_ n2_ n3_; clear hb hbox hg; have hcz32_0 : w31.cell? ⟨gb134, 0, none⟩ = some (.slice A0_0 l0_0.length c0_0) := (blk_cell BK134.out 0).trans rfl; have hcz32_1 : w31.cell? ⟨gb134, 1, none⟩ = some (.int .i64 a0_1) := (blk_cell BK134.out 1).trans rfl; have hfz32_0 := blk_frozen BK134.out 0; have hfz32_1 := blk_frozen BK134.out 1) | ((with_reducible refine gate_callee (f := 21) rfl ?_); refine goesL_ (some 10) rfl rfl Try.func21 (by kernel_rfl) rfl #[.agg #[.slice A0_0 l0_0.length c0_0, .int .i64 a0_1]] rfl ql2 ?_; (with_reducible refine (chart_CheckTank.calls _ _ l0_0 a0_1 t135 _ ?side1 ?side2 A3.out).mono ?_); (case side1 => (exact (Kd.C_below HR0_0.out HB.out))); (case side2 => exact HC0_0.out); rintro e w33 ⟨rfl, hb⟩; refine ⟨_, rfl, ?_⟩; have n0_ := Aside0.mk (blk_below (g := gb134) (o := .cells #[.slice A0_0 l0_0.length c0_0, .int .i64 a0_1] 24 (0, 0)) (by exact BK134.out) hb); have n1_ := Aside0.mk (below_step ql3 hb); clear BK134; clear HB; have BK134 := n0_; have HB := n1_; clear n0_ n1_; (try clear hb); (try clear hb2); (try clear hk); (try clear hi)))
 go_ret
 exact ⟨by first | rfl | (simp [errW_none, errW_some] <;> rfl) | (simp [*, errW_none, errW_some] <;> rfl), by (with_reducible exact HB.out)⟩
end Go.Proofs.Ytpkajhmchcbbhaa.P
end
