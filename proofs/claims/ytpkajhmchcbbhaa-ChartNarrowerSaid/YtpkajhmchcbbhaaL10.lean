/- Part 10 of 44. -/
import Derived.Test.YtpkajhmchcbbhaaL0
import Derived.Test.YtpkajhmchcbbhaaL4
import Derived.Test.YtpkajhmchcbbhaaL5
import Derived.Test.YtpkajhmchcbbhaaL6
import Derived.Test.YtpkajhmchcbbhaaL7
import Derived.Test.YtpkajhmchcbbhaaL9
set_option linter.unusedSimpArgs false
set_option linter.unusedVariables false
section
namespace Go.Proofs.Ytpkajhmchcbbhaa.P
open Go.RowKit Go.Proofs.YtpkajhmchcbbhaaW.PrintWords Go.Proofs.YtpkajhmchcbbhaaW.PrintLast Go.Proofs.YtpkajhmchcbbhaaW.PrintMore
attribute [local go_sem] max2_int min2_int max_two min_two max_three min_three max_four min_four
def forecourtref01_True.f (l0_0 : List (S70)) (a0_1 : Int) (a1 : Int) : Option (Int × Int) := if 0 < (l0_0.length : Int) then (if 0 ≤ (wrap64 ((l0_0.length : Int) - 1)) then (if (wrap64 ((l0_0.length : Int) - 1)) < (l0_0.length : Int) then (some (mx ((rd_T70 l0_0 0).f0) (wrap64 (a1 - a0_1)), mn ((rd_T70 l0_0 (wrap64 ((l0_0.length : Int) - 1))).f0) (wrap64 (a1 + a0_1)))) else (none)) else (none)) else (none)
def forecourtref01_True.T1 : Bool × List (List Nat × List Nat) := (true, [([], []), ([0], [0]), ([1], [1]), ([2], [2]), ([3], [3]), ([], []), ([], []), ([6], [6]), ([5, 7], [5, 7]), ([4, 8], [4, 8]), ([], []), ([10], [10]), ([], []), ([12], [12]), ([13], [13]), ([14], [14]), ([11, 15], [11, 15]), ([16], [16]), ([17], [17]), ([], []), ([], []), ([20], [20]), ([19, 21], [19, 21]), ([18, 22], [18, 22]), ([9, 23], [9, 23]), ([24, 0, 1, 2, 3, 4, 5, 6, 7, 8, 9, 10, 11, 12, 13, 14, 15, 16, 17, 18, 19, 20, 21, 22, 23, 24], [24])])
def forecourtref01_True.B1 : List Nat := [0, 1, 3, 7, 15, 0, 0, 64, 224, 511, 0, 1024, 0, 4096, 12288, 28672, 64512, 130048, 261120, 0, 0, 1048576, 3670016, 8387584, 16777215, 33554431]
theorem forecourtref01_True.tab1 : rtab .any (opsOf Try.f42 1) = forecourtref01_True.T1 := by kernel_rfl
theorem forecourtref01_True.bits1 : waitsOk forecourtref01_True.T1.2 forecourtref01_True.B1 = true := by kernel_rfl
set_option maxHeartbeats 8000000 in
set_option maxRecDepth 100000 in
theorem forecourtref01_True.calls (A0_0 : Option Addr) (c0_0 : Nat) (l0_0 : List (S70)) (a0_1 : Int) (a1 : Int) (r1 : Int) (r2 : Int) (w : World) (hr0_0 : Kd.C k70 w A0_0 l0_0.length l0_0) (hc0_0 : l0_0.length ≤ c0_0) (h : forecourtref01_True.f l0_0 a0_1 a1 = some (r1, r2)) :
  Calls Try.prog 42 #[.agg #[.slice A0_0 l0_0.length c0_0, .int .i64 a0_1], .int .i64 a1] w fun e w' => e = .returned (.agg #[.int .i64 r1, .int .i64 r2]) ∧ Below w.heap.size w w' := by
 have hu24 := Try.underlying24
 have hu43 := Try.underlying43
 have HR0_0 := Aside0.mk hr0_0
 have HC0_0 := Aside0.mk hc0_0
 clear hr0_0 hc0_0
 have HB := Aside0.mk (Below.refl w.heap.size w)
 have H : (if 0 < (l0_0.length : Int) then (if 0 ≤ (wrap64 ((l0_0.length : Int) - 1)) then (if (wrap64 ((l0_0.length : Int) - 1)) < (l0_0.length : Int) then (some (mx ((rd_T70 l0_0 0).f0) (wrap64 (a1 - a0_1)), mn ((rd_T70 l0_0 (wrap64 ((l0_0.length : Int) - 1))).f0) (wrap64 (a1 + a0_1)))) else (none)) else (none)) else (none)) = some (r1, r2) := h
 clear h
 by_cases c3 : 0 < (l0_0.length : Int)
 ·rw [if_pos c3] at H
  have c3b0 : decide (0 < (l0_0.length : Int)) = true := decide_eq_true c3
  have c3b1 : decide (0 < l0_0.length) = true := decide_eq_true (by omega)
  clear c3
  obtain ⟨ji4, hji4⟩ : ∃ j_ : Int, (mx ((rd_T70 l0_0 0).f0) (wrap64 (a1 - a0_1))) = j_ := ⟨_, rfl⟩
  replace H : (if 0 ≤ (wrap64 ((l0_0.length : Int) - 1)) then (if (wrap64 ((l0_0.length : Int) - 1)) < (l0_0.length : Int) then (some (ji4, mn ((rd_T70 l0_0 (wrap64 ((l0_0.length : Int) - 1))).f0) (wrap64 (a1 + a0_1)))) else (none)) else (none)) = some (r1, r2) := by first | (rw [hji4] at H; exact H) | (simp only [hji4] at H ⊢; exact H)
  have hji4_ : (if ((rd_T70 l0_0 0).f0) < (wrap64 (a1 - a0_1)) then (wrap64 (a1 - a0_1)) else ((rd_T70 l0_0 0).f0)) = ji4 := hji4
  obtain ⟨ji5, hji5⟩ : ∃ j_ : Int, (wrap64 ((l0_0.length : Int) - 1)) = j_ := ⟨_, rfl⟩
  replace H : (if 0 ≤ (ji5) then (if (ji5) < (l0_0.length : Int) then (some (ji4, mn ((rd_T70 l0_0 (ji5)).f0) (wrap64 (a1 + a0_1)))) else (none)) else (none)) = some (r1, r2) := by first | (rw [hji5] at H; exact H) | (simp only [hji5] at H ⊢; exact H)
  have hji5w : (IntKind.i64.wrap ((l0_0.length : Int) - 1)) = ji5 := (i64_w _).trans hji5
  by_cases c6 : 0 ≤ (ji5)
  ·rw [if_pos c6] at H
   have c6b0 : decide (0 ≤ (ji5)) = true := decide_eq_true c6
   clear c6
   by_cases c7 : (ji5) < (l0_0.length : Int)
   ·rw [if_pos c7] at H
    have c7b0 : decide ((ji5) < (l0_0.length : Int)) = true := decide_eq_true c7
    clear c7
    obtain ⟨ji8, hji8⟩ : ∃ j_ : Int, (mn ((rd_T70 l0_0 (ji5)).f0) (wrap64 (a1 + a0_1))) = j_ := ⟨_, rfl⟩
    replace H : (some (ji4, ji8)) = some (r1, r2) := by first | (rw [hji8] at H; exact H) | (simp only [hji8] at H ⊢; exact H)
    have hji8_ : (if (wrap64 (a1 + a0_1)) < ((rd_T70 l0_0 (ji5)).f0) then (wrap64 (a1 + a0_1)) else ((rd_T70 l0_0 (ji5)).f0)) = ji8 := hji8
    simp only [Option.some.injEq, Prod.mk.injEq] at H
    obtain ⟨rfl, rfl⟩ := H
    go_enter Try.func42, Try.ntmps42
    try go_wp2_with (first | ((with_reducible refine gate_dst (N := 2) rfl ?_); refine box_event ?hg (N := 2) ?hd (cs := #[.slice A0_0 l0_0.length c0_0, .int .i64 a0_1]) (t := 24) ?hr ?_; (case hd => rfl); (case hg => rfl); (case hr => first | (go_simp; done) | (go_simp; rfl)); intro gb230 hg w9 hbox hb; have n0_ := Aside0.mk (below_step ql3 hb); have n1_ := Aside0.mk (hbox); have n2_ := Aside0.mk ((by rw [hg]; exact (below_size ql3) : w.heap.size ≤ gb230)); have n3_ := Aside0.mk ((by rw [hg]; exact (below_size ql3) : w.heap.size ≤ gb230)); clear HB; have HB := n0_; have BK230 := n1_; have GW230 := n2_; have GE230 := n3_; clear n0_ n1_ n2_ n3_; clear hb hbox hg) | ((with_reducible refine gate_dst (N := 4) rfl ?_); refine box_event ?hg (N := 4) ?hd (cs := #[.int .i64 0, .int .i64 0]) (t := 43) ?hr ?_; (case hd => rfl); (case hg => rfl); (case hr => first | (go_simp; done) | (go_simp; rfl)); intro gb231 hg w10 hbox hb; have n0_ := Aside0.mk (blk_below (g := gb230) (o := .cells #[.slice A0_0 l0_0.length c0_0, .int .i64 a0_1] 24 (0, 0)) (by exact BK230.out) hb); have n1_ := Aside0.mk (below_step ql3 hb); have n2_ := Aside0.mk (hbox); have n3_ := Aside0.mk ((by rw [hg]; exact (below_size ql3) : w.heap.size ≤ gb231)); have n4_ := Aside0.mk ((by rw [hg]; exact (below_size ql3) : w.heap.size ≤ gb231)); have n5_ := Aside0.mk ((by rw [hg]; exact Nat.ne_of_lt (blk_lt (g := gb230) (o := .cells #[.slice A0_0 l0_0.length c0_0, .int .i64 a0_1] 24 (0, 0)) (by exact BK230.out)) : gb230 ≠ gb231)); have n6_ := Aside0.mk ((by rw [hg]; exact Nat.ne_of_gt (blk_lt (g := gb230) (o := .cells #[.slice A0_0 l0_0.length c0_0, .int .i64 a0_1] 24 (0, 0)) (by exact BK230.out)) : gb231 ≠ gb230)); clear BK230; clear HB; have BK230 := n0_; have HB := n1_; have BK231 := n2_; have GW231 := n3_; have GE231 := n4_; have NB230_231 := n5_; have NB231_230 := n6_; clear n0_ n1_ n2_ n3_ n4_ n5_ n6_; clear hb hbox hg))
    have n0_ := Aside0.mk (blk_drew BK230.out)
    have n1_ := Aside0.mk (blk_drew BK231.out)
    have n2_ := Aside0.mk (below_drew1 HB.out)
    clear BK230 BK231 HB
    have BK230 := n0_
    have BK231 := n1_
    have HB := n2_
    clear n0_ n1_ n2_
    have p232 : 0 ≤ (0 : Int) := (by omega)
    have q232 : 0 < (l0_0.length : Int) := of_decide_eq_true ql1
    obtain ⟨ad232, e232, hx232_0, hx232_1, hx232_2⟩ := at_T70 HR0_0.out 0 p232 q232
    have hw232_2 := hx232_2
    (try rw [show ((0 : Int)).toNat = 0 from rfl] at hw232_2)
    (try rw [show 0 * 3 = 0 from rfl] at hw232_2)
    (try rw [Addr.add_zero'] at hw232_2)
    have hw232_1 := hx232_1
    (try rw [show ((0 : Int)).toNat = 0 from rfl] at hw232_1)
    (try rw [show 0 * 3 = 0 from rfl] at hw232_1)
    (try rw [Addr.add_zero'] at hw232_1)
    have hw232_0 := hx232_0
    (try rw [show ((0 : Int)).toNat = 0 from rfl] at hw232_0)
    (try rw [show 0 * 3 = 0 from rfl] at hw232_0)
    (try rw [Addr.add_zero'] at hw232_0)
    cases e232
    have qi232 : (0 < l0_0.length) = True := eq_true (by omega)
    (try rw [show ((0 : Int)).toNat = 0 from rfl] at hx232_0)
    (try rw [show 0 * 3 = 0 from rfl] at hx232_0)
    (try rw [Addr.add_zero'] at hx232_0)
    (try rw [show ((0 : Int)).toNat = 0 from rfl] at hx232_1)
    (try rw [show 0 * 3 = 0 from rfl] at hx232_1)
    (try rw [Addr.add_zero'] at hx232_1)
    (try rw [show ((0 : Int)).toNat = 0 from rfl] at hx232_2)
    (try rw [show 0 * 3 = 0 from rfl] at hx232_2)
    (try rw [Addr.add_zero'] at hx232_2)
    replace hx232_0 := (HB.out.cell (World.block_lt_of_cell? w _ hx232_0)).trans hx232_0
    replace hx232_1 := (HB.out.cell (World.block_lt_of_cell? w _ hx232_1)).trans hx232_1
    replace hx232_2 := (HB.out.cell (World.block_lt_of_cell? w _ hx232_2)).trans hx232_2
    replace p232 := eq_true p232
    replace q232 := eq_true q232
    have p233 : 0 ≤ ((ji5) : Int) := of_decide_eq_true ql1
    have q233 : (ji5) < (l0_0.length : Int) := of_decide_eq_true ql1
    obtain ⟨ad233, e233, hx233_0, hx233_1, hx233_2⟩ := at_T70 HR0_0.out (ji5) p233 q233
    have hw233_2 := hx233_2
    have hw233_1 := hx233_1
    have hw233_0 := hx233_0
    obtain rfl : ad232 = ad233 := (by injection e233)
    replace hx233_0 := (HB.out.cell (World.block_lt_of_cell? w _ hx233_0)).trans hx233_0
    replace hx233_1 := (HB.out.cell (World.block_lt_of_cell? w _ hx233_1)).trans hx233_1
    replace hx233_2 := (HB.out.cell (World.block_lt_of_cell? w _ hx233_2)).trans hx233_2
    replace p233 := eq_true p233
    replace q233 := eq_true q233
    refine start_ (n := 26) (S := fun w' => w'.cell? ⟨gb230, 0, none⟩ = some (.slice (some ad232) l0_0.length c0_0) ∧ w'.cell? ⟨gb230, 1, none⟩ = some (.int .i64 a0_1) ∧ w'.cell? ad232 = some (.int .i64 ((rd_T70 l0_0 0).f0)) ∧ w'.cell? ⟨ad232.block, ad232.off + 1, none⟩ = some (.int .i64 ((rd_T70 l0_0 0).f1.f0)) ∧ w'.cell? ⟨ad232.block, ad232.off + 2, none⟩ = some (.int .i64 ((rd_T70 l0_0 0).f1.f1)) ∧ w'.cell? (ad232.add (((ji5)).toNat * 3)) = some (.int .i64 ((rd_T70 l0_0 (ji5)).f0)) ∧ w'.cell? ⟨(ad232.add (((ji5)).toNat * 3)).block, (ad232.add (((ji5)).toNat * 3)).off + 1, none⟩ = some (.int .i64 ((rd_T70 l0_0 (ji5)).f1.f0)) ∧ w'.cell? ⟨(ad232.add (((ji5)).toNat * 3)).block, (ad232.add (((ji5)).toNat * 3)).off + 2, none⟩ = some (.int .i64 ((rd_T70 l0_0 (ji5)).f1.f1))) (ds := []) #[false, false, false, false, false, false, false, false, false, false, false, false, false, false, false, false, false, false, false, false, false, false, false, false, false, false] (by kernel_rfl) rfl rfl ⟨(blk_cell BK230.out 0).trans rfl, (blk_cell BK230.out 1).trans rfl, ((HB.out.cell (World.block_lt_of_cell? w _ hw232_0)).trans hw232_0), ((HB.out.cell (World.block_lt_of_cell? w _ hw232_1)).trans hw232_1), ((HB.out.cell (World.block_lt_of_cell? w _ hw232_2)).trans hw232_2), ((HB.out.cell (World.block_lt_of_cell? w _ hw233_0)).trans hw233_0), ((HB.out.cell (World.block_lt_of_cell? w _ hw233_1)).trans hw233_1), ((HB.out.cell (World.block_lt_of_cell? w _ hw233_2)).trans hw233_2)⟩ (fun hHeld => ?_); refine with_tabW forecourtref01_True.tab1 forecourtref01_True.bits1 (fun HT_ HW_ => ?_)
    generalize w10.drew = w11 at BK230 BK231 HB hx232_0 hx232_1 hx232_2 hx233_0 hx233_1 hx233_2 hHeld ⊢
    refine pureT (i := 0) (N := some 5) HT_.out ?_
    refine pureT (i := 5) (N := some 10) HT_.out ?_
    refine pureT (i := 6) (N := some 11) HT_.out ?_
    refine pureT (i := 10) (N := some 15) HT_.out ?_
    refine pureT (i := 12) (N := some 17) HT_.out ?_
    refine pureT (i := 19) (N := some 24) HT_.out ?_
    refine pureT (i := 20) (N := some 25) HT_.out ?_
    refine takeT (i := 1) (N := some 6) HT_.out HW_.out hHeld (hy := by (rintro w' ⟨s0, s1, s2, s3, s4, s5, s6, s7⟩; go_simp; with_reducible rfl)) (h := ?_)
    refine pureT (i := 2) (N := some 7) HT_.out ?_
    refine pureT (i := 3) (N := some 8) HT_.out ?_
    refine takeT (i := 4) (N := some 9) HT_.out HW_.out hHeld (hy := by (rintro w' ⟨s0, s1, s2, s3, s4, s5, s6, s7⟩; go_simp; with_reducible rfl)) (h := ?_)
    refine takeT (i := 7) (N := some 12) HT_.out HW_.out hHeld (hy := by (rintro w' ⟨s0, s1, s2, s3, s4, s5, s6, s7⟩; go_simp; with_reducible rfl)) (h := ?_)
    refine pureT (i := 8) (N := some 13) HT_.out ?_
    refine pureT (i := 9) (N := some 14) HT_.out ?_
    refine takeT (i := 11) (N := some 16) HT_.out HW_.out hHeld (hy := by (rintro w' ⟨s0, s1, s2, s3, s4, s5, s6, s7⟩; go_simp; with_reducible rfl)) (h := ?_)
    refine takeT (i := 13) (N := some 18) HT_.out HW_.out hHeld (hy := by (rintro w' ⟨s0, s1, s2, s3, s4, s5, s6, s7⟩; go_simp; with_reducible rfl)) (h := ?_)
    refine pureT (i := 14) (N := some 19) HT_.out ?_
    refine pureT (i := 15) (N := some 20) HT_.out ?_
    refine pureT (i := 16) (N := some 21) HT_.out ?_
    refine pureT (i := 17) (N := some 22) HT_.out ?_
    refine takeT (i := 18) (N := some 23) HT_.out HW_.out hHeld (hy := by (rintro w' ⟨s0, s1, s2, s3, s4, s5, s6, s7⟩; go_simp; with_reducible rfl)) (h := ?_)
    refine takeT (i := 21) (N := some 26) HT_.out HW_.out hHeld (hy := by (rintro w' ⟨s0, s1, s2, s3, s4, s5, s6, s7⟩; go_simp; with_reducible rfl)) (h := ?_)
    refine pureT (i := 22) (N := some 27) HT_.out ?_
    refine pureT (i := 23) (N := some 28) HT_.out ?_
    refine pureT (i := 24) (N := some 29) HT_.out ?_
    refine one_ (i := 25) (N := none) #[true, true, true, true, true, true, true, true, true, true, true, true, true, true, true, true, true, true, true, true, true, true, true, true, true, true] rfl rfl (one_of HT_.out (by kernel_rfl)) (by decide) (fun K hK => ?_)
    have hs12 : w11.cell? ⟨gb231, 0, none⟩ = some (.int .i64 0) := (blk_cell BK231.out 0).trans rfl
    have hfs12 := blk_frozen BK231.out 0
    have hns12_0 := NB230_231.out
    have hms12_0 := NB231_230.out
    have hs13 : w11.cell? ⟨gb231, 1, none⟩ = some (.int .i64 0) := (blk_cell BK231.out 1).trans rfl
    have hfs13 := blk_frozen BK231.out 1
    have hns13_0 := NB230_231.out
    have hms13_0 := NB231_230.out
    refine skip_ (w1 := ?_) (by rfl) rfl ?_ ?_
    rotate_left
    ·go_simp
     rfl
    refine hK.out _ _ ⟨((cell_far (p := ⟨gb231, _, none⟩) NB230_231.out _).trans (((cell_far (p := ⟨gb231, _, none⟩) NB230_231.out _).trans (hHeld.1)))), ((cell_far (p := ⟨gb231, _, none⟩) NB230_231.out _).trans (((cell_far (p := ⟨gb231, _, none⟩) NB230_231.out _).trans (hHeld.2.1)))), ((cell_far (p := ⟨gb231, _, none⟩) ql35 _).trans (((cell_far (p := ⟨gb231, _, none⟩) ql35 _).trans (hHeld.2.2.1)))), ((cell_far (p := ⟨gb231, _, none⟩) ql36 _).trans (((cell_far (p := ⟨gb231, _, none⟩) ql36 _).trans (hHeld.2.2.2.1)))), ((cell_far (p := ⟨gb231, _, none⟩) ql37 _).trans (((cell_far (p := ⟨gb231, _, none⟩) ql37 _).trans (hHeld.2.2.2.2.1)))), ((cell_far (p := ⟨gb231, _, none⟩) ql38 _).trans (((cell_far (p := ⟨gb231, _, none⟩) ql38 _).trans (hHeld.2.2.2.2.2.1)))), ((cell_far (p := ⟨gb231, _, none⟩) ql39 _).trans (((cell_far (p := ⟨gb231, _, none⟩) ql39 _).trans (hHeld.2.2.2.2.2.2.1)))), ((cell_far (p := ⟨gb231, _, none⟩) ql40 _).trans (((cell_far (p := ⟨gb231, _, none⟩) ql40 _).trans (hHeld.2.2.2.2.2.2.2))))⟩ (fun hHeld => ?_)
    clear hK K
    refine done_ (done_of HT_.out (by kernel_rfl)) ?_
    try go_wp2
    refine bodyPost_ret (results_cell_row rfl _ _ gb231 43 #[.int .i64 ji4, .int .i64 ji8] (0, 0) _ rfl (by (skip); refine blk_put (cs := #[.int .i64 ji4, .int .i64 0]) ?_ 1 _ rfl; (skip); refine blk_put (cs := #[.int .i64 0, .int .i64 0]) ?_ 0 _ rfl; (skip); exact BK231.out) Try.underlying43 rfl (by kernel_rfl)) rfl ?_
    exact ⟨by first | rfl | (simp [errW_none, errW_some] <;> rfl) | (simp only [← hji4, ← hji5, ← hji8]; first | rfl | (simp [errW_none, errW_some] <;> rfl)) | (simp [*, errW_none, errW_some] <;> rfl), by (with_reducible refine below_set ?_ GE231.out; with_reducible refine below_set ?_ GE231.out; with_reducible exact HB.out)⟩
   rw [if_neg c7] at H
   exact absurd H (by simp)
  rw [if_neg c6] at H
  exact absurd H (by simp)
 rw [if_neg c3] at H
 exact absurd H (by simp)
end Go.Proofs.Ytpkajhmchcbbhaa.P
end
section
namespace Go.Proofs.Ytpkajhmchcbbhaa.P
open Go.RowKit Go.Proofs.YtpkajhmchcbbhaaW.PrintWords Go.Proofs.YtpkajhmchcbbhaaW.PrintLast Go.Proofs.YtpkajhmchcbbhaaW.PrintMore
attribute [local go_sem] max2_int min2_int max_two min_two max_three min_three max_four min_four
def forecourtref01_NetError.j0 : Nat → Int → Int → Bool → List (S70) → Int → Option (Int)
 | 0, _, _, _, _, _ => none
 | k + 1, x1, x2, x21, x235000, x235001 => if x21 = true then (some 3) else ((forecourtref01_Clashes.f k x235000 x235001).bind fun t239 => (if t239 = true then (some 21) else ((forecourtref01_True.f x235000 x235001 x1).bind fun bt240 => ((forecourtref01_True.f x235000 x235001 x2).bind fun bt242 => (if bt240.1 > bt242.2 then (some 24) else (some 0))))))
def forecourtref01_NetError.f (k : Nat) (l0_0 : List (S70)) (a0_1 : Int) (a1 : Int) (a2 : Int) : Option (Int) := (forecourtref01_CheckTank.f k l0_0 a0_1).bind fun t235 => (if t235 = 0 then ((forecourtref01_Inside.f l0_0 a0_1 a1).bind fun t237 => (if t237 = true then ((forecourtref01_Inside.f l0_0 a0_1 a2).bind fun t238 => (forecourtref01_NetError.j0 k a1 a2 (!t238) l0_0 a0_1)) else (forecourtref01_NetError.j0 k a1 a2 true l0_0 a0_1))) else ((forecourtref01_CheckTank.f k l0_0 a0_1).bind fun t236 => (some t236)))
def forecourtref01_NetError.T7 : Bool × List (List Nat × List Nat) := (true, [([], []), ([], []), ([0, 1], [0, 1]), ([2], [2]), ([], []), ([], []), ([4, 5, 2], [4, 5]), ([6], [6]), ([3, 7], [3, 7])])
def forecourtref01_NetError.B7 : List Nat := [0, 0, 3, 7, 0, 0, 55, 119, 255]
theorem forecourtref01_NetError.tab7 : rtab .any (opsOf Try.f41 7) = forecourtref01_NetError.T7 := by kernel_rfl
theorem forecourtref01_NetError.bits7 : waitsOk forecourtref01_NetError.T7.2 forecourtref01_NetError.B7 = true := by kernel_rfl
set_option maxHeartbeats 8000000 in
set_option maxRecDepth 100000 in
theorem forecourtref01_NetError.calls (k : Nat) (A0_0 : Option Addr) (c0_0 : Nat) (l0_0 : List (S70)) (a0_1 : Int) (a1 : Int) (a2 : Int) (r : Int) (w : World) (hr0_0 : Kd.C k70 w A0_0 l0_0.length l0_0) (hc0_0 : l0_0.length ≤ c0_0) (h : forecourtref01_NetError.f k l0_0 a0_1 a1 a2 = some r) :
  Calls Try.prog 41 #[.agg #[.slice A0_0 l0_0.length c0_0, .int .i64 a0_1], .int .i64 a1, .int .i64 a2] w fun e w' => e = .returned (.int .i64 r) ∧ Below w.heap.size w w' := by
 have hu24 := Try.underlying24
 have hfd43_0 : ∀ (W : World) (v0 v1 : Value), (Instr.field 43 (.agg #[v0, v1]) 0).run Try.prog W = .ok (v0) W := fun W v0 v1 => by kernel_rfl
 have hfd43_1 : ∀ (W : World) (v0 v1 : Value), (Instr.field 43 (.agg #[v0, v1]) 1).run Try.prog W = .ok (v1) W := fun W v0 v1 => by kernel_rfl
 have HR0_0 := Aside0.mk hr0_0
 have HC0_0 := Aside0.mk hc0_0
 clear hr0_0 hc0_0
 have HB := Aside0.mk (Below.refl w.heap.size w)
 have H : ((forecourtref01_CheckTank.f k l0_0 a0_1).bind fun t235 => (if t235 = 0 then ((forecourtref01_Inside.f l0_0 a0_1 a1).bind fun t237 => (if t237 = true then ((forecourtref01_Inside.f l0_0 a0_1 a2).bind fun t238 => (forecourtref01_NetError.j0 k a1 a2 (!t238) l0_0 a0_1)) else (forecourtref01_NetError.j0 k a1 a2 true l0_0 a0_1))) else ((forecourtref01_CheckTank.f k l0_0 a0_1).bind fun t236 => (some t236)))) = some r := h
 clear h
 replace H := Option.bind_eq_some_iff.mp H
 obtain ⟨t235, A40, H⟩ := H
 replace H : (if t235 = 0 then ((forecourtref01_Inside.f l0_0 a0_1 a1).bind fun t237 => (if t237 = true then ((forecourtref01_Inside.f l0_0 a0_1 a2).bind fun t238 => (forecourtref01_NetError.j0 k a1 a2 (!t238) l0_0 a0_1)) else (forecourtref01_NetError.j0 k a1 a2 true l0_0 a0_1))) else ((forecourtref01_CheckTank.f k l0_0 a0_1).bind fun t236 => (some t236))) = some r := H
 have A4 := Aside0.mk A40
 clear A40
 by_cases c5 : t235 = 0
 ·rw [if_pos c5] at H
  have c5b0 : (t235 == 0) = true := beq_iff_eq.mpr c5
  have c5b1 : (t235 != 0) = false := bne_eq_false_iff_eq.mpr c5
  clear c5
  have HC6 := Aside0.mk H
  clear H
  go_enter Try.func41, Try.ntmps41
  go_upto_region 3 with (first | ((with_reducible refine gate_dst (N := 3) rfl ?_); refine box_event ?hg (N := 3) ?hd (cs := #[.slice A0_0 l0_0.length c0_0, .int .i64 a0_1]) (t := 24) ?hr ?_; (case hd => rfl); (case hg => rfl); (case hr => first | (go_simp; done) | (go_simp; rfl)); intro gb234 hg w7 hbox hb; have n0_ := Aside0.mk (below_step ql3 hb); have n1_ := Aside0.mk (hbox); have n2_ := Aside0.mk ((by rw [hg]; exact (below_size ql3) : w.heap.size ≤ gb234)); have n3_ := Aside0.mk ((by rw [hg]; exact (below_size ql3) : w.heap.size ≤ gb234)); clear HB; have HB := n0_; have BK234 := n1_; have GW234 := n2_; have GE234 := n3_; clear n0_ n1_ n2_ n3_; clear hb hbox hg; have hcz8_0 : w7.cell? ⟨gb234, 0, none⟩ = some (.slice A0_0 l0_0.length c0_0) := (blk_cell BK234.out 0).trans rfl; have hcz8_1 : w7.cell? ⟨gb234, 1, none⟩ = some (.int .i64 a0_1) := (blk_cell BK234.out 1).trans rfl; have hfz8_0 := blk_frozen BK234.out 0; have hfz8_1 := blk_frozen BK234.out 1) | ((with_reducible refine gate_callee (f := 22) rfl ?_); refine goesL_ (some 8) rfl rfl Try.func22 (by kernel_rfl) rfl #[.agg #[.slice A0_0 l0_0.length c0_0, .int .i64 a0_1]] rfl ql2 ?_; (with_reducible refine (forecourtref01_CheckTank.calls k _ _ l0_0 a0_1 t235 _ ?side1 ?side2 A4.out).mono ?_); (case side1 => (exact (Kd.C_below HR0_0.out HB.out))); (case side2 => exact HC0_0.out); rintro e w9 ⟨rfl, hb⟩; refine ⟨_, rfl, ?_⟩; have n0_ := Aside0.mk (blk_below (g := gb234) (o := .cells #[.slice A0_0 l0_0.length c0_0, .int .i64 a0_1] 24 (0, 0)) (by exact BK234.out) hb); have n1_ := Aside0.mk (below_step ql3 hb); clear BK234; clear HB; have BK234 := n0_; have HB := n1_; clear n0_ n1_; (try clear hb); (try clear hb2); (try clear hk); (try clear hi)))
  (try simp only [Act.put, List.setIfInBounds_toArray, List.set_cons_zero, List.set_cons_succ])
  go_cut [21] (fun v21 wc => ∃ (kq : Nat) (x21_5 : Bool), v21 = .bool x21_5 ∧ Aside0 (forecourtref01_NetError.j0 kq a1 a2 x21_5 l0_0 a0_1 = some r) ∧ Aside0 (kq ≤ k) ∧ Aside0 (wc.heap[gb234]? = some (.cells #[(.slice A0_0 l0_0.length c0_0), .int .i64 a0_1] 24 (0, 0))) ∧ Aside0 (Below w.heap.size w wc))
  case first =>
   have H := HC6.out
   clear HC6
   replace H := Option.bind_eq_some_iff.mp H
   obtain ⟨t237, A100, H⟩ := H
   replace H : (if t237 = true then ((forecourtref01_Inside.f l0_0 a0_1 a2).bind fun t238 => (forecourtref01_NetError.j0 k a1 a2 (!t238) l0_0 a0_1)) else (forecourtref01_NetError.j0 k a1 a2 true l0_0 a0_1)) = some r := H
   have A10 := Aside0.mk A100
   clear A100
   by_cases c11 : t237 = true
   ·subst c11
    have H1 : ((forecourtref01_Inside.f l0_0 a0_1 a2).bind fun t238 => (forecourtref01_NetError.j0 k a1 a2 (!t238) l0_0 a0_1)) = some r := by rw [if_pos rfl] at H; exact H
    clear H
    have H := H1
    clear H1
    replace H := Option.bind_eq_some_iff.mp H
    obtain ⟨t238, A120, H⟩ := H
    replace H : (forecourtref01_NetError.j0 k a1 a2 (!t238) l0_0 a0_1) = some r := H
    have A12 := Aside0.mk A120
    clear A120
    have H' := Aside0.mk H
    clear H
    have hcz13_0 : w9.cell? ⟨gb234, 0, none⟩ = some (.slice A0_0 l0_0.length c0_0) := (blk_cell BK234.out 0).trans rfl
    have hcz13_1 : w9.cell? ⟨gb234, 1, none⟩ = some (.int .i64 a0_1) := (blk_cell BK234.out 1).trans rfl
    have hfz13_0 := blk_frozen BK234.out 0
    have hfz13_1 := blk_frozen BK234.out 1
    go_wp2_with (first | ((with_reducible refine gate_callee (f := 48) rfl ?_); refine goesL_ (some 14) rfl rfl Try.func48 (by kernel_rfl) rfl #[.agg #[.slice A0_0 l0_0.length c0_0, .int .i64 a0_1], .int .i64 a1] rfl ql2 ?_; (with_reducible refine (forecourtref01_Inside.calls _ _ l0_0 a0_1 a1 true _ ?side1 ?side2 A10.out).mono ?_); (case side1 => (exact (Kd.C_below HR0_0.out HB.out))); (case side2 => exact HC0_0.out); rintro e w14 ⟨rfl, hb⟩; refine ⟨_, rfl, ?_⟩; have n0_ := Aside0.mk (blk_below (g := gb234) (o := .cells #[.slice A0_0 l0_0.length c0_0, .int .i64 a0_1] 24 (0, 0)) (by exact BK234.out) hb); have n1_ := Aside0.mk (below_step ql3 hb); clear BK234; clear HB; have BK234 := n0_; have HB := n1_; clear n0_ n1_; (try clear hb); (try clear hb2); (try clear hk); (try clear hi); have hcz15_0 : w14.cell? ⟨gb234, 0, none⟩ = some (.slice A0_0 l0_0.length c0_0) := (blk_cell BK234.out 0).trans rfl; have hcz15_1 : w14.cell? ⟨gb234, 1, none⟩ = some (.int .i64 a0_1) := (blk_cell BK234.out 1).trans rfl; have hfz15_0 := blk_frozen BK234.out 0; have hfz15_1 := blk_frozen BK234.out 1) | (go_at_call 48; (with_reducible refine (forecourtref01_Inside.calls _ _ l0_0 a0_1 a2 t238 _ ?side1 ?side2 A12.out).mono ?_); (case side1 => (exact (Kd.C_below HR0_0.out HB.out))); (case side2 => exact HC0_0.out); rintro e w16 ⟨rfl, hb⟩; have n0_ := Aside0.mk (blk_below (g := gb234) (o := .cells #[.slice A0_0 l0_0.length c0_0, .int .i64 a0_1] 24 (0, 0)) (by exact BK234.out) hb); have n1_ := Aside0.mk (below_step ql3 hb); clear BK234; clear HB; have BK234 := n0_; have HB := n1_; clear n0_ n1_; (try clear hb); (try clear hb2); (try clear hk); (try clear hi)))
    go_meet
    case rel => exact ⟨_, (!t238), ql4, H', ⟨by first | omega | exact Nat.le_refl _⟩, ⟨by (skip); exact BK234.out⟩, ⟨by (with_reducible exact HB.out)⟩⟩
   replace c11 := Bool.eq_false_iff.mpr c11
   subst c11
   have H1 : (forecourtref01_NetError.j0 k a1 a2 true l0_0 a0_1) = some r := by rw [if_neg (show ¬ (false = true) by decide)] at H; exact H
   clear H
   have H := H1
   clear H1
   have H' := Aside0.mk H
   clear H
   have hcz17_0 : w9.cell? ⟨gb234, 0, none⟩ = some (.slice A0_0 l0_0.length c0_0) := (blk_cell BK234.out 0).trans rfl
   have hcz17_1 : w9.cell? ⟨gb234, 1, none⟩ = some (.int .i64 a0_1) := (blk_cell BK234.out 1).trans rfl
   have hfz17_0 := blk_frozen BK234.out 0
   have hfz17_1 := blk_frozen BK234.out 1
   go_wp2_with (first | ((with_reducible refine gate_callee (f := 48) rfl ?_); refine goesL_ (some 14) rfl rfl Try.func48 (by kernel_rfl) rfl #[.agg #[.slice A0_0 l0_0.length c0_0, .int .i64 a0_1], .int .i64 a1] rfl ql2 ?_; (with_reducible refine (forecourtref01_Inside.calls _ _ l0_0 a0_1 a1 false _ ?side1 ?side2 A10.out).mono ?_); (case side1 => (exact (Kd.C_below HR0_0.out HB.out))); (case side2 => exact HC0_0.out); rintro e w18 ⟨rfl, hb⟩; refine ⟨_, rfl, ?_⟩; have n0_ := Aside0.mk (blk_below (g := gb234) (o := .cells #[.slice A0_0 l0_0.length c0_0, .int .i64 a0_1] 24 (0, 0)) (by exact BK234.out) hb); have n1_ := Aside0.mk (below_step ql3 hb); clear BK234; clear HB; have BK234 := n0_; have HB := n1_; clear n0_ n1_; (try clear hb); (try clear hb2); (try clear hk); (try clear hi)))
   go_meet
   case rel => exact ⟨_, (true), ql4, H', ⟨by first | omega | exact Nat.le_refl _⟩, ⟨by (skip); exact BK234.out⟩, ⟨by (with_reducible exact HB.out)⟩⟩
  case rest =>
   clear HC6
   try clear c1
   try clear c2
   try clear p2
   try clear c4
   try clear c5
   try clear c5b0
   try clear c5b1
   try clear c11
   try clear hcz13_0
   try clear hcz13_1
   try clear hcz15_0
   try clear hcz15_1
   try clear hcz17_0
   try clear hcz17_1
   try clear hcz8_0
   try clear hcz8_1
   try clear hfz13_0
   try clear hfz13_1
   try clear hfz15_0
   try clear hfz15_1
   try clear hfz17_0
   try clear hfz17_1
   try clear hfz8_0
   try clear hfz8_1
   obtain ⟨kq, x21_5, rfl, HA, HJ5, BK234, HB⟩ := hcut
   cases kq with
   | zero => exact absurd HA.out (by simp [forecourtref01_NetError.j0])
   | succ kj5 =>
    have H := HA.out
    clear HA
    simp only [forecourtref01_NetError.j0] at H
    by_cases c19 : x21_5 = true
    ·subst c19
     have H1 : (some 3) = some r := by rw [if_pos rfl] at H; exact H
     clear H
     have H := H1
     clear H1
     obtain rfl := Option.some.inj H
     go_wp2
     go_ret
     exact ⟨by first | rfl | (simp [errW_none, errW_some] <;> rfl) | (simp [*, errW_none, errW_some] <;> rfl), by (with_reducible exact HB.out)⟩
    replace c19 := Bool.eq_false_iff.mpr c19
    subst c19
    have H1 : ((forecourtref01_Clashes.f kj5 l0_0 a0_1).bind fun t239 => (if t239 = true then (some 21) else ((forecourtref01_True.f l0_0 a0_1 a1).bind fun bt240 => ((forecourtref01_True.f l0_0 a0_1 a2).bind fun bt242 => (if bt240.1 > bt242.2 then (some 24) else (some 0)))))) = some r := by rw [if_neg (show ¬ (false = true) by decide)] at H; exact H
    clear H
    have H := H1
    clear H1
    replace H := Option.bind_eq_some_iff.mp H
    obtain ⟨t239, A200, H⟩ := H
    replace H : (if t239 = true then (some 21) else ((forecourtref01_True.f l0_0 a0_1 a1).bind fun bt240 => ((forecourtref01_True.f l0_0 a0_1 a2).bind fun bt242 => (if bt240.1 > bt242.2 then (some 24) else (some 0))))) = some r := H
    have A20 := Aside0.mk A200
    clear A200
    by_cases c21 : t239 = true
    ·subst c21
     have H1 : (some 21) = some r := by rw [if_pos rfl] at H; exact H
     clear H
     have H := H1
     clear H1
     obtain rfl := Option.some.inj H
     have hcz22_0 : wc.cell? ⟨gb234, 0, none⟩ = some (.slice A0_0 l0_0.length c0_0) := (blk_cell BK234.out 0).trans rfl
     have hcz22_1 : wc.cell? ⟨gb234, 1, none⟩ = some (.int .i64 a0_1) := (blk_cell BK234.out 1).trans rfl
     have hfz22_0 := blk_frozen BK234.out 0
     have hfz22_1 := blk_frozen BK234.out 1
     go_wp2_with (first | ((with_reducible refine gate_callee (f := 56) rfl ?_); refine goesL_ (some 23) rfl rfl Try.func56 (by kernel_rfl) rfl #[.agg #[.slice A0_0 l0_0.length c0_0, .int .i64 a0_1]] rfl ql2 ?_; (with_reducible refine (forecourtref01_Clashes.calls kj5 _ _ l0_0 a0_1 true _ ?side1 ?side2 A20.out).mono ?_); (case side1 => (exact (Kd.C_below HR0_0.out HB.out))); (case side2 => exact HC0_0.out); rintro e w23 ⟨rfl, hb⟩; refine ⟨_, rfl, ?_⟩; have n0_ := Aside0.mk (blk_below (g := gb234) (o := .cells #[.slice A0_0 l0_0.length c0_0, .int .i64 a0_1] 24 (0, 0)) (by exact BK234.out) hb); have n1_ := Aside0.mk (below_step ql3 hb); clear BK234; clear HB; have BK234 := n0_; have HB := n1_; clear n0_ n1_; (try clear hb); (try clear hb2); (try clear hk); (try clear hi)))
     go_ret
     exact ⟨by first | rfl | (simp [errW_none, errW_some] <;> rfl) | (simp [*, errW_none, errW_some] <;> rfl), by (with_reducible exact HB.out)⟩
    replace c21 := Bool.eq_false_iff.mpr c21
    subst c21
    have H1 : ((forecourtref01_True.f l0_0 a0_1 a1).bind fun bt240 => ((forecourtref01_True.f l0_0 a0_1 a2).bind fun bt242 => (if bt240.1 > bt242.2 then (some 24) else (some 0)))) = some r := by rw [if_neg (show ¬ (false = true) by decide)] at H; exact H
    clear H
    have H := H1
    clear H1
    replace H := Option.bind_eq_some_iff.mp H
    obtain ⟨⟨t240, t241⟩, A240, H⟩ := H
    replace H : ((forecourtref01_True.f l0_0 a0_1 a2).bind fun bt242 => (if t240 > bt242.2 then (some 24) else (some 0))) = some r := H
    have A24 := Aside0.mk A240
    clear A240
    replace H := Option.bind_eq_some_iff.mp H
    obtain ⟨⟨t242, t243⟩, A250, H⟩ := H
    replace H : (if t240 > t243 then (some 24) else (some 0)) = some r := H
    have A25 := Aside0.mk A250
    clear A250
    by_cases c26 : t240 > t243
    ·rw [if_pos c26] at H
     have c26b0 : decide (t243 < t240) = true := decide_eq_true c26
     clear c26
     obtain rfl := Option.some.inj H
     have hcz27_0 : wc.cell? ⟨gb234, 0, none⟩ = some (.slice A0_0 l0_0.length c0_0) := (blk_cell BK234.out 0).trans rfl
     have hcz27_1 : wc.cell? ⟨gb234, 1, none⟩ = some (.int .i64 a0_1) := (blk_cell BK234.out 1).trans rfl
     have hfz27_0 := blk_frozen BK234.out 0
     have hfz27_1 := blk_frozen BK234.out 1
     try go_wp2_with (first | ((with_reducible refine gate_callee (f := 56) rfl ?_); refine goesL_ (some 23) rfl rfl Try.func56 (by kernel_rfl) rfl #[.agg #[.slice A0_0 l0_0.length c0_0, .int .i64 a0_1]] rfl ql2 ?_; (with_reducible refine (forecourtref01_Clashes.calls kj5 _ _ l0_0 a0_1 false _ ?side1 ?side2 A20.out).mono ?_); (case side1 => (exact (Kd.C_below HR0_0.out HB.out))); (case side2 => exact HC0_0.out); rintro e w28 ⟨rfl, hb⟩; refine ⟨_, rfl, ?_⟩; have n0_ := Aside0.mk (blk_below (g := gb234) (o := .cells #[.slice A0_0 l0_0.length c0_0, .int .i64 a0_1] 24 (0, 0)) (by exact BK234.out) hb); have n1_ := Aside0.mk (below_step ql3 hb); clear BK234; clear HB; have BK234 := n0_; have HB := n1_; clear n0_ n1_; (try clear hb); (try clear hb2); (try clear hk); (try clear hi)))
     have n0_ := Aside0.mk (blk_drew BK234.out)
     have n1_ := Aside0.mk (below_drew1 HB.out)
     clear BK234 HB
     have BK234 := n0_
     have HB := n1_
     clear n0_ n1_
     refine start_ (n := 9) (S := fun w' => w'.cell? ⟨gb234, 0, none⟩ = some (.slice A0_0 l0_0.length c0_0) ∧ w'.cell? ⟨gb234, 1, none⟩ = some (.int .i64 a0_1)) (ds := []) #[false, false, false, false, false, false, false, false, false] (by kernel_rfl) rfl rfl ⟨(blk_cell BK234.out 0).trans rfl, (blk_cell BK234.out 1).trans rfl⟩ (fun hHeld => ?_); refine with_tabW forecourtref01_NetError.tab7 forecourtref01_NetError.bits7 (fun HT_ HW_ => ?_)
     generalize w28.drew = w29 at BK234 HB hHeld ⊢
     refine pureT (i := 1) (N := some 25) HT_.out ?_
     refine pureT (i := 5) (N := some 29) HT_.out ?_
     refine takeT (i := 0) (N := some 24) HT_.out HW_.out hHeld (hy := by (rintro w' ⟨s0, s1⟩; go_simp; with_reducible rfl)) (h := ?_)
     refine takeT (i := 4) (N := some 28) HT_.out HW_.out hHeld (hy := by (rintro w' ⟨s0, s1⟩; go_simp; with_reducible rfl)) (h := ?_)
     refine one_ (i := 2) (N := some 26) #[true, true, true, false, true, true, false, false, false] rfl rfl (one_of HT_.out (by kernel_rfl)) (by decide) (fun K hK => ?_)
     refine goes_ Try.func42 (by kernel_rfl) rfl #[.agg #[.slice A0_0 l0_0.length c0_0, .int .i64 a0_1], .int .i64 a1] (by rfl) rfl rfl ql2 ?_
     with_reducible refine (forecourtref01_True.calls _ _ l0_0 a0_1 a1 t240 t241 _ ?side1 ?side2 A24.out).mono ?_
     (case side1 => (exact (Kd.C_below HR0_0.out HB.out)))
     (case side2 => exact HC0_0.out)
     rintro e w30 ⟨rfl, hb⟩
     refine ⟨_, rfl, ?_⟩
     have n0_ := Aside0.mk (blk_below (g := gb234) (o := .cells #[.slice A0_0 l0_0.length c0_0, .int .i64 a0_1] 24 (0, 0)) (by exact BK234.out) hb)
     have n1_ := Aside0.mk (below_step ql3 hb)
     clear BK234 HB
     have BK234 := n0_
     have HB := n1_
     clear n0_ n1_
     (try clear hb)
     refine hK.out _ _ ⟨(blk_cell BK234.out 0).trans rfl, (blk_cell BK234.out 1).trans rfl⟩ (fun hHeld => ?_)
     clear hK K
     refine norm_ (a' := ?_) ?_ ?_
     rotate_left
     ·show Act.put _ (some 26) _ = _
      simp only [Act.put, List.setIfInBounds_toArray, List.set_cons_zero, List.set_cons_succ, i64_w, i32_w]
      rfl
     refine pureT (i := 3) (N := some 27) HT_.out ?_
     refine one_ (i := 6) (N := some 30) #[true, true, true, true, true, true, true, false, false] rfl rfl (one_of HT_.out (by kernel_rfl)) (by decide) (fun K hK => ?_)
     refine goes_ Try.func42 (by kernel_rfl) rfl #[.agg #[.slice A0_0 l0_0.length c0_0, .int .i64 a0_1], .int .i64 a2] (by rfl) rfl rfl ql2 ?_
     with_reducible refine (forecourtref01_True.calls _ _ l0_0 a0_1 a2 t242 t243 _ ?side1 ?side2 A25.out).mono ?_
     (case side1 => (exact (Kd.C_below HR0_0.out HB.out)))
     (case side2 => exact HC0_0.out)
     rintro e w31 ⟨rfl, hb⟩
     refine ⟨_, rfl, ?_⟩
     have n0_ := Aside0.mk (blk_below (g := gb234) (o := .cells #[.slice A0_0 l0_0.length c0_0, .int .i64 a0_1] 24 (0, 0)) (by exact BK234.out) hb)
     have n1_ := Aside0.mk (below_step ql3 hb)
     clear BK234 HB
     have BK234 := n0_
     have HB := n1_
     clear n0_ n1_
     (try clear hb)
     refine hK.out _ _ ⟨(blk_cell BK234.out 0).trans rfl, (blk_cell BK234.out 1).trans rfl⟩ (fun hHeld => ?_)
     clear hK K
     refine norm_ (a' := ?_) ?_ ?_
     rotate_left
     ·show Act.put _ (some 30) _ = _
      simp only [Act.put, List.setIfInBounds_toArray, List.set_cons_zero, List.set_cons_succ, i64_w, i32_w]
      rfl
     refine pureT (i := 7) (N := some 31) HT_.out ?_
     refine pureT (i := 8) (N := some 32) HT_.out ?_
     refine done_ (done_of HT_.out (by kernel_rfl)) ?_
     try go_wp2
     go_ret
     exact ⟨by first | rfl | (simp [errW_none, errW_some] <;> rfl) | (simp [*, errW_none, errW_some] <;> rfl), by (with_reducible exact HB.out)⟩
    rw [if_neg c26] at H
    have c26b0 : decide (t243 < t240) = false := decide_eq_false c26
    clear c26
    obtain rfl := Option.some.inj H
    have hcz32_0 : wc.cell? ⟨gb234, 0, none⟩ = some (.slice A0_0 l0_0.length c0_0) := (blk_cell BK234.out 0).trans rfl
    have hcz32_1 : wc.cell? ⟨gb234, 1, none⟩ = some (.int .i64 a0_1) := (blk_cell BK234.out 1).trans rfl
    have hfz32_0 := blk_frozen BK234.out 0
    have hfz32_1 := blk_frozen BK234.out 1
    try go_wp2_with (first | ((with_reducible refine gate_callee (f := 56) rfl ?_); refine goesL_ (some 23) rfl rfl Try.func56 (by kernel_rfl) rfl #[.agg #[.slice A0_0 l0_0.length c0_0, .int .i64 a0_1]] rfl ql2 ?_; (with_reducible refine (forecourtref01_Clashes.calls kj5 _ _ l0_0 a0_1 false _ ?side1 ?side2 A20.out).mono ?_); (case side1 => (exact (Kd.C_below HR0_0.out HB.out))); (case side2 => exact HC0_0.out); rintro e w33 ⟨rfl, hb⟩; refine ⟨_, rfl, ?_⟩; have n0_ := Aside0.mk (blk_below (g := gb234) (o := .cells #[.slice A0_0 l0_0.length c0_0, .int .i64 a0_1] 24 (0, 0)) (by exact BK234.out) hb); have n1_ := Aside0.mk (below_step ql3 hb); clear BK234; clear HB; have BK234 := n0_; have HB := n1_; clear n0_ n1_; (try clear hb); (try clear hb2); (try clear hk); (try clear hi)))
    have n0_ := Aside0.mk (blk_drew BK234.out)
    have n1_ := Aside0.mk (below_drew1 HB.out)
    clear BK234 HB
    have BK234 := n0_
    have HB := n1_
    clear n0_ n1_
    refine start_ (n := 9) (S := fun w' => w'.cell? ⟨gb234, 0, none⟩ = some (.slice A0_0 l0_0.length c0_0) ∧ w'.cell? ⟨gb234, 1, none⟩ = some (.int .i64 a0_1)) (ds := []) #[false, false, false, false, false, false, false, false, false] (by kernel_rfl) rfl rfl ⟨(blk_cell BK234.out 0).trans rfl, (blk_cell BK234.out 1).trans rfl⟩ (fun hHeld => ?_); refine with_tabW forecourtref01_NetError.tab7 forecourtref01_NetError.bits7 (fun HT_ HW_ => ?_)
    generalize w33.drew = w34 at BK234 HB hHeld ⊢
    refine pureT (i := 1) (N := some 25) HT_.out ?_
    refine pureT (i := 5) (N := some 29) HT_.out ?_
    refine takeT (i := 0) (N := some 24) HT_.out HW_.out hHeld (hy := by (rintro w' ⟨s0, s1⟩; go_simp; with_reducible rfl)) (h := ?_)
    refine takeT (i := 4) (N := some 28) HT_.out HW_.out hHeld (hy := by (rintro w' ⟨s0, s1⟩; go_simp; with_reducible rfl)) (h := ?_)
    refine one_ (i := 2) (N := some 26) #[true, true, true, false, true, true, false, false, false] rfl rfl (one_of HT_.out (by kernel_rfl)) (by decide) (fun K hK => ?_)
    refine goes_ Try.func42 (by kernel_rfl) rfl #[.agg #[.slice A0_0 l0_0.length c0_0, .int .i64 a0_1], .int .i64 a1] (by rfl) rfl rfl ql2 ?_
    with_reducible refine (forecourtref01_True.calls _ _ l0_0 a0_1 a1 t240 t241 _ ?side1 ?side2 A24.out).mono ?_
    (case side1 => (exact (Kd.C_below HR0_0.out HB.out)))
    (case side2 => exact HC0_0.out)
    rintro e w35 ⟨rfl, hb⟩
    refine ⟨_, rfl, ?_⟩
    have n0_ := Aside0.mk (blk_below (g := gb234) (o := .cells #[.slice A0_0 l0_0.length c0_0, .int .i64 a0_1] 24 (0, 0)) (by exact BK234.out) hb)
    have n1_ := Aside0.mk (below_step ql3 hb)
    clear BK234 HB
    have BK234 := n0_
    have HB := n1_
    clear n0_ n1_
    (try clear hb)
    refine hK.out _ _ ⟨(blk_cell BK234.out 0).trans rfl, (blk_cell BK234.out 1).trans rfl⟩ (fun hHeld => ?_)
    clear hK K
    refine norm_ (a' := ?_) ?_ ?_
    rotate_left
    ·show Act.put _ (some 26) _ = _
     simp only [Act.put, List.setIfInBounds_toArray, List.set_cons_zero, List.set_cons_succ, i64_w, i32_w]
     rfl
    refine pureT (i := 3) (N := some 27) HT_.out ?_
    refine one_ (i := 6) (N := some 30) #[true, true, true, true, true, true, true, false, false] rfl rfl (one_of HT_.out (by kernel_rfl)) (by decide) (fun K hK => ?_)
    refine goes_ Try.func42 (by kernel_rfl) rfl #[.agg #[.slice A0_0 l0_0.length c0_0, .int .i64 a0_1], .int .i64 a2] (by rfl) rfl rfl ql2 ?_
    with_reducible refine (forecourtref01_True.calls _ _ l0_0 a0_1 a2 t242 t243 _ ?side1 ?side2 A25.out).mono ?_
    (case side1 => (exact (Kd.C_below HR0_0.out HB.out)))
    (case side2 => exact HC0_0.out)
    rintro e w36 ⟨rfl, hb⟩
    refine ⟨_, rfl, ?_⟩
    have n0_ := Aside0.mk (blk_below (g := gb234) (o := .cells #[.slice A0_0 l0_0.length c0_0, .int .i64 a0_1] 24 (0, 0)) (by exact BK234.out) hb)
    have n1_ := Aside0.mk (below_step ql3 hb)
    clear BK234 HB
    have BK234 := n0_
    have HB := n1_
    clear n0_ n1_
    (try clear hb)
    refine hK.out _ _ ⟨(blk_cell BK234.out 0).trans rfl, (blk_cell BK234.out 1).trans rfl⟩ (fun hHeld => ?_)
    clear hK K
    refine norm_ (a' := ?_) ?_ ?_
    rotate_left
    ·show Act.put _ (some 30) _ = _
     simp only [Act.put, List.setIfInBounds_toArray, List.set_cons_zero, List.set_cons_succ, i64_w, i32_w]
     rfl
    refine pureT (i := 7) (N := some 31) HT_.out ?_
    refine pureT (i := 8) (N := some 32) HT_.out ?_
    refine done_ (done_of HT_.out (by kernel_rfl)) ?_
    try go_wp2
    go_ret
    exact ⟨by first | rfl | (simp [errW_none, errW_some] <;> rfl) | (simp [*, errW_none, errW_some] <;> rfl), by (with_reducible exact HB.out)⟩
 rw [if_neg c5] at H
 have c5b0 : (t235 == 0) = false := beq_eq_false_iff_ne.mpr c5
 have c5b1 : (t235 != 0) = true := bne_iff_ne.mpr c5
 replace H := Option.bind_eq_some_iff.mp H
 obtain ⟨t236, A370, H⟩ := H
 replace H : (some t236) = some r := H
 have A37 := Aside0.mk A370
 clear A370
 have EA37 := Aside0.mk (Option.some.inj (A4.out.symm.trans A37.out))
 obtain rfl := Option.some.inj H
 go_enter Try.func41, Try.ntmps41
 go_wp2_with (first | ((with_reducible refine gate_dst (N := 3) rfl ?_); refine box_event ?hg (N := 3) ?hd (cs := #[.slice A0_0 l0_0.length c0_0, .int .i64 a0_1]) (t := 24) ?hr ?_; (case hd => rfl); (case hg => rfl); (case hr => first | (go_simp; done) | (go_simp; rfl)); intro gb234 hg w38 hbox hb; have n0_ := Aside0.mk (below_step ql3 hb); have n1_ := Aside0.mk (hbox); have n2_ := Aside0.mk ((by rw [hg]; exact (below_size ql3) : w.heap.size ≤ gb234)); have n3_ := Aside0.mk ((by rw [hg]; exact (below_size ql3) : w.heap.size ≤ gb234)); clear HB; have HB := n0_; have BK234 := n1_; have GW234 := n2_; have GE234 := n3_; clear n0_ n1_ n2_ n3_; clear hb hbox hg; have hcz39_0 : w38.cell? ⟨gb234, 0, none⟩ = some (.slice A0_0 l0_0.length c0_0) := (blk_cell BK234.out 0).trans rfl; have hcz39_1 : w38.cell? ⟨gb234, 1, none⟩ = some (.int .i64 a0_1) := (blk_cell BK234.out 1).trans rfl; have hfz39_0 := blk_frozen BK234.out 0; have hfz39_1 := blk_frozen BK234.out 1) | ((with_reducible refine gate_callee (f := 22) rfl ?_); refine goesL_ (some 8) rfl rfl Try.func22 (by kernel_rfl) rfl #[.agg #[.slice A0_0 l0_0.length c0_0, .int .i64 a0_1]] rfl ql2 ?_; (with_reducible refine (forecourtref01_CheckTank.calls k _ _ l0_0 a0_1 t235 _ ?side1 ?side2 A4.out).mono ?_); (case side1 => (exact (Kd.C_below HR0_0.out HB.out))); (case side2 => exact HC0_0.out); rintro e w40 ⟨rfl, hb⟩; refine ⟨_, rfl, ?_⟩; have n0_ := Aside0.mk (blk_below (g := gb234) (o := .cells #[.slice A0_0 l0_0.length c0_0, .int .i64 a0_1] 24 (0, 0)) (by exact BK234.out) hb); have n1_ := Aside0.mk (below_step ql3 hb); clear BK234; clear HB; have BK234 := n0_; have HB := n1_; clear n0_ n1_; (try clear hb); (try clear hb2); (try clear hk); (try clear hi); have hcz41_0 : w40.cell? ⟨gb234, 0, none⟩ = some (.slice A0_0 l0_0.length c0_0) := (blk_cell BK234.out 0).trans rfl; have hcz41_1 : w40.cell? ⟨gb234, 1, none⟩ = some (.int .i64 a0_1) := (blk_cell BK234.out 1).trans rfl; have hfz41_0 := blk_frozen BK234.out 0; have hfz41_1 := blk_frozen BK234.out 1) | ((with_reducible refine gate_callee (f := 22) rfl ?_); refine goesL_ (some 11) rfl rfl Try.func22 (by kernel_rfl) rfl #[.agg #[.slice A0_0 l0_0.length c0_0, .int .i64 a0_1]] rfl ql2 ?_; (with_reducible refine (forecourtref01_CheckTank.calls k _ _ l0_0 a0_1 t236 _ ?side1 ?side2 A37.out).mono ?_); (case side1 => (exact (Kd.C_below HR0_0.out HB.out))); (case side2 => exact HC0_0.out); rintro e w42 ⟨rfl, hb⟩; refine ⟨_, rfl, ?_⟩; have n0_ := Aside0.mk (blk_below (g := gb234) (o := .cells #[.slice A0_0 l0_0.length c0_0, .int .i64 a0_1] 24 (0, 0)) (by exact BK234.out) hb); have n1_ := Aside0.mk (below_step ql3 hb); clear BK234; clear HB; have BK234 := n0_; have HB := n1_; clear n0_ n1_; (try clear hb); (try clear hb2); (try clear hk); (try clear hi)))
 go_ret
 try (have d_ := EA37.out; clear EA37; subst d_)
 exact ⟨by first | rfl | (simp [errW_none, errW_some] <;> rfl) | (simp [*, errW_none, errW_some] <;> rfl), by (with_reducible exact HB.out)⟩
end Go.Proofs.Ytpkajhmchcbbhaa.P
end
