/- Part 10 of 39. -/
import Derived.Test.YtpkajhmchcbbhaaF0
import Derived.Test.YtpkajhmchcbbhaaF5
import Derived.Test.YtpkajhmchcbbhaaF9
set_option linter.unusedSimpArgs false
set_option linter.unusedVariables false
section
namespace Go.Proofs.Ytpkajhmchcbbhaa.P
open Go.RowKit Go.Proofs.YtpkajhmchcbbhaaW.PrintWords Go.Proofs.YtpkajhmchcbbhaaW.PrintLast Go.Proofs.YtpkajhmchcbbhaaW.PrintMore
attribute [local go_sem] max2_int min2_int max_two min_two max_three min_three max_four min_four
mutual
def forecourtref01_Common.j0 : Nat → Int → Bool → Int → Int → Int → Int → Option (Int × Int × Int × Int × Int)
 | 0, _, _, _, _, _, _ => none
 | k + 1, x0, x18, x369000, x369001, x370000, x370001 => if x18 = true then (some (0, 0, 0, 0, 3)) else ((forecourtref01_valid.f x369000 x369001 (-400) 400).bind fun t371 => (if t371 = true then ((forecourtref01_valid.f x370000 x370001 0 200).bind fun t372 => (forecourtref01_Common.j1 k x0 (!t372) x369000 x369001 x370000 x370001)) else (forecourtref01_Common.j1 k x0 true x369000 x369001 x370000 x370001)))
def forecourtref01_Common.j1 : Nat → Int → Bool → Int → Int → Int → Int → Option (Int × Int × Int × Int × Int)
 | 0, _, _, _, _, _, _ => none
 | k + 1, x0, x27, x369000, x369001, x370000, x370001 => if x27 = true then (some (0, 0, 0, 0, 2)) else (forecourtref01_Common.l0 k x0 (wrap64 (x369000 * x370000)) (wrap64 (x369000 * x370000)) 0 x369000 x369001 x370000 x370001)
def forecourtref01_Common.l0 : Nat → Int → Int → Int → Int → Int → Int → Int → Int → Option (Int × Int × Int × Int × Int)
 | 0, _, _, _, _, _, _, _, _ => none
 | k + 1, x0, x8, x9, x10, x369000, x369001, x370000, x370001 => if x10 < 4 then (if (Int.tmod x10 2) = 1 then (if (wrap64 (Int.tdiv x10 2)) = 1 then (forecourtref01_Common.l0 k x0 (mn x8 (wrap64 (x369001 * x370001))) (mx x9 (wrap64 (x369001 * x370001))) (wrap64 (x10 + 1)) x369000 x369001 x370000 x370001) else (forecourtref01_Common.l0 k x0 (mn x8 (wrap64 (x369001 * x370000))) (mx x9 (wrap64 (x369001 * x370000))) (wrap64 (x10 + 1)) x369000 x369001 x370000 x370001)) else (if (wrap64 (Int.tdiv x10 2)) = 1 then (forecourtref01_Common.l0 k x0 (mn x8 (wrap64 (x369000 * x370001))) (mx x9 (wrap64 (x369000 * x370001))) (wrap64 (x10 + 1)) x369000 x369001 x370000 x370001) else (forecourtref01_Common.l0 k x0 (mn x8 (wrap64 (x369000 * x370000))) (mx x9 (wrap64 (x369000 * x370000))) (wrap64 (x10 + 1)) x369000 x369001 x370000 x370001))) else ((forecourtref01_Fraction.f k (wrap64 (1000000 * x0)) (wrap64 (1000000 + x9))).bind fun bt373 => ((forecourtref01_Fraction.f k (wrap64 (1000000 * x0)) (wrap64 (1000000 + x8))).bind fun bt375 => (some (bt373.1, bt373.2, bt375.1, bt375.2, 0))))
end
def forecourtref01_Common.f (k : Nat) (a0 : Int) (a1_0 : Int) (a1_1 : Int) (a2_0 : Int) (a2_1 : Int) : Option (Int × Int × Int × Int × Int) := if a0 < 0 then (forecourtref01_Common.j0 k a0 true a1_0 a1_1 a2_0 a2_1) else (forecourtref01_Common.j0 k a0 (decide (a0 > 100000)) a1_0 a1_1 a2_0 a2_1)
set_option maxHeartbeats 8000000 in
set_option maxRecDepth 100000 in
theorem forecourtref01_Common.calls (k : Nat) (a0 : Int) (a1_0 : Int) (a1_1 : Int) (a2_0 : Int) (a2_1 : Int) (r1 : Int) (r2 : Int) (r3 : Int) (r4 : Int) (r5 : Int) (w : World) (h : forecourtref01_Common.f k a0 a1_0 a1_1 a2_0 a2_1 = some (r1, r2, r3, r4, r5)) :
  Calls Try.prog 37 #[.int .i64 a0, .agg #[.int .i64 a1_0, .int .i64 a1_1], .agg #[.int .i64 a2_0, .int .i64 a2_1]] w fun e w' => e = .returned (.tuple #[.agg #[.int .i64 r1, .int .i64 r2, .int .i64 r3, .int .i64 r4], .int .i64 r5]) ∧ Below w.heap.size w w' := by
 have hu43 := Try.underlying43
 have hu48 := Try.underlying48
 have HB := Aside0.mk (Below.refl w.heap.size w)
 have H : (if a0 < 0 then (forecourtref01_Common.j0 k a0 true a1_0 a1_1 a2_0 a2_1) else (forecourtref01_Common.j0 k a0 (decide (a0 > 100000)) a1_0 a1_1 a2_0 a2_1)) = some (r1, r2, r3, r4, r5) := h
 clear h
 have HC4 := Aside0.mk H
 clear H
 go_enter Try.func37, Try.ntmps37
 go_upto_region 1 with (first | ((with_reducible refine gate_dst (N := 4) rfl ?_); refine box_event ?hg (N := 4) ?hd (cs := #[.int .i64 a1_0, .int .i64 a1_1]) (t := 43) ?hr ?_; (case hd => rfl); (case hg => rfl); (case hr => first | (go_simp; done) | (go_simp; rfl)); intro gb368 hg w5 hbox hb; have n0_ := Aside0.mk (below_step qf0 hb); have n1_ := Aside0.mk (hbox); have n2_ := Aside0.mk ((by rw [hg]; exact (below_size qf0) : w.heap.size ≤ gb368)); have n3_ := Aside0.mk ((by rw [hg]; exact (below_size qf0) : w.heap.size ≤ gb368)); clear HB; have HB := n0_; have BK368 := n1_; have GW368 := n2_; have GE368 := n3_; clear n0_ n1_ n2_ n3_; clear hb hbox hg) | ((with_reducible refine gate_dst (N := 5) rfl ?_); refine box_event ?hg (N := 5) ?hd (cs := #[.int .i64 a2_0, .int .i64 a2_1]) (t := 43) ?hr ?_; (case hd => rfl); (case hg => rfl); (case hr => first | (go_simp; done) | (go_simp; rfl)); intro gb369 hg w6 hbox hb; have n0_ := Aside0.mk (blk_below (g := gb368) (o := .cells #[.int .i64 a1_0, .int .i64 a1_1] 43 (0, 0)) qf2 hb); have n1_ := Aside0.mk (below_step qf10 hb); have n2_ := Aside0.mk (hbox); have n3_ := Aside0.mk ((by rw [hg]; exact (below_size qf10) : w.heap.size ≤ gb369)); have n4_ := Aside0.mk ((by rw [hg]; exact (below_size qf10) : w.heap.size ≤ gb369)); have n5_ := Aside0.mk ((by rw [hg]; exact Nat.ne_of_lt (blk_lt (g := gb368) (o := .cells #[.int .i64 a1_0, .int .i64 a1_1] 43 (0, 0)) qf2) : gb368 ≠ gb369)); have n6_ := Aside0.mk ((by rw [hg]; exact Nat.ne_of_gt (blk_lt (g := gb368) (o := .cells #[.int .i64 a1_0, .int .i64 a1_1] 43 (0, 0)) qf2) : gb369 ≠ gb368)); clear BK368; clear HB; have BK368 := n0_; have HB := n1_; have BK369 := n2_; have GW369 := n3_; have GE369 := n4_; have NB368_369 := n5_; have NB369_368 := n6_; clear n0_ n1_ n2_ n3_ n4_ n5_ n6_; clear hb hbox hg) | ((with_reducible refine gate_dst (N := 6) rfl ?_); refine box_event ?hg (N := 6) ?hd (cs := #[.int .i64 0, .int .i64 0, .int .i64 0, .int .i64 0]) (t := 48) ?hr ?_; (case hd => rfl); (case hg => rfl); (case hr => first | (go_simp; done) | (go_simp; rfl)); intro gb370 hg w7 hbox hb; have n0_ := Aside0.mk (blk_below (g := gb368) (o := .cells #[.int .i64 a1_0, .int .i64 a1_1] 43 (0, 0)) qf2 hb); have n1_ := Aside0.mk (blk_below (g := gb369) (o := .cells #[.int .i64 a2_0, .int .i64 a2_1] 43 (0, 0)) qf5 hb); have n2_ := Aside0.mk (below_step qf9 hb); have n3_ := Aside0.mk (hbox); have n4_ := Aside0.mk ((by rw [hg]; exact (below_size qf9) : w.heap.size ≤ gb370)); have n5_ := Aside0.mk ((by rw [hg]; exact (below_size qf9) : w.heap.size ≤ gb370)); have n6_ := Aside0.mk ((by rw [hg]; exact Nat.ne_of_lt (blk_lt (g := gb368) (o := .cells #[.int .i64 a1_0, .int .i64 a1_1] 43 (0, 0)) qf2) : gb368 ≠ gb370)); have n7_ := Aside0.mk ((by rw [hg]; exact Nat.ne_of_gt (blk_lt (g := gb368) (o := .cells #[.int .i64 a1_0, .int .i64 a1_1] 43 (0, 0)) qf2) : gb370 ≠ gb368)); have n8_ := Aside0.mk ((by rw [hg]; exact Nat.ne_of_lt (blk_lt (g := gb369) (o := .cells #[.int .i64 a2_0, .int .i64 a2_1] 43 (0, 0)) qf5) : gb369 ≠ gb370)); have n9_ := Aside0.mk ((by rw [hg]; exact Nat.ne_of_gt (blk_lt (g := gb369) (o := .cells #[.int .i64 a2_0, .int .i64 a2_1] 43 (0, 0)) qf5) : gb370 ≠ gb369)); clear BK368; clear BK369; clear HB; have BK368 := n0_; have BK369 := n1_; have HB := n2_; have BK370 := n3_; have GW370 := n4_; have GE370 := n5_; have NB368_370 := n6_; have NB370_368 := n7_; have NB369_370 := n8_; have NB370_369 := n9_; clear n0_ n1_ n2_ n3_ n4_ n5_ n6_ n7_ n8_ n9_; clear hb hbox hg))
 repeat (go_quiet (first | ((with_reducible refine gate_dst (N := 4) rfl ?_); refine box_event ?hg (N := 4) ?hd (cs := #[.int .i64 a1_0, .int .i64 a1_1]) (t := 43) ?hr ?_; (case hd => rfl); (case hg => rfl); (case hr => first | (go_simp; done) | (go_simp; rfl)); intro gb368 hg w5 hbox hb; have n0_ := Aside0.mk (below_step qf0 hb); have n1_ := Aside0.mk (hbox); have n2_ := Aside0.mk ((by rw [hg]; exact (below_size qf0) : w.heap.size ≤ gb368)); have n3_ := Aside0.mk ((by rw [hg]; exact (below_size qf0) : w.heap.size ≤ gb368)); clear HB; have HB := n0_; have BK368 := n1_; have GW368 := n2_; have GE368 := n3_; clear n0_ n1_ n2_ n3_; clear hb hbox hg) | ((with_reducible refine gate_dst (N := 5) rfl ?_); refine box_event ?hg (N := 5) ?hd (cs := #[.int .i64 a2_0, .int .i64 a2_1]) (t := 43) ?hr ?_; (case hd => rfl); (case hg => rfl); (case hr => first | (go_simp; done) | (go_simp; rfl)); intro gb369 hg w6 hbox hb; have n0_ := Aside0.mk (blk_below (g := gb368) (o := .cells #[.int .i64 a1_0, .int .i64 a1_1] 43 (0, 0)) qf2 hb); have n1_ := Aside0.mk (below_step qf10 hb); have n2_ := Aside0.mk (hbox); have n3_ := Aside0.mk ((by rw [hg]; exact (below_size qf10) : w.heap.size ≤ gb369)); have n4_ := Aside0.mk ((by rw [hg]; exact (below_size qf10) : w.heap.size ≤ gb369)); have n5_ := Aside0.mk ((by rw [hg]; exact Nat.ne_of_lt (blk_lt (g := gb368) (o := .cells #[.int .i64 a1_0, .int .i64 a1_1] 43 (0, 0)) qf2) : gb368 ≠ gb369)); have n6_ := Aside0.mk ((by rw [hg]; exact Nat.ne_of_gt (blk_lt (g := gb368) (o := .cells #[.int .i64 a1_0, .int .i64 a1_1] 43 (0, 0)) qf2) : gb369 ≠ gb368)); clear BK368; clear HB; have BK368 := n0_; have HB := n1_; have BK369 := n2_; have GW369 := n3_; have GE369 := n4_; have NB368_369 := n5_; have NB369_368 := n6_; clear n0_ n1_ n2_ n3_ n4_ n5_ n6_; clear hb hbox hg) | ((with_reducible refine gate_dst (N := 6) rfl ?_); refine box_event ?hg (N := 6) ?hd (cs := #[.int .i64 0, .int .i64 0, .int .i64 0, .int .i64 0]) (t := 48) ?hr ?_; (case hd => rfl); (case hg => rfl); (case hr => first | (go_simp; done) | (go_simp; rfl)); intro gb370 hg w7 hbox hb; have n0_ := Aside0.mk (blk_below (g := gb368) (o := .cells #[.int .i64 a1_0, .int .i64 a1_1] 43 (0, 0)) qf2 hb); have n1_ := Aside0.mk (blk_below (g := gb369) (o := .cells #[.int .i64 a2_0, .int .i64 a2_1] 43 (0, 0)) qf5 hb); have n2_ := Aside0.mk (below_step qf9 hb); have n3_ := Aside0.mk (hbox); have n4_ := Aside0.mk ((by rw [hg]; exact (below_size qf9) : w.heap.size ≤ gb370)); have n5_ := Aside0.mk ((by rw [hg]; exact (below_size qf9) : w.heap.size ≤ gb370)); have n6_ := Aside0.mk ((by rw [hg]; exact Nat.ne_of_lt (blk_lt (g := gb368) (o := .cells #[.int .i64 a1_0, .int .i64 a1_1] 43 (0, 0)) qf2) : gb368 ≠ gb370)); have n7_ := Aside0.mk ((by rw [hg]; exact Nat.ne_of_gt (blk_lt (g := gb368) (o := .cells #[.int .i64 a1_0, .int .i64 a1_1] 43 (0, 0)) qf2) : gb370 ≠ gb368)); have n8_ := Aside0.mk ((by rw [hg]; exact Nat.ne_of_lt (blk_lt (g := gb369) (o := .cells #[.int .i64 a2_0, .int .i64 a2_1] 43 (0, 0)) qf5) : gb369 ≠ gb370)); have n9_ := Aside0.mk ((by rw [hg]; exact Nat.ne_of_gt (blk_lt (g := gb369) (o := .cells #[.int .i64 a2_0, .int .i64 a2_1] 43 (0, 0)) qf5) : gb370 ≠ gb369)); clear BK368; clear BK369; clear HB; have BK368 := n0_; have BK369 := n1_; have HB := n2_; have BK370 := n3_; have GW370 := n4_; have GE370 := n5_; have NB368_370 := n6_; have NB370_368 := n7_; have NB369_370 := n8_; have NB370_369 := n9_; clear n0_ n1_ n2_ n3_ n4_ n5_ n6_ n7_ n8_ n9_; clear hb hbox hg)); go_upto_region 1 with (first | ((with_reducible refine gate_dst (N := 4) rfl ?_); refine box_event ?hg (N := 4) ?hd (cs := #[.int .i64 a1_0, .int .i64 a1_1]) (t := 43) ?hr ?_; (case hd => rfl); (case hg => rfl); (case hr => first | (go_simp; done) | (go_simp; rfl)); intro gb368 hg w5 hbox hb; have n0_ := Aside0.mk (below_step qf0 hb); have n1_ := Aside0.mk (hbox); have n2_ := Aside0.mk ((by rw [hg]; exact (below_size qf0) : w.heap.size ≤ gb368)); have n3_ := Aside0.mk ((by rw [hg]; exact (below_size qf0) : w.heap.size ≤ gb368)); clear HB; have HB := n0_; have BK368 := n1_; have GW368 := n2_; have GE368 := n3_; clear n0_ n1_ n2_ n3_; clear hb hbox hg) | ((with_reducible refine gate_dst (N := 5) rfl ?_); refine box_event ?hg (N := 5) ?hd (cs := #[.int .i64 a2_0, .int .i64 a2_1]) (t := 43) ?hr ?_; (case hd => rfl); (case hg => rfl); (case hr => first | (go_simp; done) | (go_simp; rfl)); intro gb369 hg w6 hbox hb; have n0_ := Aside0.mk (blk_below (g := gb368) (o := .cells #[.int .i64 a1_0, .int .i64 a1_1] 43 (0, 0)) qf2 hb); have n1_ := Aside0.mk (below_step qf10 hb); have n2_ := Aside0.mk (hbox); have n3_ := Aside0.mk ((by rw [hg]; exact (below_size qf10) : w.heap.size ≤ gb369)); have n4_ := Aside0.mk ((by rw [hg]; exact (below_size qf10) : w.heap.size ≤ gb369)); have n5_ := Aside0.mk ((by rw [hg]; exact Nat.ne_of_lt (blk_lt (g := gb368) (o := .cells #[.int .i64 a1_0, .int .i64 a1_1] 43 (0, 0)) qf2) : gb368 ≠ gb369)); have n6_ := Aside0.mk ((by rw [hg]; exact Nat.ne_of_gt (blk_lt (g := gb368) (o := .cells #[.int .i64 a1_0, .int .i64 a1_1] 43 (0, 0)) qf2) : gb369 ≠ gb368)); clear BK368; clear HB; have BK368 := n0_; have HB := n1_; have BK369 := n2_; have GW369 := n3_; have GE369 := n4_; have NB368_369 := n5_; have NB369_368 := n6_; clear n0_ n1_ n2_ n3_ n4_ n5_ n6_; clear hb hbox hg) | ((with_reducible refine gate_dst (N := 6) rfl ?_); refine box_event ?hg (N := 6) ?hd (cs := #[.int .i64 0, .int .i64 0, .int .i64 0, .int .i64 0]) (t := 48) ?hr ?_; (case hd => rfl); (case hg => rfl); (case hr => first | (go_simp; done) | (go_simp; rfl)); intro gb370 hg w7 hbox hb; have n0_ := Aside0.mk (blk_below (g := gb368) (o := .cells #[.int .i64 a1_0, .int .i64 a1_1] 43 (0, 0)) qf2 hb); have n1_ := Aside0.mk (blk_below (g := gb369) (o := .cells #[.int .i64 a2_0, .int .i64 a2_1] 43 (0, 0)) qf5 hb); have n2_ := Aside0.mk (below_step qf9 hb); have n3_ := Aside0.mk (hbox); have n4_ := Aside0.mk ((by rw [hg]; exact (below_size qf9) : w.heap.size ≤ gb370)); have n5_ := Aside0.mk ((by rw [hg]; exact (below_size qf9) : w.heap.size ≤ gb370)); have n6_ := Aside0.mk ((by rw [hg]; exact Nat.ne_of_lt (blk_lt (g := gb368) (o := .cells #[.int .i64 a1_0, .int .i64 a1_1] 43 (0, 0)) qf2) : gb368 ≠ gb370)); have n7_ := Aside0.mk ((by rw [hg]; exact Nat.ne_of_gt (blk_lt (g := gb368) (o := .cells #[.int .i64 a1_0, .int .i64 a1_1] 43 (0, 0)) qf2) : gb370 ≠ gb368)); have n8_ := Aside0.mk ((by rw [hg]; exact Nat.ne_of_lt (blk_lt (g := gb369) (o := .cells #[.int .i64 a2_0, .int .i64 a2_1] 43 (0, 0)) qf5) : gb369 ≠ gb370)); have n9_ := Aside0.mk ((by rw [hg]; exact Nat.ne_of_gt (blk_lt (g := gb369) (o := .cells #[.int .i64 a2_0, .int .i64 a2_1] 43 (0, 0)) qf5) : gb370 ≠ gb369)); clear BK368; clear BK369; clear HB; have BK368 := n0_; have BK369 := n1_; have HB := n2_; have BK370 := n3_; have GW370 := n4_; have GE370 := n5_; have NB368_370 := n6_; have NB370_368 := n7_; have NB369_370 := n8_; have NB370_369 := n9_; clear n0_ n1_ n2_ n3_ n4_ n5_ n6_ n7_ n8_ n9_; clear hb hbox hg)))
 (try simp only [Act.put, List.setIfInBounds_toArray, List.set_cons_zero, List.set_cons_succ])
 go_cut [18] (fun v18 wc => ∃ (kq : Nat) (x18_3 : Bool), v18 = .bool x18_3 ∧ Aside0 (forecourtref01_Common.j0 kq a0 x18_3 a1_0 a1_1 a2_0 a2_1 = some (r1, r2, r3, r4, r5)) ∧ Aside0 (kq ≤ k) ∧ Aside0 (wc.heap[gb368]? = some (.cells #[.int .i64 a1_0, .int .i64 a1_1] 43 (0, 0))) ∧ Aside0 (wc.heap[gb369]? = some (.cells #[.int .i64 a2_0, .int .i64 a2_1] 43 (0, 0))) ∧ Aside0 (wc.heap[gb370]? = some (.cells #[.int .i64 0, .int .i64 0, .int .i64 0, .int .i64 0] 48 (0, 0))) ∧ Aside0 (Below w.heap.size w wc))
 case first =>
  have H := HC4.out
  clear HC4
  by_cases c8 : a0 < 0
  ·rw [if_pos c8] at H
   have c8b0 : decide (a0 < 0) = true := decide_eq_true c8
   clear c8
   (first | rw [c8b0] | (simp only [i64_w, i32_w]; rw [c8b0]) | skip)
   have H' := Aside0.mk H
   clear H
   go_wp2
   repeat (go_quiet (fail); try go_wp2)
   go_meet
   case rel => exact ⟨_, (true), qf7, H', ⟨by first | omega | exact Nat.le_refl _⟩, ⟨by (with_reducible repeat (first | refine blk_drewN ?_ _ | refine blk_drew ?_ | refine blk_alloc ?_ _)); exact BK368.out⟩, ⟨by (with_reducible repeat (first | refine blk_drewN ?_ _ | refine blk_drew ?_ | refine blk_alloc ?_ _)); exact BK369.out⟩, ⟨by (with_reducible repeat (first | refine blk_drewN ?_ _ | refine blk_drew ?_ | refine blk_alloc ?_ _)); exact BK370.out⟩, ⟨by repeat (first | (with_reducible first | exact HB.out | apply below_alloc | apply pw_below_drewN | apply below_drew1 | refine below_set ?_ GE368.out | refine below_set ?_ GE369.out | refine below_set ?_ GE370.out) | exact HB.out)⟩⟩
  rw [if_neg c8] at H
  have c8b0 : decide (a0 < 0) = false := decide_eq_false c8
  clear c8
  (first | rw [c8b0] | (simp only [i64_w, i32_w]; rw [c8b0]) | skip)
  have H' := Aside0.mk H
  clear H
  go_wp2
  repeat (go_quiet (fail); try go_wp2)
  go_meet
  case rel => exact ⟨_, (decide (a0 > 100000)), qf7, H', ⟨by first | omega | exact Nat.le_refl _⟩, ⟨by (with_reducible repeat (first | refine blk_drewN ?_ _ | refine blk_drew ?_ | refine blk_alloc ?_ _)); exact BK368.out⟩, ⟨by (with_reducible repeat (first | refine blk_drewN ?_ _ | refine blk_drew ?_ | refine blk_alloc ?_ _)); exact BK369.out⟩, ⟨by (with_reducible repeat (first | refine blk_drewN ?_ _ | refine blk_drew ?_ | refine blk_alloc ?_ _)); exact BK370.out⟩, ⟨by repeat (first | (with_reducible first | exact HB.out | apply below_alloc | apply pw_below_drewN | apply below_drew1 | refine below_set ?_ GE368.out | refine below_set ?_ GE369.out | refine below_set ?_ GE370.out) | exact HB.out)⟩⟩
 case rest =>
  clear HC4
  try clear p2
  try clear c3
  try clear c8
  try clear c8b0
  obtain ⟨kq, x18_3, rfl, HA, HJ3, BK368, BK369, BK370, HB⟩ := hcut
  cases kq with
  | zero => exact absurd HA.out (by simp [forecourtref01_Common.j0])
  | succ kj3 =>
   have H := HA.out
   clear HA
   simp only [forecourtref01_Common.j0] at H
   by_cases c9 : x18_3 = true
   ·subst c9
    have H1 : (some (0, 0, 0, 0, 3)) = some (r1, r2, r3, r4, r5) := by rw [if_pos rfl] at H; exact H
    clear H
    have H := H1
    clear H1
    simp only [Option.some.injEq, Prod.mk.injEq] at H
    obtain ⟨rfl, rfl, rfl, rfl, rfl⟩ := H
    have hnb10 := NB370_368.out
    have hnc10 := NB368_370.out
    have hnb11 := NB370_369.out
    have hnc11 := NB369_370.out
    have hcz12_0 : wc.cell? ⟨gb370, 0, none⟩ = some (.int .i64 0) := (blk_cell BK370.out 0).trans rfl
    have hcz12_1 : wc.cell? ⟨gb370, 1, none⟩ = some (.int .i64 0) := (blk_cell BK370.out 1).trans rfl
    have hcz12_2 : wc.cell? ⟨gb370, 2, none⟩ = some (.int .i64 0) := (blk_cell BK370.out 2).trans rfl
    have hcz12_3 : wc.cell? ⟨gb370, 3, none⟩ = some (.int .i64 0) := (blk_cell BK370.out 3).trans rfl
    have hfz12_0 := blk_frozen BK370.out 0
    have hfz12_1 := blk_frozen BK370.out 1
    have hfz12_2 := blk_frozen BK370.out 2
    have hfz12_3 := blk_frozen BK370.out 3
    go_wp2
    repeat (go_quiet (fail); try go_wp2)
    refine bodyPost_ret (results_ct rfl _ _ gb370 48 #[.int .i64 0, .int .i64 0, .int .i64 0, .int .i64 0] (0, 0) _ rfl qf11 Try.underlying48 rfl (by kernel_rfl)) rfl ?_
    exact ⟨by first | rfl | (simp [errW_none, errW_some] <;> rfl) | (simp [*, errW_none, errW_some] <;> rfl), by repeat (first | (with_reducible first | exact HB.out | apply below_alloc | apply pw_below_drewN | apply below_drew1 | refine below_set ?_ GE368.out | refine below_set ?_ GE369.out | refine below_set ?_ GE370.out) | exact HB.out)⟩
   replace c9 := Bool.eq_false_iff.mpr c9
   subst c9
   have H1 : ((forecourtref01_valid.f a1_0 a1_1 (-400) 400).bind fun t371 => (if t371 = true then ((forecourtref01_valid.f a2_0 a2_1 0 200).bind fun t372 => (forecourtref01_Common.j1 kj3 a0 (!t372) a1_0 a1_1 a2_0 a2_1)) else (forecourtref01_Common.j1 kj3 a0 true a1_0 a1_1 a2_0 a2_1))) = some (r1, r2, r3, r4, r5) := by rw [if_neg (show ¬ (false = true) by decide)] at H; exact H
   clear H
   have H := H1
   clear H1
   have HC13 := Aside0.mk H
   clear H
   go_upto_region 3 with (fail)
   repeat (go_quiet (fail); go_upto_region 3 with (fail))
   go_cut [27] (fun v27 wc => ∃ (kq : Nat) (x27_12 : Bool), v27 = .bool x27_12 ∧ Aside0 (forecourtref01_Common.j1 kq a0 x27_12 a1_0 a1_1 a2_0 a2_1 = some (r1, r2, r3, r4, r5)) ∧ Aside0 (kq ≤ kj3) ∧ Aside0 (wc.heap[gb368]? = some (.cells #[.int .i64 a1_0, .int .i64 a1_1] 43 (0, 0))) ∧ Aside0 (wc.heap[gb369]? = some (.cells #[.int .i64 a2_0, .int .i64 a2_1] 43 (0, 0))) ∧ Aside0 (wc.heap[gb370]? = some (.cells #[.int .i64 0, .int .i64 0, .int .i64 0, .int .i64 0] 48 (0, 0))) ∧ Aside0 (Below w.heap.size w wc))
   case first =>
    have H := HC13.out
    clear HC13
    replace H := Option.bind_eq_some_iff.mp H
    obtain ⟨t371, A140, H⟩ := H
    replace H : (if t371 = true then ((forecourtref01_valid.f a2_0 a2_1 0 200).bind fun t372 => (forecourtref01_Common.j1 kj3 a0 (!t372) a1_0 a1_1 a2_0 a2_1)) else (forecourtref01_Common.j1 kj3 a0 true a1_0 a1_1 a2_0 a2_1)) = some (r1, r2, r3, r4, r5) := H
    have A14 := Aside0.mk A140
    clear A140
    by_cases c15 : t371 = true
    ·subst c15
     have H1 : ((forecourtref01_valid.f a2_0 a2_1 0 200).bind fun t372 => (forecourtref01_Common.j1 kj3 a0 (!t372) a1_0 a1_1 a2_0 a2_1)) = some (r1, r2, r3, r4, r5) := by rw [if_pos rfl] at H; exact H
     clear H
     have H := H1
     clear H1
     replace H := Option.bind_eq_some_iff.mp H
     obtain ⟨t372, A160, H⟩ := H
     replace H : (forecourtref01_Common.j1 kj3 a0 (!t372) a1_0 a1_1 a2_0 a2_1) = some (r1, r2, r3, r4, r5) := H
     have A16 := Aside0.mk A160
     clear A160
     have H' := Aside0.mk H
     clear H
     have hnb17 := NB368_369.out
     have hnc17 := NB369_368.out
     have hnb18 := NB368_370.out
     have hnc18 := NB370_368.out
     have hcz19_0 : wc.cell? ⟨gb368, 0, none⟩ = some (.int .i64 a1_0) := (blk_cell BK368.out 0).trans rfl
     have hcz19_1 : wc.cell? ⟨gb368, 1, none⟩ = some (.int .i64 a1_1) := (blk_cell BK368.out 1).trans rfl
     have hfz19_0 := blk_frozen BK368.out 0
     have hfz19_1 := blk_frozen BK368.out 1
     go_wp2_with (first | (go_at_call 62; (with_reducible refine (forecourtref01_valid.calls a1_0 a1_1 (-400) 400 true _ A14.out).mono ?_); rintro e w20 ⟨rfl, hb⟩; have n0_ := Aside0.mk (blk_below (g := gb368) (o := .cells #[.int .i64 a1_0, .int .i64 a1_1] 43 (0, 0)) qf2 hb); have n1_ := Aside0.mk (blk_below (g := gb369) (o := .cells #[.int .i64 a2_0, .int .i64 a2_1] 43 (0, 0)) qf5 hb); have n2_ := Aside0.mk (blk_below (g := gb370) (o := .cells #[.int .i64 0, .int .i64 0, .int .i64 0, .int .i64 0] 48 (0, 0)) qf8 hb); have n3_ := Aside0.mk (below_step qf3 hb); clear BK368; clear BK369; clear BK370; clear HB; have BK368 := n0_; have BK369 := n1_; have BK370 := n2_; have HB := n3_; clear n0_ n1_ n2_ n3_; (try clear hb); (try clear hb2); (try clear hk); (try clear hi); have hnb21 := NB369_370.out; have hnc21 := NB370_369.out; have hcz22_0 : w20.cell? ⟨gb369, 0, none⟩ = some (.int .i64 a2_0) := (blk_cell BK369.out 0).trans rfl; have hcz22_1 : w20.cell? ⟨gb369, 1, none⟩ = some (.int .i64 a2_1) := (blk_cell BK369.out 1).trans rfl; have hfz22_0 := blk_frozen BK369.out 0; have hfz22_1 := blk_frozen BK369.out 1) | (go_at_call 62; (with_reducible refine (forecourtref01_valid.calls a2_0 a2_1 0 200 t372 _ A16.out).mono ?_); rintro e w23 ⟨rfl, hb⟩; have n0_ := Aside0.mk (blk_below (g := gb368) (o := .cells #[.int .i64 a1_0, .int .i64 a1_1] 43 (0, 0)) qf2 hb); have n1_ := Aside0.mk (blk_below (g := gb369) (o := .cells #[.int .i64 a2_0, .int .i64 a2_1] 43 (0, 0)) qf5 hb); have n2_ := Aside0.mk (blk_below (g := gb370) (o := .cells #[.int .i64 0, .int .i64 0, .int .i64 0, .int .i64 0] 48 (0, 0)) qf8 hb); have n3_ := Aside0.mk (below_step qf3 hb); clear BK368; clear BK369; clear BK370; clear HB; have BK368 := n0_; have BK369 := n1_; have BK370 := n2_; have HB := n3_; clear n0_ n1_ n2_ n3_; (try clear hb); (try clear hb2); (try clear hk); (try clear hi)))
     repeat (go_quiet (first | (go_at_call 62; (with_reducible refine (forecourtref01_valid.calls a1_0 a1_1 (-400) 400 true _ A14.out).mono ?_); rintro e w20 ⟨rfl, hb⟩; have n0_ := Aside0.mk (blk_below (g := gb368) (o := .cells #[.int .i64 a1_0, .int .i64 a1_1] 43 (0, 0)) qf2 hb); have n1_ := Aside0.mk (blk_below (g := gb369) (o := .cells #[.int .i64 a2_0, .int .i64 a2_1] 43 (0, 0)) qf5 hb); have n2_ := Aside0.mk (blk_below (g := gb370) (o := .cells #[.int .i64 0, .int .i64 0, .int .i64 0, .int .i64 0] 48 (0, 0)) qf8 hb); have n3_ := Aside0.mk (below_step qf3 hb); clear BK368; clear BK369; clear BK370; clear HB; have BK368 := n0_; have BK369 := n1_; have BK370 := n2_; have HB := n3_; clear n0_ n1_ n2_ n3_; (try clear hb); (try clear hb2); (try clear hk); (try clear hi); have hnb21 := NB369_370.out; have hnc21 := NB370_369.out; have hcz22_0 : w20.cell? ⟨gb369, 0, none⟩ = some (.int .i64 a2_0) := (blk_cell BK369.out 0).trans rfl; have hcz22_1 : w20.cell? ⟨gb369, 1, none⟩ = some (.int .i64 a2_1) := (blk_cell BK369.out 1).trans rfl; have hfz22_0 := blk_frozen BK369.out 0; have hfz22_1 := blk_frozen BK369.out 1) | (go_at_call 62; (with_reducible refine (forecourtref01_valid.calls a2_0 a2_1 0 200 t372 _ A16.out).mono ?_); rintro e w23 ⟨rfl, hb⟩; have n0_ := Aside0.mk (blk_below (g := gb368) (o := .cells #[.int .i64 a1_0, .int .i64 a1_1] 43 (0, 0)) qf2 hb); have n1_ := Aside0.mk (blk_below (g := gb369) (o := .cells #[.int .i64 a2_0, .int .i64 a2_1] 43 (0, 0)) qf5 hb); have n2_ := Aside0.mk (blk_below (g := gb370) (o := .cells #[.int .i64 0, .int .i64 0, .int .i64 0, .int .i64 0] 48 (0, 0)) qf8 hb); have n3_ := Aside0.mk (below_step qf3 hb); clear BK368; clear BK369; clear BK370; clear HB; have BK368 := n0_; have BK369 := n1_; have BK370 := n2_; have HB := n3_; clear n0_ n1_ n2_ n3_; (try clear hb); (try clear hb2); (try clear hk); (try clear hi))); try go_wp2_with (first | (go_at_call 62; (with_reducible refine (forecourtref01_valid.calls a1_0 a1_1 (-400) 400 true _ A14.out).mono ?_); rintro e w20 ⟨rfl, hb⟩; have n0_ := Aside0.mk (blk_below (g := gb368) (o := .cells #[.int .i64 a1_0, .int .i64 a1_1] 43 (0, 0)) qf2 hb); have n1_ := Aside0.mk (blk_below (g := gb369) (o := .cells #[.int .i64 a2_0, .int .i64 a2_1] 43 (0, 0)) qf5 hb); have n2_ := Aside0.mk (blk_below (g := gb370) (o := .cells #[.int .i64 0, .int .i64 0, .int .i64 0, .int .i64 0] 48 (0, 0)) qf8 hb); have n3_ := Aside0.mk (below_step qf3 hb); clear BK368; clear BK369; clear BK370; clear HB; have BK368 := n0_; have BK369 := n1_; have BK370 := n2_; have HB := n3_; clear n0_ n1_ n2_ n3_; (try clear hb); (try clear hb2); (try clear hk); (try clear hi); have hnb21 := NB369_370.out; have hnc21 := NB370_369.out; have hcz22_0 : w20.cell? ⟨gb369, 0, none⟩ = some (.int .i64 a2_0) := (blk_cell BK369.out 0).trans rfl; have hcz22_1 : w20.cell? ⟨gb369, 1, none⟩ = some (.int .i64 a2_1) := (blk_cell BK369.out 1).trans rfl; have hfz22_0 := blk_frozen BK369.out 0; have hfz22_1 := blk_frozen BK369.out 1) | (go_at_call 62; (with_reducible refine (forecourtref01_valid.calls a2_0 a2_1 0 200 t372 _ A16.out).mono ?_); rintro e w23 ⟨rfl, hb⟩; have n0_ := Aside0.mk (blk_below (g := gb368) (o := .cells #[.int .i64 a1_0, .int .i64 a1_1] 43 (0, 0)) qf2 hb); have n1_ := Aside0.mk (blk_below (g := gb369) (o := .cells #[.int .i64 a2_0, .int .i64 a2_1] 43 (0, 0)) qf5 hb); have n2_ := Aside0.mk (blk_below (g := gb370) (o := .cells #[.int .i64 0, .int .i64 0, .int .i64 0, .int .i64 0] 48 (0, 0)) qf8 hb); have n3_ := Aside0.mk (below_step qf3 hb); clear BK368; clear BK369; clear BK370; clear HB; have BK368 := n0_; have BK369 := n1_; have BK370 := n2_; have HB := n3_; clear n0_ n1_ n2_ n3_; (try clear hb); (try clear hb2); (try clear hk); (try clear hi))))
     go_meet
     case rel => exact ⟨_, (!t372), qf7, H', ⟨by have := HJ3.out; first | omega | exact Nat.le_refl _⟩, ⟨by (with_reducible repeat (first | refine blk_drewN ?_ _ | refine blk_drew ?_ | refine blk_alloc ?_ _)); exact BK368.out⟩, ⟨by (with_reducible repeat (first | refine blk_drewN ?_ _ | refine blk_drew ?_ | refine blk_alloc ?_ _)); exact BK369.out⟩, ⟨by (with_reducible repeat (first | refine blk_drewN ?_ _ | refine blk_drew ?_ | refine blk_alloc ?_ _)); exact BK370.out⟩, ⟨by repeat (first | (with_reducible first | exact HB.out | apply below_alloc | apply pw_below_drewN | apply below_drew1 | refine below_set ?_ GE368.out | refine below_set ?_ GE369.out | refine below_set ?_ GE370.out) | exact HB.out)⟩⟩
    replace c15 := Bool.eq_false_iff.mpr c15
    subst c15
    have H1 : (forecourtref01_Common.j1 kj3 a0 true a1_0 a1_1 a2_0 a2_1) = some (r1, r2, r3, r4, r5) := by rw [if_neg (show ¬ (false = true) by decide)] at H; exact H
    clear H
    have H := H1
    clear H1
    have H' := Aside0.mk H
    clear H
    have hnb24 := NB368_369.out
    have hnc24 := NB369_368.out
    have hnb25 := NB368_370.out
    have hnc25 := NB370_368.out
    have hcz26_0 : wc.cell? ⟨gb368, 0, none⟩ = some (.int .i64 a1_0) := (blk_cell BK368.out 0).trans rfl
    have hcz26_1 : wc.cell? ⟨gb368, 1, none⟩ = some (.int .i64 a1_1) := (blk_cell BK368.out 1).trans rfl
    have hfz26_0 := blk_frozen BK368.out 0
    have hfz26_1 := blk_frozen BK368.out 1
    go_wp2_with (first | (go_at_call 62; (with_reducible refine (forecourtref01_valid.calls a1_0 a1_1 (-400) 400 false _ A14.out).mono ?_); rintro e w27 ⟨rfl, hb⟩; have n0_ := Aside0.mk (blk_below (g := gb368) (o := .cells #[.int .i64 a1_0, .int .i64 a1_1] 43 (0, 0)) qf2 hb); have n1_ := Aside0.mk (blk_below (g := gb369) (o := .cells #[.int .i64 a2_0, .int .i64 a2_1] 43 (0, 0)) qf5 hb); have n2_ := Aside0.mk (blk_below (g := gb370) (o := .cells #[.int .i64 0, .int .i64 0, .int .i64 0, .int .i64 0] 48 (0, 0)) qf8 hb); have n3_ := Aside0.mk (below_step qf3 hb); clear BK368; clear BK369; clear BK370; clear HB; have BK368 := n0_; have BK369 := n1_; have BK370 := n2_; have HB := n3_; clear n0_ n1_ n2_ n3_; (try clear hb); (try clear hb2); (try clear hk); (try clear hi)))
    repeat (go_quiet (first | (go_at_call 62; (with_reducible refine (forecourtref01_valid.calls a1_0 a1_1 (-400) 400 false _ A14.out).mono ?_); rintro e w27 ⟨rfl, hb⟩; have n0_ := Aside0.mk (blk_below (g := gb368) (o := .cells #[.int .i64 a1_0, .int .i64 a1_1] 43 (0, 0)) qf2 hb); have n1_ := Aside0.mk (blk_below (g := gb369) (o := .cells #[.int .i64 a2_0, .int .i64 a2_1] 43 (0, 0)) qf5 hb); have n2_ := Aside0.mk (blk_below (g := gb370) (o := .cells #[.int .i64 0, .int .i64 0, .int .i64 0, .int .i64 0] 48 (0, 0)) qf8 hb); have n3_ := Aside0.mk (below_step qf3 hb); clear BK368; clear BK369; clear BK370; clear HB; have BK368 := n0_; have BK369 := n1_; have BK370 := n2_; have HB := n3_; clear n0_ n1_ n2_ n3_; (try clear hb); (try clear hb2); (try clear hk); (try clear hi))); try go_wp2_with (first | (go_at_call 62; (with_reducible refine (forecourtref01_valid.calls a1_0 a1_1 (-400) 400 false _ A14.out).mono ?_); rintro e w27 ⟨rfl, hb⟩; have n0_ := Aside0.mk (blk_below (g := gb368) (o := .cells #[.int .i64 a1_0, .int .i64 a1_1] 43 (0, 0)) qf2 hb); have n1_ := Aside0.mk (blk_below (g := gb369) (o := .cells #[.int .i64 a2_0, .int .i64 a2_1] 43 (0, 0)) qf5 hb); have n2_ := Aside0.mk (blk_below (g := gb370) (o := .cells #[.int .i64 0, .int .i64 0, .int .i64 0, .int .i64 0] 48 (0, 0)) qf8 hb); have n3_ := Aside0.mk (below_step qf3 hb); clear BK368; clear BK369; clear BK370; clear HB; have BK368 := n0_; have BK369 := n1_; have BK370 := n2_; have HB := n3_; clear n0_ n1_ n2_ n3_; (try clear hb); (try clear hb2); (try clear hk); (try clear hi))))
    go_meet
    case rel => exact ⟨_, (true), qf7, H', ⟨by have := HJ3.out; first | omega | exact Nat.le_refl _⟩, ⟨by (with_reducible repeat (first | refine blk_drewN ?_ _ | refine blk_drew ?_ | refine blk_alloc ?_ _)); exact BK368.out⟩, ⟨by (with_reducible repeat (first | refine blk_drewN ?_ _ | refine blk_drew ?_ | refine blk_alloc ?_ _)); exact BK369.out⟩, ⟨by (with_reducible repeat (first | refine blk_drewN ?_ _ | refine blk_drew ?_ | refine blk_alloc ?_ _)); exact BK370.out⟩, ⟨by repeat (first | (with_reducible first | exact HB.out | apply below_alloc | apply pw_below_drewN | apply below_drew1 | refine below_set ?_ GE368.out | refine below_set ?_ GE369.out | refine below_set ?_ GE370.out) | exact HB.out)⟩⟩
   case rest =>
    clear HC13
    try clear c1
    try clear c2
    try clear p2
    try clear c3
    try clear c8
    try clear c8b0
    try clear c9
    try clear c10
    try clear c11
    try clear c15
    try clear c17
    try clear c18
    try clear c21
    try clear c24
    try clear c25
    try clear hcz12_0
    try clear hcz12_1
    try clear hcz12_2
    try clear hcz12_3
    try clear hcz19_0
    try clear hcz19_1
    try clear hcz22_0
    try clear hcz22_1
    try clear hcz26_0
    try clear hcz26_1
    try clear hfz12_0
    try clear hfz12_1
    try clear hfz12_2
    try clear hfz12_3
    try clear hfz19_0
    try clear hfz19_1
    try clear hfz22_0
    try clear hfz22_1
    try clear hfz26_0
    try clear hfz26_1
    try clear p2
    obtain ⟨kq, x27_12, rfl, HA, HJ12, BK368, BK369, BK370, HB⟩ := hcut
    cases kq with
    | zero => exact absurd HA.out (by simp [forecourtref01_Common.j1])
    | succ kj12 =>
     have H := HA.out
     clear HA
     simp only [forecourtref01_Common.j1] at H
     by_cases c28 : x27_12 = true
     ·subst c28
      have H1 : (some (0, 0, 0, 0, 2)) = some (r1, r2, r3, r4, r5) := by rw [if_pos rfl] at H; exact H
      clear H
      have H := H1
      clear H1
      simp only [Option.some.injEq, Prod.mk.injEq] at H
      obtain ⟨rfl, rfl, rfl, rfl, rfl⟩ := H
      have hnb29 := NB370_368.out
      have hnc29 := NB368_370.out
      have hnb30 := NB370_369.out
      have hnc30 := NB369_370.out
      have hcz31_0 : wc.cell? ⟨gb370, 0, none⟩ = some (.int .i64 0) := (blk_cell BK370.out 0).trans rfl
      have hcz31_1 : wc.cell? ⟨gb370, 1, none⟩ = some (.int .i64 0) := (blk_cell BK370.out 1).trans rfl
      have hcz31_2 : wc.cell? ⟨gb370, 2, none⟩ = some (.int .i64 0) := (blk_cell BK370.out 2).trans rfl
      have hcz31_3 : wc.cell? ⟨gb370, 3, none⟩ = some (.int .i64 0) := (blk_cell BK370.out 3).trans rfl
      have hfz31_0 := blk_frozen BK370.out 0
      have hfz31_1 := blk_frozen BK370.out 1
      have hfz31_2 := blk_frozen BK370.out 2
      have hfz31_3 := blk_frozen BK370.out 3
      go_wp2
      repeat (go_quiet (fail); try go_wp2)
      refine bodyPost_ret (results_ct rfl _ _ gb370 48 #[.int .i64 0, .int .i64 0, .int .i64 0, .int .i64 0] (0, 0) _ rfl qf11 Try.underlying48 rfl (by kernel_rfl)) rfl ?_
      exact ⟨by first | rfl | (simp [errW_none, errW_some] <;> rfl) | (simp [*, errW_none, errW_some] <;> rfl), by repeat (first | (with_reducible first | exact HB.out | apply below_alloc | apply pw_below_drewN | apply below_drew1 | refine below_set ?_ GE368.out | refine below_set ?_ GE369.out | refine below_set ?_ GE370.out) | exact HB.out)⟩
     replace c28 := Bool.eq_false_iff.mpr c28
     subst c28
     have H1 : (forecourtref01_Common.l0 kj12 a0 (wrap64 (a1_0 * a2_0)) (wrap64 (a1_0 * a2_0)) 0 a1_0 a1_1 a2_0 a2_1) = some (r1, r2, r3, r4, r5) := by rw [if_neg (show ¬ (false = true) by decide)] at H; exact H
     clear H
     have H := H1
     clear H1
     have H' := Aside0.mk H
     clear H
     have hnb32 := NB368_369.out
     have hnc32 := NB369_368.out
     have hnb33 := NB368_370.out
     have hnc33 := NB370_368.out
     have hcz34_0 : wc.cell? ⟨gb368, 0, none⟩ = some (.int .i64 a1_0) := (blk_cell BK368.out 0).trans rfl
     have hcz34_1 : wc.cell? ⟨gb368, 1, none⟩ = some (.int .i64 a1_1) := (blk_cell BK368.out 1).trans rfl
     have hfz34_0 := blk_frozen BK368.out 0
     have hfz34_1 := blk_frozen BK368.out 1
     have hnb35 := NB369_370.out
     have hnc35 := NB370_369.out
     have hcz36_0 : wc.cell? ⟨gb369, 0, none⟩ = some (.int .i64 a2_0) := (blk_cell BK369.out 0).trans rfl
     have hcz36_1 : wc.cell? ⟨gb369, 1, none⟩ = some (.int .i64 a2_1) := (blk_cell BK369.out 1).trans rfl
     have hfz36_0 := blk_frozen BK369.out 0
     have hfz36_1 := blk_frozen BK369.out 1
     go_wp2
     repeat (go_quiet (fail); try go_wp2)
     go_loopg [8, 9, 10] kj12 (fun kq v8 v9 v10 w' => ∃ (x8_3 : Int) (x9_3 : Int) (x10_3 : Int), v8 = .int .i64 x8_3 ∧ v9 = .int .i64 x9_3 ∧ v10 = .int .i64 x10_3 ∧ Aside0 (forecourtref01_Common.l0 kq a0 x8_3 x9_3 x10_3 a1_0 a1_1 a2_0 a2_1 = some (r1, r2, r3, r4, r5)) ∧ Aside0 (kq ≤ kj12) ∧ Aside0 (w'.heap[gb368]? = some (.cells #[.int .i64 a1_0, .int .i64 a1_1] 43 (0, 0))) ∧ Aside0 (w'.heap[gb369]? = some (.cells #[.int .i64 a2_0, .int .i64 a2_1] 43 (0, 0))) ∧ Aside0 (w'.heap[gb370]? = some (.cells #[.int .i64 0, .int .i64 0, .int .i64 0, .int .i64 0] 48 (0, 0))) ∧ Aside0 (Below w.heap.size w w'))
     case atStart => exact ⟨(wrap64 (a1_0 * a2_0)), (wrap64 (a1_0 * a2_0)), (0), qf7, qf7, qf7, H', ⟨Nat.le_refl _⟩, ⟨by (with_reducible repeat (first | refine blk_drewN ?_ _ | refine blk_drew ?_ | refine blk_alloc ?_ _)); exact BK368.out⟩, ⟨by (with_reducible repeat (first | refine blk_drewN ?_ _ | refine blk_drew ?_ | refine blk_alloc ?_ _)); exact BK369.out⟩, ⟨by (with_reducible repeat (first | refine blk_drewN ?_ _ | refine blk_drew ?_ | refine blk_alloc ?_ _)); exact BK370.out⟩, ⟨by repeat (first | (with_reducible first | exact HB.out | apply below_alloc | apply pw_below_drewN | apply below_drew1 | refine below_set ?_ GE368.out | refine below_set ?_ GE369.out | refine below_set ?_ GE370.out) | exact HB.out)⟩⟩
     case round =>
      clear H'
      try clear c1
      try clear c2
      try clear p2
      try clear c3
      try clear p6
      try clear c8
      try clear c8b0
      try clear c9
      try clear c10
      try clear c11
      try clear c15
      try clear c17
      try clear c18
      try clear c21
      try clear c24
      try clear c25
      try clear c28
      try clear c29
      try clear c30
      try clear c32
      try clear c33
      try clear c35
      try clear hcz12_0
      try clear hcz12_1
      try clear hcz12_2
      try clear hcz12_3
      try clear hcz19_0
      try clear hcz19_1
      try clear hcz22_0
      try clear hcz22_1
      try clear hcz26_0
      try clear hcz26_1
      try clear hcz31_0
      try clear hcz31_1
      try clear hcz31_2
      try clear hcz31_3
      try clear hcz34_0
      try clear hcz34_1
      try clear hcz36_0
      try clear hcz36_1
      try clear hfz12_0
      try clear hfz12_1
      try clear hfz12_2
      try clear hfz12_3
      try clear hfz19_0
      try clear hfz19_1
      try clear hfz22_0
      try clear hfz22_1
      try clear hfz26_0
      try clear hfz26_1
      try clear hfz31_0
      try clear hfz31_1
      try clear hfz31_2
      try clear hfz31_3
      try clear hfz34_0
      try clear hfz34_1
      try clear hfz36_0
      try clear hfz36_1
      try clear p2
      obtain ⟨x8_3, x9_3, x10_3, rfl, rfl, rfl, HA, HK3, BK368, BK369, BK370, HB⟩ := hrel
      cases gk with
      | zero => exact absurd HA.out (by simp [forecourtref01_Common.l0])
      | succ k3 =>
       have H := HA.out
       clear HA
       simp only [forecourtref01_Common.l0] at H
       by_cases c37 : x10_3 < 4
       ·rw [if_pos c37] at H
        have c37b0 : decide (x10_3 < 4) = true := decide_eq_true c37
        clear c37
        by_cases c38 : (Int.tmod x10_3 2) = 1
        ·rw [if_pos c38] at H
         have c38b0 : ((Int.tmod x10_3 2) == 1) = true := beq_iff_eq.mpr c38
         have c38b1 : ((Int.tmod x10_3 2) != 1) = false := bne_eq_false_iff_eq.mpr c38
         clear c38
         by_cases c39 : (wrap64 (Int.tdiv x10_3 2)) = 1
         ·rw [if_pos c39] at H
          have c39b0 : ((wrap64 (Int.tdiv x10_3 2)) == 1) = true := beq_iff_eq.mpr c39
          have c39b1 : ((wrap64 (Int.tdiv x10_3 2)) != 1) = false := bne_eq_false_iff_eq.mpr c39
          clear c39
          obtain ⟨ji40, hji40⟩ : ∃ j_ : Int, (mn x8_3 (wrap64 (a1_1 * a2_1))) = j_ := ⟨_, rfl⟩
          replace H : (forecourtref01_Common.l0 k3 a0 ji40 (mx x9_3 (wrap64 (a1_1 * a2_1))) (wrap64 (x10_3 + 1)) a1_0 a1_1 a2_0 a2_1) = some (r1, r2, r3, r4, r5) := by first | (rw [hji40] at H; exact H) | (simp only [hji40] at H ⊢; exact H)
          have hji40_ : (if (wrap64 (a1_1 * a2_1)) < x8_3 then (wrap64 (a1_1 * a2_1)) else x8_3) = ji40 := hji40
          obtain ⟨ji41, hji41⟩ : ∃ j_ : Int, (mx x9_3 (wrap64 (a1_1 * a2_1))) = j_ := ⟨_, rfl⟩
          replace H : (forecourtref01_Common.l0 k3 a0 ji40 ji41 (wrap64 (x10_3 + 1)) a1_0 a1_1 a2_0 a2_1) = some (r1, r2, r3, r4, r5) := by first | (rw [hji41] at H; exact H) | (simp only [hji41] at H ⊢; exact H)
          have hji41_ : (if x9_3 < (wrap64 (a1_1 * a2_1)) then (wrap64 (a1_1 * a2_1)) else x9_3) = ji41 := hji41
          have H' := Aside0.mk H
          clear H
          have hnb42 := NB368_369.out
          have hnc42 := NB369_368.out
          have hnb43 := NB368_370.out
          have hnc43 := NB370_368.out
          have hcz44_0 : wr.cell? ⟨gb368, 0, none⟩ = some (.int .i64 a1_0) := (blk_cell BK368.out 0).trans rfl
          have hcz44_1 : wr.cell? ⟨gb368, 1, none⟩ = some (.int .i64 a1_1) := (blk_cell BK368.out 1).trans rfl
          have hfz44_0 := blk_frozen BK368.out 0
          have hfz44_1 := blk_frozen BK368.out 1
          have hnb45 := NB369_370.out
          have hnc45 := NB370_369.out
          have hcz46_0 : wr.cell? ⟨gb369, 0, none⟩ = some (.int .i64 a2_0) := (blk_cell BK369.out 0).trans rfl
          have hcz46_1 : wr.cell? ⟨gb369, 1, none⟩ = some (.int .i64 a2_1) := (blk_cell BK369.out 1).trans rfl
          have hfz46_0 := blk_frozen BK369.out 0
          have hfz46_1 := blk_frozen BK369.out 1
          go_wp2
          repeat (go_quiet (fail); try go_wp2)
          go_roundg k3
          case measure => have := HJ3.out; have := HJ12.out; have := HK3.out; omega
          case rel => exact ⟨(ji40), (ji41), (wrap64 (x10_3 + 1)), (by first | rfl | (simp; done) | (simp only [← hji40] <;> (first | rfl | simp)) | (simp [*]; done)), (by first | rfl | (simp; done) | (simp only [← hji41] <;> (first | rfl | simp)) | (simp [*]; done)), qf7, H', ⟨by have := HJ3.out; have := HJ12.out; have := HK3.out; omega⟩, ⟨by (with_reducible repeat (first | refine blk_drewN ?_ _ | refine blk_drew ?_ | refine blk_alloc ?_ _)); exact BK368.out⟩, ⟨by (with_reducible repeat (first | refine blk_drewN ?_ _ | refine blk_drew ?_ | refine blk_alloc ?_ _)); exact BK369.out⟩, ⟨by (with_reducible repeat (first | refine blk_drewN ?_ _ | refine blk_drew ?_ | refine blk_alloc ?_ _)); exact BK370.out⟩, ⟨by repeat (first | (with_reducible first | exact HB.out | apply below_alloc | apply pw_below_drewN | apply below_drew1 | refine below_set ?_ GE368.out | refine below_set ?_ GE369.out | refine below_set ?_ GE370.out) | exact HB.out)⟩⟩
         rw [if_neg c39] at H
         have c39b0 : ((wrap64 (Int.tdiv x10_3 2)) == 1) = false := beq_eq_false_iff_ne.mpr c39
         have c39b1 : ((wrap64 (Int.tdiv x10_3 2)) != 1) = true := bne_iff_ne.mpr c39
         obtain ⟨ji47, hji47⟩ : ∃ j_ : Int, (mn x8_3 (wrap64 (a1_1 * a2_0))) = j_ := ⟨_, rfl⟩
         replace H : (forecourtref01_Common.l0 k3 a0 ji47 (mx x9_3 (wrap64 (a1_1 * a2_0))) (wrap64 (x10_3 + 1)) a1_0 a1_1 a2_0 a2_1) = some (r1, r2, r3, r4, r5) := by first | (rw [hji47] at H; exact H) | (simp only [hji47] at H ⊢; exact H)
         have hji47_ : (if (wrap64 (a1_1 * a2_0)) < x8_3 then (wrap64 (a1_1 * a2_0)) else x8_3) = ji47 := hji47
         obtain ⟨ji48, hji48⟩ : ∃ j_ : Int, (mx x9_3 (wrap64 (a1_1 * a2_0))) = j_ := ⟨_, rfl⟩
         replace H : (forecourtref01_Common.l0 k3 a0 ji47 ji48 (wrap64 (x10_3 + 1)) a1_0 a1_1 a2_0 a2_1) = some (r1, r2, r3, r4, r5) := by first | (rw [hji48] at H; exact H) | (simp only [hji48] at H ⊢; exact H)
         have hji48_ : (if x9_3 < (wrap64 (a1_1 * a2_0)) then (wrap64 (a1_1 * a2_0)) else x9_3) = ji48 := hji48
         have H' := Aside0.mk H
         clear H
         have hnb49 := NB368_369.out
         have hnc49 := NB369_368.out
         have hnb50 := NB368_370.out
         have hnc50 := NB370_368.out
         have hcz51_0 : wr.cell? ⟨gb368, 0, none⟩ = some (.int .i64 a1_0) := (blk_cell BK368.out 0).trans rfl
         have hcz51_1 : wr.cell? ⟨gb368, 1, none⟩ = some (.int .i64 a1_1) := (blk_cell BK368.out 1).trans rfl
         have hfz51_0 := blk_frozen BK368.out 0
         have hfz51_1 := blk_frozen BK368.out 1
         have hnb52 := NB369_370.out
         have hnc52 := NB370_369.out
         have hcz53_0 : wr.cell? ⟨gb369, 0, none⟩ = some (.int .i64 a2_0) := (blk_cell BK369.out 0).trans rfl
         have hcz53_1 : wr.cell? ⟨gb369, 1, none⟩ = some (.int .i64 a2_1) := (blk_cell BK369.out 1).trans rfl
         have hfz53_0 := blk_frozen BK369.out 0
         have hfz53_1 := blk_frozen BK369.out 1
         go_wp2
         repeat (go_quiet (fail); try go_wp2)
         go_roundg k3
         case measure => have := HJ3.out; have := HJ12.out; have := HK3.out; omega
         case rel => exact ⟨(ji47), (ji48), (wrap64 (x10_3 + 1)), (by first | rfl | (simp; done) | (simp only [← hji47] <;> (first | rfl | simp)) | (simp [*]; done)), (by first | rfl | (simp; done) | (simp only [← hji48] <;> (first | rfl | simp)) | (simp [*]; done)), qf7, H', ⟨by have := HJ3.out; have := HJ12.out; have := HK3.out; omega⟩, ⟨by (with_reducible repeat (first | refine blk_drewN ?_ _ | refine blk_drew ?_ | refine blk_alloc ?_ _)); exact BK368.out⟩, ⟨by (with_reducible repeat (first | refine blk_drewN ?_ _ | refine blk_drew ?_ | refine blk_alloc ?_ _)); exact BK369.out⟩, ⟨by (with_reducible repeat (first | refine blk_drewN ?_ _ | refine blk_drew ?_ | refine blk_alloc ?_ _)); exact BK370.out⟩, ⟨by repeat (first | (with_reducible first | exact HB.out | apply below_alloc | apply pw_below_drewN | apply below_drew1 | refine below_set ?_ GE368.out | refine below_set ?_ GE369.out | refine below_set ?_ GE370.out) | exact HB.out)⟩⟩
        rw [if_neg c38] at H
        have c38b0 : ((Int.tmod x10_3 2) == 1) = false := beq_eq_false_iff_ne.mpr c38
        have c38b1 : ((Int.tmod x10_3 2) != 1) = true := bne_iff_ne.mpr c38
        by_cases c54 : (wrap64 (Int.tdiv x10_3 2)) = 1
        ·rw [if_pos c54] at H
         have c54b0 : ((wrap64 (Int.tdiv x10_3 2)) == 1) = true := beq_iff_eq.mpr c54
         have c54b1 : ((wrap64 (Int.tdiv x10_3 2)) != 1) = false := bne_eq_false_iff_eq.mpr c54
         clear c54
         obtain ⟨ji55, hji55⟩ : ∃ j_ : Int, (mn x8_3 (wrap64 (a1_0 * a2_1))) = j_ := ⟨_, rfl⟩
         replace H : (forecourtref01_Common.l0 k3 a0 ji55 (mx x9_3 (wrap64 (a1_0 * a2_1))) (wrap64 (x10_3 + 1)) a1_0 a1_1 a2_0 a2_1) = some (r1, r2, r3, r4, r5) := by first | (rw [hji55] at H; exact H) | (simp only [hji55] at H ⊢; exact H)
         have hji55_ : (if (wrap64 (a1_0 * a2_1)) < x8_3 then (wrap64 (a1_0 * a2_1)) else x8_3) = ji55 := hji55
         obtain ⟨ji56, hji56⟩ : ∃ j_ : Int, (mx x9_3 (wrap64 (a1_0 * a2_1))) = j_ := ⟨_, rfl⟩
         replace H : (forecourtref01_Common.l0 k3 a0 ji55 ji56 (wrap64 (x10_3 + 1)) a1_0 a1_1 a2_0 a2_1) = some (r1, r2, r3, r4, r5) := by first | (rw [hji56] at H; exact H) | (simp only [hji56] at H ⊢; exact H)
         have hji56_ : (if x9_3 < (wrap64 (a1_0 * a2_1)) then (wrap64 (a1_0 * a2_1)) else x9_3) = ji56 := hji56
         have H' := Aside0.mk H
         clear H
         have hnb57 := NB368_369.out
         have hnc57 := NB369_368.out
         have hnb58 := NB368_370.out
         have hnc58 := NB370_368.out
         have hcz59_0 : wr.cell? ⟨gb368, 0, none⟩ = some (.int .i64 a1_0) := (blk_cell BK368.out 0).trans rfl
         have hcz59_1 : wr.cell? ⟨gb368, 1, none⟩ = some (.int .i64 a1_1) := (blk_cell BK368.out 1).trans rfl
         have hfz59_0 := blk_frozen BK368.out 0
         have hfz59_1 := blk_frozen BK368.out 1
         have hnb60 := NB369_370.out
         have hnc60 := NB370_369.out
         have hcz61_0 : wr.cell? ⟨gb369, 0, none⟩ = some (.int .i64 a2_0) := (blk_cell BK369.out 0).trans rfl
         have hcz61_1 : wr.cell? ⟨gb369, 1, none⟩ = some (.int .i64 a2_1) := (blk_cell BK369.out 1).trans rfl
         have hfz61_0 := blk_frozen BK369.out 0
         have hfz61_1 := blk_frozen BK369.out 1
         go_wp2
         repeat (go_quiet (fail); try go_wp2)
         go_roundg k3
         case measure => have := HJ3.out; have := HJ12.out; have := HK3.out; omega
         case rel => exact ⟨(ji55), (ji56), (wrap64 (x10_3 + 1)), (by first | rfl | (simp; done) | (simp only [← hji55] <;> (first | rfl | simp)) | (simp [*]; done)), (by first | rfl | (simp; done) | (simp only [← hji56] <;> (first | rfl | simp)) | (simp [*]; done)), qf7, H', ⟨by have := HJ3.out; have := HJ12.out; have := HK3.out; omega⟩, ⟨by (with_reducible repeat (first | refine blk_drewN ?_ _ | refine blk_drew ?_ | refine blk_alloc ?_ _)); exact BK368.out⟩, ⟨by (with_reducible repeat (first | refine blk_drewN ?_ _ | refine blk_drew ?_ | refine blk_alloc ?_ _)); exact BK369.out⟩, ⟨by (with_reducible repeat (first | refine blk_drewN ?_ _ | refine blk_drew ?_ | refine blk_alloc ?_ _)); exact BK370.out⟩, ⟨by repeat (first | (with_reducible first | exact HB.out | apply below_alloc | apply pw_below_drewN | apply below_drew1 | refine below_set ?_ GE368.out | refine below_set ?_ GE369.out | refine below_set ?_ GE370.out) | exact HB.out)⟩⟩
        rw [if_neg c54] at H
        have c54b0 : ((wrap64 (Int.tdiv x10_3 2)) == 1) = false := beq_eq_false_iff_ne.mpr c54
        have c54b1 : ((wrap64 (Int.tdiv x10_3 2)) != 1) = true := bne_iff_ne.mpr c54
        obtain ⟨ji62, hji62⟩ : ∃ j_ : Int, (mn x8_3 (wrap64 (a1_0 * a2_0))) = j_ := ⟨_, rfl⟩
        replace H : (forecourtref01_Common.l0 k3 a0 ji62 (mx x9_3 (wrap64 (a1_0 * a2_0))) (wrap64 (x10_3 + 1)) a1_0 a1_1 a2_0 a2_1) = some (r1, r2, r3, r4, r5) := by first | (rw [hji62] at H; exact H) | (simp only [hji62] at H ⊢; exact H)
        have hji62_ : (if (wrap64 (a1_0 * a2_0)) < x8_3 then (wrap64 (a1_0 * a2_0)) else x8_3) = ji62 := hji62
        obtain ⟨ji63, hji63⟩ : ∃ j_ : Int, (mx x9_3 (wrap64 (a1_0 * a2_0))) = j_ := ⟨_, rfl⟩
        replace H : (forecourtref01_Common.l0 k3 a0 ji62 ji63 (wrap64 (x10_3 + 1)) a1_0 a1_1 a2_0 a2_1) = some (r1, r2, r3, r4, r5) := by first | (rw [hji63] at H; exact H) | (simp only [hji63] at H ⊢; exact H)
        have hji63_ : (if x9_3 < (wrap64 (a1_0 * a2_0)) then (wrap64 (a1_0 * a2_0)) else x9_3) = ji63 := hji63
        have H' := Aside0.mk H
        clear H
        have hnb64 := NB368_369.out
        have hnc64 := NB369_368.out
        have hnb65 := NB368_370.out
        have hnc65 := NB370_368.out
        have hcz66_0 : wr.cell? ⟨gb368, 0, none⟩ = some (.int .i64 a1_0) := (blk_cell BK368.out 0).trans rfl
        have hcz66_1 : wr.cell? ⟨gb368, 1, none⟩ = some (.int .i64 a1_1) := (blk_cell BK368.out 1).trans rfl
        have hfz66_0 := blk_frozen BK368.out 0
        have hfz66_1 := blk_frozen BK368.out 1
        have hnb67 := NB369_370.out
        have hnc67 := NB370_369.out
        have hcz68_0 : wr.cell? ⟨gb369, 0, none⟩ = some (.int .i64 a2_0) := (blk_cell BK369.out 0).trans rfl
        have hcz68_1 : wr.cell? ⟨gb369, 1, none⟩ = some (.int .i64 a2_1) := (blk_cell BK369.out 1).trans rfl
        have hfz68_0 := blk_frozen BK369.out 0
        have hfz68_1 := blk_frozen BK369.out 1
        go_wp2
        repeat (go_quiet (fail); try go_wp2)
        go_roundg k3
        case measure => have := HJ3.out; have := HJ12.out; have := HK3.out; omega
        case rel => exact ⟨(ji62), (ji63), (wrap64 (x10_3 + 1)), (by first | rfl | (simp; done) | (simp only [← hji62] <;> (first | rfl | simp)) | (simp [*]; done)), (by first | rfl | (simp; done) | (simp only [← hji63] <;> (first | rfl | simp)) | (simp [*]; done)), qf7, H', ⟨by have := HJ3.out; have := HJ12.out; have := HK3.out; omega⟩, ⟨by (with_reducible repeat (first | refine blk_drewN ?_ _ | refine blk_drew ?_ | refine blk_alloc ?_ _)); exact BK368.out⟩, ⟨by (with_reducible repeat (first | refine blk_drewN ?_ _ | refine blk_drew ?_ | refine blk_alloc ?_ _)); exact BK369.out⟩, ⟨by (with_reducible repeat (first | refine blk_drewN ?_ _ | refine blk_drew ?_ | refine blk_alloc ?_ _)); exact BK370.out⟩, ⟨by repeat (first | (with_reducible first | exact HB.out | apply below_alloc | apply pw_below_drewN | apply below_drew1 | refine below_set ?_ GE368.out | refine below_set ?_ GE369.out | refine below_set ?_ GE370.out) | exact HB.out)⟩⟩
       rw [if_neg c37] at H
       have c37b0 : decide (x10_3 < 4) = false := decide_eq_false c37
       clear c37
       replace H := Option.bind_eq_some_iff.mp H
       obtain ⟨⟨t373, t374⟩, A690, H⟩ := H
       replace H : ((forecourtref01_Fraction.f k3 (wrap64 (1000000 * a0)) (wrap64 (1000000 + x8_3))).bind fun bt375 => (some (t373, t374, bt375.1, bt375.2, 0))) = some (r1, r2, r3, r4, r5) := H
       have A69 := Aside0.mk A690
       clear A690
       replace H := Option.bind_eq_some_iff.mp H
       obtain ⟨⟨t375, t376⟩, A700, H⟩ := H
       replace H : (some (t373, t374, t375, t376, 0)) = some (r1, r2, r3, r4, r5) := H
       have A70 := Aside0.mk A700
       clear A700
       simp only [Option.some.injEq, Prod.mk.injEq] at H
       obtain ⟨rfl, rfl, rfl, rfl, rfl⟩ := H
       go_wp2_with (first | (go_at_call 50; (with_reducible refine (forecourtref01_Fraction.calls k3 (wrap64 (1000000 * a0)) (wrap64 (1000000 + x9_3)) t373 t374 _ A69.out).mono ?_); rintro e w71 ⟨rfl, hb⟩; have n0_ := Aside0.mk (blk_below (g := gb368) (o := .cells #[.int .i64 a1_0, .int .i64 a1_1] 43 (0, 0)) qf2 hb); have n1_ := Aside0.mk (blk_below (g := gb369) (o := .cells #[.int .i64 a2_0, .int .i64 a2_1] 43 (0, 0)) qf5 hb); have n2_ := Aside0.mk (blk_below (g := gb370) (o := .cells #[.int .i64 0, .int .i64 0, .int .i64 0, .int .i64 0] 48 (0, 0)) qf8 hb); have n3_ := Aside0.mk (below_step qf3 hb); clear BK368; clear BK369; clear BK370; clear HB; have BK368 := n0_; have BK369 := n1_; have BK370 := n2_; have HB := n3_; clear n0_ n1_ n2_ n3_; (try clear hb); (try clear hb2); (try clear hk); (try clear hi)) | (go_at_call 50; (with_reducible refine (forecourtref01_Fraction.calls k3 (wrap64 (1000000 * a0)) (wrap64 (1000000 + x8_3)) t375 t376 _ A70.out).mono ?_); rintro e w72 ⟨rfl, hb⟩; have n0_ := Aside0.mk (blk_below (g := gb368) (o := .cells #[.int .i64 a1_0, .int .i64 a1_1] 43 (0, 0)) qf2 hb); have n1_ := Aside0.mk (blk_below (g := gb369) (o := .cells #[.int .i64 a2_0, .int .i64 a2_1] 43 (0, 0)) qf5 hb); have n2_ := Aside0.mk (blk_below (g := gb370) (o := .cells #[.int .i64 0, .int .i64 0, .int .i64 0, .int .i64 0] 48 (0, 0)) qf8 hb); have n3_ := Aside0.mk (below_step qf3 hb); clear BK368; clear BK369; clear BK370; clear HB; have BK368 := n0_; have BK369 := n1_; have BK370 := n2_; have HB := n3_; clear n0_ n1_ n2_ n3_; (try clear hb); (try clear hb2); (try clear hk); (try clear hi); have hnb73 := NB370_368.out; have hnc73 := NB368_370.out; have hnb74 := NB370_369.out; have hnc74 := NB369_370.out; have hcz75_0 : w72.cell? ⟨gb370, 0, none⟩ = some (.int .i64 0) := (blk_cell BK370.out 0).trans rfl; have hcz75_1 : w72.cell? ⟨gb370, 1, none⟩ = some (.int .i64 0) := (blk_cell BK370.out 1).trans rfl; have hcz75_2 : w72.cell? ⟨gb370, 2, none⟩ = some (.int .i64 0) := (blk_cell BK370.out 2).trans rfl; have hcz75_3 : w72.cell? ⟨gb370, 3, none⟩ = some (.int .i64 0) := (blk_cell BK370.out 3).trans rfl; have hfz75_0 := blk_frozen BK370.out 0; have hfz75_1 := blk_frozen BK370.out 1; have hfz75_2 := blk_frozen BK370.out 2; have hfz75_3 := blk_frozen BK370.out 3))
       repeat (go_quiet (first | (go_at_call 50; (with_reducible refine (forecourtref01_Fraction.calls k3 (wrap64 (1000000 * a0)) (wrap64 (1000000 + x9_3)) t373 t374 _ A69.out).mono ?_); rintro e w71 ⟨rfl, hb⟩; have n0_ := Aside0.mk (blk_below (g := gb368) (o := .cells #[.int .i64 a1_0, .int .i64 a1_1] 43 (0, 0)) qf2 hb); have n1_ := Aside0.mk (blk_below (g := gb369) (o := .cells #[.int .i64 a2_0, .int .i64 a2_1] 43 (0, 0)) qf5 hb); have n2_ := Aside0.mk (blk_below (g := gb370) (o := .cells #[.int .i64 0, .int .i64 0, .int .i64 0, .int .i64 0] 48 (0, 0)) qf8 hb); have n3_ := Aside0.mk (below_step qf3 hb); clear BK368; clear BK369; clear BK370; clear HB; have BK368 := n0_; have BK369 := n1_; have BK370 := n2_; have HB := n3_; clear n0_ n1_ n2_ n3_; (try clear hb); (try clear hb2); (try clear hk); (try clear hi)) | (go_at_call 50; (with_reducible refine (forecourtref01_Fraction.calls k3 (wrap64 (1000000 * a0)) (wrap64 (1000000 + x8_3)) t375 t376 _ A70.out).mono ?_); rintro e w72 ⟨rfl, hb⟩; have n0_ := Aside0.mk (blk_below (g := gb368) (o := .cells #[.int .i64 a1_0, .int .i64 a1_1] 43 (0, 0)) qf2 hb); have n1_ := Aside0.mk (blk_below (g := gb369) (o := .cells #[.int .i64 a2_0, .int .i64 a2_1] 43 (0, 0)) qf5 hb); have n2_ := Aside0.mk (blk_below (g := gb370) (o := .cells #[.int .i64 0, .int .i64 0, .int .i64 0, .int .i64 0] 48 (0, 0)) qf8 hb); have n3_ := Aside0.mk (below_step qf3 hb); clear BK368; clear BK369; clear BK370; clear HB; have BK368 := n0_; have BK369 := n1_; have BK370 := n2_; have HB := n3_; clear n0_ n1_ n2_ n3_; (try clear hb); (try clear hb2); (try clear hk); (try clear hi); have hnb73 := NB370_368.out; have hnc73 := NB368_370.out; have hnb74 := NB370_369.out; have hnc74 := NB369_370.out; have hcz75_0 : w72.cell? ⟨gb370, 0, none⟩ = some (.int .i64 0) := (blk_cell BK370.out 0).trans rfl; have hcz75_1 : w72.cell? ⟨gb370, 1, none⟩ = some (.int .i64 0) := (blk_cell BK370.out 1).trans rfl; have hcz75_2 : w72.cell? ⟨gb370, 2, none⟩ = some (.int .i64 0) := (blk_cell BK370.out 2).trans rfl; have hcz75_3 : w72.cell? ⟨gb370, 3, none⟩ = some (.int .i64 0) := (blk_cell BK370.out 3).trans rfl; have hfz75_0 := blk_frozen BK370.out 0; have hfz75_1 := blk_frozen BK370.out 1; have hfz75_2 := blk_frozen BK370.out 2; have hfz75_3 := blk_frozen BK370.out 3)); try go_wp2_with (first | (go_at_call 50; (with_reducible refine (forecourtref01_Fraction.calls k3 (wrap64 (1000000 * a0)) (wrap64 (1000000 + x9_3)) t373 t374 _ A69.out).mono ?_); rintro e w71 ⟨rfl, hb⟩; have n0_ := Aside0.mk (blk_below (g := gb368) (o := .cells #[.int .i64 a1_0, .int .i64 a1_1] 43 (0, 0)) qf2 hb); have n1_ := Aside0.mk (blk_below (g := gb369) (o := .cells #[.int .i64 a2_0, .int .i64 a2_1] 43 (0, 0)) qf5 hb); have n2_ := Aside0.mk (blk_below (g := gb370) (o := .cells #[.int .i64 0, .int .i64 0, .int .i64 0, .int .i64 0] 48 (0, 0)) qf8 hb); have n3_ := Aside0.mk (below_step qf3 hb); clear BK368; clear BK369; clear BK370; clear HB; have BK368 := n0_; have BK369 := n1_; have BK370 := n2_; have HB := n3_; clear n0_ n1_ n2_ n3_; (try clear hb); (try clear hb2); (try clear hk); (try clear hi)) | (go_at_call 50; (with_reducible refine (forecourtref01_Fraction.calls k3 (wrap64 (1000000 * a0)) (wrap64 (1000000 + x8_3)) t375 t376 _ A70.out).mono ?_); rintro e w72 ⟨rfl, hb⟩; have n0_ := Aside0.mk (blk_below (g := gb368) (o := .cells #[.int .i64 a1_0, .int .i64 a1_1] 43 (0, 0)) qf2 hb); have n1_ := Aside0.mk (blk_below (g := gb369) (o := .cells #[.int .i64 a2_0, .int .i64 a2_1] 43 (0, 0)) qf5 hb); have n2_ := Aside0.mk (blk_below (g := gb370) (o := .cells #[.int .i64 0, .int .i64 0, .int .i64 0, .int .i64 0] 48 (0, 0)) qf8 hb); have n3_ := Aside0.mk (below_step qf3 hb); clear BK368; clear BK369; clear BK370; clear HB; have BK368 := n0_; have BK369 := n1_; have BK370 := n2_; have HB := n3_; clear n0_ n1_ n2_ n3_; (try clear hb); (try clear hb2); (try clear hk); (try clear hi); have hnb73 := NB370_368.out; have hnc73 := NB368_370.out; have hnb74 := NB370_369.out; have hnc74 := NB369_370.out; have hcz75_0 : w72.cell? ⟨gb370, 0, none⟩ = some (.int .i64 0) := (blk_cell BK370.out 0).trans rfl; have hcz75_1 : w72.cell? ⟨gb370, 1, none⟩ = some (.int .i64 0) := (blk_cell BK370.out 1).trans rfl; have hcz75_2 : w72.cell? ⟨gb370, 2, none⟩ = some (.int .i64 0) := (blk_cell BK370.out 2).trans rfl; have hcz75_3 : w72.cell? ⟨gb370, 3, none⟩ = some (.int .i64 0) := (blk_cell BK370.out 3).trans rfl; have hfz75_0 := blk_frozen BK370.out 0; have hfz75_1 := blk_frozen BK370.out 1; have hfz75_2 := blk_frozen BK370.out 2; have hfz75_3 := blk_frozen BK370.out 3)))
       refine bodyPost_ret (results_ct rfl _ _ gb370 48 #[.int .i64 t373, .int .i64 t374, .int .i64 t375, .int .i64 t376] (0, 0) _ rfl (by (with_reducible repeat (first | refine blk_drewN ?_ _ | refine blk_drew ?_ | refine blk_alloc ?_ _)); refine blk_put (cs := #[.int .i64 t373, .int .i64 t374, .int .i64 t375, .int .i64 0]) ?_ 3 _ rfl; (with_reducible repeat (first | refine blk_drewN ?_ _ | refine blk_drew ?_ | refine blk_alloc ?_ _)); refine blk_put (cs := #[.int .i64 t373, .int .i64 t374, .int .i64 0, .int .i64 0]) ?_ 2 _ rfl; (with_reducible repeat (first | refine blk_drewN ?_ _ | refine blk_drew ?_ | refine blk_alloc ?_ _)); refine blk_put (cs := #[.int .i64 t373, .int .i64 0, .int .i64 0, .int .i64 0]) ?_ 1 _ rfl; (with_reducible repeat (first | refine blk_drewN ?_ _ | refine blk_drew ?_ | refine blk_alloc ?_ _)); refine blk_put (cs := #[.int .i64 0, .int .i64 0, .int .i64 0, .int .i64 0]) ?_ 0 _ rfl; (with_reducible repeat (first | refine blk_drewN ?_ _ | refine blk_drew ?_ | refine blk_alloc ?_ _)); exact BK370.out) Try.underlying48 rfl (by kernel_rfl)) rfl ?_
       exact ⟨by first | rfl | (simp [errW_none, errW_some] <;> rfl) | (simp [*, errW_none, errW_some] <;> rfl), by repeat (first | (with_reducible first | exact HB.out | apply below_alloc | apply pw_below_drewN | apply below_drew1 | refine below_set ?_ GE368.out | refine below_set ?_ GE369.out | refine below_set ?_ GE370.out) | exact HB.out)⟩
end Go.Proofs.Ytpkajhmchcbbhaa.P
end
