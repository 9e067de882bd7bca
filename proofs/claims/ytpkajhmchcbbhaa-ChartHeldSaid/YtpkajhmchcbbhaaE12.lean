/- Part 12 of 45. -/
import Derived.Test.YtpkajhmchcbbhaaE0
import Derived.Test.YtpkajhmchcbbhaaE5
import Derived.Test.YtpkajhmchcbbhaaE10
import Derived.Test.YtpkajhmchcbbhaaE9
import Derived.Test.YtpkajhmchcbbhaaE11
import Derived.Test.YtpkajhmchcbbhaaE6
import Derived.Test.YtpkajhmchcbbhaaE7
import Derived.Test.YtpkajhmchcbbhaaE8
set_option linter.unusedSimpArgs false
set_option linter.unusedVariables false
section
namespace Go.Proofs.Ytpkajhmchcbbhaa.P
open Go.RowKit Go.Proofs.YtpkajhmchcbbhaaW.PrintWords Go.Proofs.YtpkajhmchcbbhaaW.PrintLast Go.Proofs.YtpkajhmchcbbhaaW.PrintMore
attribute [local go_sem] max2_int min2_int max_two min_two max_three min_three max_four min_four
def forecourtref01_between.f (k : Nat) (l0_0 : List (S70)) (a0_1 : Int) (l1 : List Int) (a2 : Int) (a3 : Int) : Option (Int × Int) := (forecourtref01_below.f k l0_0 a0_1 l1 a2).bind fun bt270 => ((forecourtref01_below.f k l0_0 a0_1 l1 a3).bind fun bt272 => (some (wrap64 ((wrap64 (bt272.1 * bt270.2)) - (wrap64 (bt270.1 * bt272.2))), wrap64 (bt270.2 * bt272.2))))
set_option maxHeartbeats 8000000 in
set_option maxRecDepth 100000 in
theorem forecourtref01_between.calls (k : Nat) (A0_0 : Option Addr) (c0_0 : Nat) (l0_0 : List (S70)) (a0_1 : Int) (A1 : Option Addr) (c1 : Nat) (l1 : List Int) (a2 : Int) (a3 : Int) (r1 : Int) (r2 : Int) (w : World) (hr0_0 : Kd.C k70 w A0_0 l0_0.length l0_0) (hc0_0 : l0_0.length ≤ c0_0) (hr1 : Kd.C (Kd.int .i64) w A1 l1.length l1) (hc1 : l1.length ≤ c1) (h : forecourtref01_between.f k l0_0 a0_1 l1 a2 a3 = some (r1, r2)) :
  Calls Try.prog 70 #[.agg #[.slice A0_0 l0_0.length c0_0, .int .i64 a0_1], .slice A1 l1.length c1, .int .i64 a2, .int .i64 a3] w fun e w' => e = .returned (.tuple #[.int .i64 r1, .int .i64 r2]) ∧ Below w.heap.size w w' := by
 have hu24 := Try.underlying24
 have HR0_0 := Aside0.mk hr0_0
 have HC0_0 := Aside0.mk hc0_0
 clear hr0_0 hc0_0
 have HR1 := Aside0.mk hr1
 have HC1 := Aside0.mk hc1
 clear hr1 hc1
 have HB := Aside0.mk (Below.refl w.heap.size w)
 have H : ((forecourtref01_below.f k l0_0 a0_1 l1 a2).bind fun bt270 => ((forecourtref01_below.f k l0_0 a0_1 l1 a3).bind fun bt272 => (some (wrap64 ((wrap64 (bt272.1 * bt270.2)) - (wrap64 (bt270.1 * bt272.2))), wrap64 (bt270.2 * bt272.2))))) = some (r1, r2) := h
 clear h
 replace H := Option.bind_eq_some_iff.mp H
 obtain ⟨⟨t270, t271⟩, A50, H⟩ := H
 replace H : ((forecourtref01_below.f k l0_0 a0_1 l1 a3).bind fun bt272 => (some (wrap64 ((wrap64 (bt272.1 * t271)) - (wrap64 (t270 * bt272.2))), wrap64 (t271 * bt272.2)))) = some (r1, r2) := H
 have A5 := Aside0.mk A50
 clear A50
 replace H := Option.bind_eq_some_iff.mp H
 obtain ⟨⟨t272, t273⟩, A60, H⟩ := H
 replace H : (some (wrap64 ((wrap64 (t272 * t271)) - (wrap64 (t270 * t273))), wrap64 (t271 * t273))) = some (r1, r2) := H
 have A6 := Aside0.mk A60
 clear A60
 simp only [Option.some.injEq, Prod.mk.injEq] at H
 obtain ⟨rfl, rfl⟩ := H
 go_enter Try.func70, Try.ntmps70
 go_wp2_with (first | ((with_reducible refine gate_dst (N := 4) rfl ?_); refine box_event ?hg (N := 4) ?hd (cs := #[.slice A0_0 l0_0.length c0_0, .int .i64 a0_1]) (t := 24) ?hr ?_; (case hd => rfl); (case hg => rfl); (case hr => first | (go_simp; done) | (go_simp; rfl)); intro gb269 hg w7 hbox hb; have n0_ := Aside0.mk (below_step qe1 hb); have n1_ := Aside0.mk (hbox); have n2_ := Aside0.mk ((by rw [hg]; exact (below_size qe1) : w.heap.size ≤ gb269)); have n3_ := Aside0.mk ((by rw [hg]; exact (below_size qe1) : w.heap.size ≤ gb269)); clear HB; have HB := n0_; have BK269 := n1_; have GW269 := n2_; have GE269 := n3_; clear n0_ n1_ n2_ n3_; clear hb hbox hg; have hcz8_0 : w7.cell? ⟨gb269, 0, none⟩ = some (.slice A0_0 l0_0.length c0_0) := (blk_cell BK269.out 0).trans rfl; have hcz8_1 : w7.cell? ⟨gb269, 1, none⟩ = some (.int .i64 a0_1) := (blk_cell BK269.out 1).trans rfl; have hfz8_0 := blk_frozen BK269.out 0; have hfz8_1 := blk_frozen BK269.out 1) | ((with_reducible refine gate_callee (f := 67) rfl ?_); refine goesL_ (some 18) rfl rfl Try.func67 (by kernel_rfl) rfl #[.agg #[.slice A0_0 l0_0.length c0_0, .int .i64 a0_1], .slice A1 l1.length c1, .int .i64 a2] rfl qe2 ?_; (with_reducible refine (forecourtref01_below.calls k _ _ l0_0 a0_1 _ _ l1 a2 t270 t271 _ ?side1 ?side2 ?side3 ?side4 A5.out).mono ?_); (case side1 => repeat (first | exact (Kd.C_below HR0_0.out HB.out) | (with_reducible refine Kd.C_alloc ?_ _) | (with_reducible refine Kd.C_drewN ?_ _) | (with_reducible refine Kd.C_drew ?_))); (case side2 => exact HC0_0.out); (case side3 => repeat (first | exact (Kd.C_below HR1.out HB.out) | (with_reducible refine Kd.C_alloc ?_ _) | (with_reducible refine Kd.C_drewN ?_ _) | (with_reducible refine Kd.C_drew ?_))); (case side4 => exact HC1.out); rintro e w9 ⟨rfl, hb⟩; refine ⟨_, rfl, ?_⟩; have n0_ := Aside0.mk (blk_below (g := gb269) (o := .cells #[.slice A0_0 l0_0.length c0_0, .int .i64 a0_1] 24 (0, 0)) qe33 hb); have n1_ := Aside0.mk (below_step qe28 hb); clear BK269; clear HB; have BK269 := n0_; have HB := n1_; clear n0_ n1_; (try clear hb); (try clear hb2); (try clear hk); (try clear hi); have hcz10_0 : w9.cell? ⟨gb269, 0, none⟩ = some (.slice A0_0 l0_0.length c0_0) := (blk_cell BK269.out 0).trans rfl; have hcz10_1 : w9.cell? ⟨gb269, 1, none⟩ = some (.int .i64 a0_1) := (blk_cell BK269.out 1).trans rfl; have hfz10_0 := blk_frozen BK269.out 0; have hfz10_1 := blk_frozen BK269.out 1) | ((with_reducible refine gate_callee (f := 67) rfl ?_); refine goesL_ (some 25) rfl rfl Try.func67 (by kernel_rfl) rfl #[.agg #[.slice A0_0 l0_0.length c0_0, .int .i64 a0_1], .slice A1 l1.length c1, .int .i64 a3] rfl qe2 ?_; (with_reducible refine (forecourtref01_below.calls k _ _ l0_0 a0_1 _ _ l1 a3 t272 t273 _ ?side1 ?side2 ?side3 ?side4 A6.out).mono ?_); (case side1 => repeat (first | exact (Kd.C_below HR0_0.out HB.out) | (with_reducible refine Kd.C_alloc ?_ _) | (with_reducible refine Kd.C_drewN ?_ _) | (with_reducible refine Kd.C_drew ?_))); (case side2 => exact HC0_0.out); (case side3 => repeat (first | exact (Kd.C_below HR1.out HB.out) | (with_reducible refine Kd.C_alloc ?_ _) | (with_reducible refine Kd.C_drewN ?_ _) | (with_reducible refine Kd.C_drew ?_))); (case side4 => exact HC1.out); rintro e w11 ⟨rfl, hb⟩; refine ⟨_, rfl, ?_⟩; have n0_ := Aside0.mk (blk_below (g := gb269) (o := .cells #[.slice A0_0 l0_0.length c0_0, .int .i64 a0_1] 24 (0, 0)) qe33 hb); have n1_ := Aside0.mk (below_step qe28 hb); clear BK269; clear HB; have BK269 := n0_; have HB := n1_; clear n0_ n1_; (try clear hb); (try clear hb2); (try clear hk); (try clear hi)))
 go_ret2
 exact ⟨by first | rfl | (simp [errW_none, errW_some] <;> rfl) | (simp [*, errW_none, errW_some] <;> rfl), by repeat (first | (with_reducible first | exact HB.out | apply below_alloc | apply pw_below_drewN | apply below_drew1 | refine below_set ?_ GE269.out) | exact HB.out)⟩
end Go.Proofs.Ytpkajhmchcbbhaa.P
end
section
namespace Go.Proofs.Ytpkajhmchcbbhaa.P
open Go.RowKit Go.Proofs.YtpkajhmchcbbhaaW.PrintWords Go.Proofs.YtpkajhmchcbbhaaW.PrintLast Go.Proofs.YtpkajhmchcbbhaaW.PrintMore
attribute [local go_sem] max2_int min2_int max_two min_two max_three min_three max_four min_four
def forecourtref01_Between.f (k : Nat) (l0_0 : List (S70)) (a0_1 : Int) (l1 : List Int) (a2 : Int) (a3 : Int) : Option (Int × Int) := (forecourtref01_between.f k l0_0 a0_1 l1 a2 a3).bind fun bt300 => ((forecourtref01_Fraction.f k bt300.1 bt300.2).bind fun bt302 => (some (bt302.1, bt302.2)))
set_option maxHeartbeats 8000000 in
set_option maxRecDepth 100000 in
theorem forecourtref01_Between.calls (k : Nat) (A0_0 : Option Addr) (c0_0 : Nat) (l0_0 : List (S70)) (a0_1 : Int) (A1 : Option Addr) (c1 : Nat) (l1 : List Int) (a2 : Int) (a3 : Int) (r1 : Int) (r2 : Int) (w : World) (hr0_0 : Kd.C k70 w A0_0 l0_0.length l0_0) (hc0_0 : l0_0.length ≤ c0_0) (hr1 : Kd.C (Kd.int .i64) w A1 l1.length l1) (hc1 : l1.length ≤ c1) (h : forecourtref01_Between.f k l0_0 a0_1 l1 a2 a3 = some (r1, r2)) :
  Calls Try.prog 43 #[.agg #[.slice A0_0 l0_0.length c0_0, .int .i64 a0_1], .slice A1 l1.length c1, .int .i64 a2, .int .i64 a3] w fun e w' => e = .returned (.agg #[.int .i64 r1, .int .i64 r2]) ∧ Below w.heap.size w w' := by
 have hu24 := Try.underlying24
 have hu39 := Try.underlying39
 have HR0_0 := Aside0.mk hr0_0
 have HC0_0 := Aside0.mk hc0_0
 clear hr0_0 hc0_0
 have HR1 := Aside0.mk hr1
 have HC1 := Aside0.mk hc1
 clear hr1 hc1
 have HB := Aside0.mk (Below.refl w.heap.size w)
 have H : ((forecourtref01_between.f k l0_0 a0_1 l1 a2 a3).bind fun bt300 => ((forecourtref01_Fraction.f k bt300.1 bt300.2).bind fun bt302 => (some (bt302.1, bt302.2)))) = some (r1, r2) := h
 clear h
 replace H := Option.bind_eq_some_iff.mp H
 obtain ⟨⟨t300, t301⟩, A50, H⟩ := H
 replace H : ((forecourtref01_Fraction.f k t300 t301).bind fun bt302 => (some (bt302.1, bt302.2))) = some (r1, r2) := H
 have A5 := Aside0.mk A50
 clear A50
 replace H := Option.bind_eq_some_iff.mp H
 obtain ⟨⟨t302, t303⟩, A60, H⟩ := H
 replace H : (some (t302, t303)) = some (r1, r2) := H
 have A6 := Aside0.mk A60
 clear A60
 simp only [Option.some.injEq, Prod.mk.injEq] at H
 obtain ⟨rfl, rfl⟩ := H
 go_enter Try.func43, Try.ntmps43
 go_wp2_with (first | ((with_reducible refine gate_dst (N := 4) rfl ?_); refine box_event ?hg (N := 4) ?hd (cs := #[.slice A0_0 l0_0.length c0_0, .int .i64 a0_1]) (t := 24) ?hr ?_; (case hd => rfl); (case hg => rfl); (case hr => first | (go_simp; done) | (go_simp; rfl)); intro gb298 hg w7 hbox hb; have n0_ := Aside0.mk (below_step qe3 hb); have n1_ := Aside0.mk (hbox); have n2_ := Aside0.mk ((by rw [hg]; exact (below_size qe3) : w.heap.size ≤ gb298)); have n3_ := Aside0.mk ((by rw [hg]; exact (below_size qe3) : w.heap.size ≤ gb298)); clear HB; have HB := n0_; have BK298 := n1_; have GW298 := n2_; have GE298 := n3_; clear n0_ n1_ n2_ n3_; clear hb hbox hg) | ((with_reducible refine gate_dst (N := 8) rfl ?_); refine box_event ?hg (N := 8) ?hd (cs := #[.int .i64 0, .int .i64 0]) (t := 39) ?hr ?_; (case hd => rfl); (case hg => rfl); (case hr => first | (go_simp; done) | (go_simp; rfl)); intro gb299 hg w8 hbox hb; have n0_ := Aside0.mk (blk_below (g := gb298) (o := .cells #[.slice A0_0 l0_0.length c0_0, .int .i64 a0_1] 24 (0, 0)) (by exact BK298.out) hb); have n1_ := Aside0.mk (below_step qe3 hb); have n2_ := Aside0.mk (hbox); have n3_ := Aside0.mk ((by rw [hg]; exact (below_size qe3) : w.heap.size ≤ gb299)); have n4_ := Aside0.mk ((by rw [hg]; exact (below_size qe3) : w.heap.size ≤ gb299)); have n5_ := Aside0.mk ((by rw [hg]; exact Nat.ne_of_lt (blk_lt (g := gb298) (o := .cells #[.slice A0_0 l0_0.length c0_0, .int .i64 a0_1] 24 (0, 0)) (by exact BK298.out)) : gb298 ≠ gb299)); have n6_ := Aside0.mk ((by rw [hg]; exact Nat.ne_of_gt (blk_lt (g := gb298) (o := .cells #[.slice A0_0 l0_0.length c0_0, .int .i64 a0_1] 24 (0, 0)) (by exact BK298.out)) : gb299 ≠ gb298)); clear BK298; clear HB; have BK298 := n0_; have HB := n1_; have BK299 := n2_; have GW299 := n3_; have GE299 := n4_; have NB298_299 := n5_; have NB299_298 := n6_; clear n0_ n1_ n2_ n3_ n4_ n5_ n6_; clear hb hbox hg; have hnb9 := NB298_299.out; have hnc9 := NB299_298.out; have hcz10_0 : w8.cell? ⟨gb298, 0, none⟩ = some (.slice A0_0 l0_0.length c0_0) := (blk_cell BK298.out 0).trans rfl; have hcz10_1 : w8.cell? ⟨gb298, 1, none⟩ = some (.int .i64 a0_1) := (blk_cell BK298.out 1).trans rfl; have hfz10_0 := blk_frozen BK298.out 0; have hfz10_1 := blk_frozen BK298.out 1) | ((with_reducible refine gate_callee (f := 70) rfl ?_); refine goesL_ (some 16) rfl rfl Try.func70 (by kernel_rfl) rfl #[.agg #[.slice A0_0 l0_0.length c0_0, .int .i64 a0_1], .slice A1 l1.length c1, .int .i64 a2, .int .i64 a3] rfl qe2 ?_; (with_reducible refine (forecourtref01_between.calls k _ _ l0_0 a0_1 _ _ l1 a2 a3 t300 t301 _ ?side1 ?side2 ?side3 ?side4 A5.out).mono ?_); (case side1 => (exact (Kd.C_below HR0_0.out HB.out))); (case side2 => exact HC0_0.out); (case side3 => (exact (Kd.C_below HR1.out HB.out))); (case side4 => exact HC1.out); rintro e w11 ⟨rfl, hb⟩; refine ⟨_, rfl, ?_⟩; have n0_ := Aside0.mk (blk_below (g := gb298) (o := .cells #[.slice A0_0 l0_0.length c0_0, .int .i64 a0_1] 24 (0, 0)) (by exact BK298.out) hb); have n1_ := Aside0.mk (blk_below (g := gb299) (o := .cells #[.int .i64 0, .int .i64 0] 39 (0, 0)) (by exact BK299.out) hb); have n2_ := Aside0.mk (below_step qe3 hb); clear BK298; clear BK299; clear HB; have BK298 := n0_; have BK299 := n1_; have HB := n2_; clear n0_ n1_ n2_; (try clear hb); (try clear hb2); (try clear hk); (try clear hi)) | ((with_reducible refine gate_callee (f := 50) rfl ?_); refine goesL_ (some 21) rfl rfl Try.func50 (by kernel_rfl) rfl #[.int .i64 t300, .int .i64 t301] rfl qe2 ?_; (with_reducible refine (forecourtref01_Fraction.calls k t300 t301 t302 t303 _ A6.out).mono ?_); rintro e w12 ⟨rfl, hb⟩; refine ⟨_, rfl, ?_⟩; have n0_ := Aside0.mk (blk_below (g := gb298) (o := .cells #[.slice A0_0 l0_0.length c0_0, .int .i64 a0_1] 24 (0, 0)) (by exact BK298.out) hb); have n1_ := Aside0.mk (blk_below (g := gb299) (o := .cells #[.int .i64 0, .int .i64 0] 39 (0, 0)) (by exact BK299.out) hb); have n2_ := Aside0.mk (below_step qe3 hb); clear BK298; clear BK299; clear HB; have BK298 := n0_; have BK299 := n1_; have HB := n2_; clear n0_ n1_ n2_; (try clear hb); (try clear hb2); (try clear hk); (try clear hi); have hcz13_0 : w12.cell? ⟨gb299, 0, none⟩ = some (.int .i64 0) := (blk_cell BK299.out 0).trans rfl; have hcz13_1 : w12.cell? ⟨gb299, 1, none⟩ = some (.int .i64 0) := (blk_cell BK299.out 1).trans rfl; have hfz13_0 := blk_frozen BK299.out 0; have hfz13_1 := blk_frozen BK299.out 1))
 refine bodyPost_ret (results_cell_row rfl _ _ gb299 39 #[.int .i64 t302, .int .i64 t303] (0, 0) _ rfl (by (skip); refine blk_put (cs := #[.int .i64 t302, .int .i64 0]) ?_ 1 _ rfl; (skip); refine blk_put (cs := #[.int .i64 0, .int .i64 0]) ?_ 0 _ rfl; (skip); exact BK299.out) Try.underlying39 rfl (by kernel_rfl)) rfl ?_
 exact ⟨by first | rfl | (simp [errW_none, errW_some] <;> rfl) | (simp [*, errW_none, errW_some] <;> rfl), by (with_reducible refine below_set ?_ GE299.out; with_reducible refine below_set ?_ GE299.out; with_reducible exact HB.out)⟩
end Go.Proofs.Ytpkajhmchcbbhaa.P
end
section
namespace Go.Proofs.Ytpkajhmchcbbhaa.P
open Go.RowKit Go.Proofs.YtpkajhmchcbbhaaW.PrintWords Go.Proofs.YtpkajhmchcbbhaaW.PrintLast Go.Proofs.YtpkajhmchcbbhaaW.PrintMore
attribute [local go_sem] max2_int min2_int max_two min_two max_three min_three max_four min_four
theorem eqA39 (d : Nat) (w : World) (x0 y0 : Int) (x1 y1 : Int) :
  (Op.equalIn (d + 2) 39 (.agg #[.int .i64 x0, .int .i64 x1]) (.agg #[.int .i64 y0, .int .i64 y1])).run Try.prog w = .ok (x0 == y0 && (x1 == y1)) w := by
 refine eqA_of Try.underlying39 (by kernel_rfl) ?_
 refine eqf_cons (by rfl) (by go_simp; rfl) (by go_simp; rfl) (by go_simp) ?_
 exact eqf_last (by rfl) (by go_simp; rfl) (by go_simp; rfl) (by go_simp)
end Go.Proofs.Ytpkajhmchcbbhaa.P
end
section
namespace Go.Proofs.Ytpkajhmchcbbhaa.P
open Go.RowKit Go.Proofs.YtpkajhmchcbbhaaW.PrintWords Go.Proofs.YtpkajhmchcbbhaaW.PrintLast Go.Proofs.YtpkajhmchcbbhaaW.PrintMore
attribute [local go_sem] max2_int min2_int max_two min_two max_three min_three max_four min_four
attribute [local go_sem high] eqA39
def forecourtlaw01_reached.f (k : Nat) (l0_0 : List (S70)) (a0_1 : Int) (a1 : Int) (a2 : Int) (l3 : List Int) (a4_0 : Int) (a4_1 : Int) (a5_0 : Int) (a5_1 : Int) : Option (Bool) := (forecourtref01_True.f l0_0 a0_1 a1).bind fun bt307 => ((forecourtref01_True.f l0_0 a0_1 a2).bind fun bt309 => ((forecourtref01_CheckChart.f k l0_0 a0_1 l3).bind fun t313 => (if t313 = 0 then (if a4_0 < bt307.1 then (some false) else (if a4_0 > bt307.2 then (some false) else (if a4_1 < bt309.1 then (some false) else (if a4_1 > bt309.2 then (some false) else (if a4_0 > a4_1 then (some false) else ((forecourtref01_Between.f k l0_0 a0_1 l3 a4_0 a4_1).bind fun bt314 => (some (bt314.1 == a5_0 && (bt314.2 == a5_1))))))))) else (some false))))
end Go.Proofs.Ytpkajhmchcbbhaa.P
end
section
namespace Go.Proofs.Ytpkajhmchcbbhaa.P
open Go.RowKit Go.Proofs.YtpkajhmchcbbhaaW.PrintWords Go.Proofs.YtpkajhmchcbbhaaW.PrintLast Go.Proofs.YtpkajhmchcbbhaaW.PrintMore
attribute [local go_sem] max2_int min2_int max_two min_two max_three min_three max_four min_four
def forecourtlaw01_great.f (l0_0 : List (S70)) (a0_1 : Int) : Option (Bool) := some (decide ((l0_0.length : Int) > 25))
set_option maxHeartbeats 8000000 in
set_option maxRecDepth 100000 in
theorem forecourtlaw01_great.calls (A0_0 : Option Addr) (c0_0 : Nat) (l0_0 : List (S70)) (a0_1 : Int) (r : Bool) (w : World) (hr0_0 : Kd.C k70 w A0_0 l0_0.length l0_0) (hc0_0 : l0_0.length ≤ c0_0) (h : forecourtlaw01_great.f l0_0 a0_1 = some r) :
  Calls Try.prog 15 #[.agg #[.slice A0_0 l0_0.length c0_0, .int .i64 a0_1]] w fun e w' => e = .returned (.bool r) ∧ Below w.heap.size w w' := by
 have hu24 := Try.underlying24
 have HR0_0 := Aside0.mk hr0_0
 have HC0_0 := Aside0.mk hc0_0
 clear hr0_0 hc0_0
 have HB := Aside0.mk (Below.refl w.heap.size w)
 have H : (some (decide ((l0_0.length : Int) > 25))) = some r := h
 clear h
 obtain rfl := Option.some.inj H
 go_enter Try.func15, Try.ntmps15
 go_wp2_with (first | ((with_reducible refine gate_dst (N := 1) rfl ?_); refine box_event ?hg (N := 1) ?hd (cs := #[.slice A0_0 l0_0.length c0_0, .int .i64 a0_1]) (t := 24) ?hr ?_; (case hd => rfl); (case hg => rfl); (case hr => first | (go_simp; done) | (go_simp; rfl)); intro gb101 hg w2 hbox hb; have n0_ := Aside0.mk (below_step qe1 hb); have n1_ := Aside0.mk (hbox); have n2_ := Aside0.mk ((by rw [hg]; exact (below_size qe1) : w.heap.size ≤ gb101)); have n3_ := Aside0.mk ((by rw [hg]; exact (below_size qe1) : w.heap.size ≤ gb101)); clear HB; have HB := n0_; have BK101 := n1_; have GW101 := n2_; have GE101 := n3_; clear n0_ n1_ n2_ n3_; clear hb hbox hg; have hcz3_0 : w2.cell? ⟨gb101, 0, none⟩ = some (.slice A0_0 l0_0.length c0_0) := (blk_cell BK101.out 0).trans rfl; have hcz3_1 : w2.cell? ⟨gb101, 1, none⟩ = some (.int .i64 a0_1) := (blk_cell BK101.out 1).trans rfl; have hfz3_0 := blk_frozen BK101.out 0; have hfz3_1 := blk_frozen BK101.out 1))
 go_ret
 exact ⟨by first | rfl | (simp [errW_none, errW_some] <;> rfl) | (simp [*, errW_none, errW_some] <;> rfl), by repeat (first | (with_reducible first | exact HB.out | apply below_alloc | apply pw_below_drewN | apply below_drew1 | refine below_set ?_ GE101.out) | exact HB.out)⟩
end Go.Proofs.Ytpkajhmchcbbhaa.P
end
section
namespace Go.Proofs.Ytpkajhmchcbbhaa.P
open Go.RowKit Go.Proofs.YtpkajhmchcbbhaaW.PrintWords Go.Proofs.YtpkajhmchcbbhaaW.PrintLast Go.Proofs.YtpkajhmchcbbhaaW.PrintMore
attribute [local go_sem] max2_int min2_int max_two min_two max_three min_three max_four min_four
def forecourtlaw01_fine.f (k : Nat) (l0_0 : List (S70)) (a0_1 : Int) : Option (Bool) := (forecourtlaw01_great.f l0_0 a0_1).bind fun t404 => (if t404 = true then (some false) else ((forecourtref01_CheckTank.f k l0_0 a0_1).bind fun t405 => (if t405 = 0 then ((forecourtref01_Clashes.f k l0_0 a0_1).bind fun t406 => (some (!t406))) else (some false))))
set_option maxHeartbeats 8000000 in
set_option maxRecDepth 100000 in
theorem forecourtlaw01_fine.calls (k : Nat) (A0_0 : Option Addr) (c0_0 : Nat) (l0_0 : List (S70)) (a0_1 : Int) (r : Bool) (w : World) (hr0_0 : Kd.C k70 w A0_0 l0_0.length l0_0) (hc0_0 : l0_0.length ≤ c0_0) (h : forecourtlaw01_fine.f k l0_0 a0_1 = some r) :
  Calls Try.prog 38 #[.agg #[.slice A0_0 l0_0.length c0_0, .int .i64 a0_1]] w fun e w' => e = .returned (.bool r) ∧ Below w.heap.size w w' := by
 have hu24 := Try.underlying24
 have HR0_0 := Aside0.mk hr0_0
 have HC0_0 := Aside0.mk hc0_0
 clear hr0_0 hc0_0
 have HB := Aside0.mk (Below.refl w.heap.size w)
 have H : ((forecourtlaw01_great.f l0_0 a0_1).bind fun t404 => (if t404 = true then (some false) else ((forecourtref01_CheckTank.f k l0_0 a0_1).bind fun t405 => (if t405 = 0 then ((forecourtref01_Clashes.f k l0_0 a0_1).bind fun t406 => (some (!t406))) else (some false))))) = some r := h
 clear h
 replace H := Option.bind_eq_some_iff.mp H
 obtain ⟨t404, A20, H⟩ := H
 replace H : (if t404 = true then (some false) else ((forecourtref01_CheckTank.f k l0_0 a0_1).bind fun t405 => (if t405 = 0 then ((forecourtref01_Clashes.f k l0_0 a0_1).bind fun t406 => (some (!t406))) else (some false)))) = some r := H
 have A2 := Aside0.mk A20
 clear A20
 by_cases c3 : t404 = true
 ·subst c3
  have H1 : (some false) = some r := by rw [if_pos rfl] at H; exact H
  clear H
  have H := H1
  clear H1
  obtain rfl := Option.some.inj H
  go_enter Try.func38, Try.ntmps38
  go_wp2_with (first | ((with_reducible refine gate_dst (N := 1) rfl ?_); refine box_event ?hg (N := 1) ?hd (cs := #[.slice A0_0 l0_0.length c0_0, .int .i64 a0_1]) (t := 24) ?hr ?_; (case hd => rfl); (case hg => rfl); (case hr => first | (go_simp; done) | (go_simp; rfl)); intro gb403 hg w4 hbox hb; have n0_ := Aside0.mk (below_step qe3 hb); have n1_ := Aside0.mk (hbox); have n2_ := Aside0.mk ((by rw [hg]; exact (below_size qe3) : w.heap.size ≤ gb403)); have n3_ := Aside0.mk ((by rw [hg]; exact (below_size qe3) : w.heap.size ≤ gb403)); clear HB; have HB := n0_; have BK403 := n1_; have GW403 := n2_; have GE403 := n3_; clear n0_ n1_ n2_ n3_; clear hb hbox hg; have hcz5_0 : w4.cell? ⟨gb403, 0, none⟩ = some (.slice A0_0 l0_0.length c0_0) := (blk_cell BK403.out 0).trans rfl; have hcz5_1 : w4.cell? ⟨gb403, 1, none⟩ = some (.int .i64 a0_1) := (blk_cell BK403.out 1).trans rfl; have hfz5_0 := blk_frozen BK403.out 0; have hfz5_1 := blk_frozen BK403.out 1) | ((with_reducible refine gate_callee (f := 15) rfl ?_); refine goesL_ (some 4) rfl rfl Try.func15 (by kernel_rfl) rfl #[.agg #[.slice A0_0 l0_0.length c0_0, .int .i64 a0_1]] rfl qe2 ?_; (with_reducible refine (forecourtlaw01_great.calls _ _ l0_0 a0_1 true _ ?side1 ?side2 A2.out).mono ?_); (case side1 => (exact (Kd.C_below HR0_0.out HB.out))); (case side2 => exact HC0_0.out); rintro e w6 ⟨rfl, hb⟩; refine ⟨_, rfl, ?_⟩; have n0_ := Aside0.mk (blk_below (g := gb403) (o := .cells #[.slice A0_0 l0_0.length c0_0, .int .i64 a0_1] 24 (0, 0)) (by exact BK403.out) hb); have n1_ := Aside0.mk (below_step qe3 hb); clear BK403; clear HB; have BK403 := n0_; have HB := n1_; clear n0_ n1_; (try clear hb); (try clear hb2); (try clear hk); (try clear hi)))
  go_ret
  exact ⟨by first | rfl | (simp [errW_none, errW_some] <;> rfl) | (simp [*, errW_none, errW_some] <;> rfl), by (with_reducible exact HB.out)⟩
 replace c3 := Bool.eq_false_iff.mpr c3
 subst c3
 have H1 : ((forecourtref01_CheckTank.f k l0_0 a0_1).bind fun t405 => (if t405 = 0 then ((forecourtref01_Clashes.f k l0_0 a0_1).bind fun t406 => (some (!t406))) else (some false))) = some r := by rw [if_neg (show ¬ (false = true) by decide)] at H; exact H
 clear H
 have H := H1
 clear H1
 replace H := Option.bind_eq_some_iff.mp H
 obtain ⟨t405, A70, H⟩ := H
 replace H : (if t405 = 0 then ((forecourtref01_Clashes.f k l0_0 a0_1).bind fun t406 => (some (!t406))) else (some false)) = some r := H
 have A7 := Aside0.mk A70
 clear A70
 by_cases c8 : t405 = 0
 ·rw [if_pos c8] at H
  have c8b0 : (t405 == 0) = true := beq_iff_eq.mpr c8
  have c8b1 : (t405 != 0) = false := bne_eq_false_iff_eq.mpr c8
  clear c8
  replace H := Option.bind_eq_some_iff.mp H
  obtain ⟨t406, A90, H⟩ := H
  replace H : (some (!t406)) = some r := H
  have A9 := Aside0.mk A90
  clear A90
  obtain rfl := Option.some.inj H
  go_enter Try.func38, Try.ntmps38
  go_wp2_with (first | ((with_reducible refine gate_dst (N := 1) rfl ?_); refine box_event ?hg (N := 1) ?hd (cs := #[.slice A0_0 l0_0.length c0_0, .int .i64 a0_1]) (t := 24) ?hr ?_; (case hd => rfl); (case hg => rfl); (case hr => first | (go_simp; done) | (go_simp; rfl)); intro gb403 hg w10 hbox hb; have n0_ := Aside0.mk (below_step qe3 hb); have n1_ := Aside0.mk (hbox); have n2_ := Aside0.mk ((by rw [hg]; exact (below_size qe3) : w.heap.size ≤ gb403)); have n3_ := Aside0.mk ((by rw [hg]; exact (below_size qe3) : w.heap.size ≤ gb403)); clear HB; have HB := n0_; have BK403 := n1_; have GW403 := n2_; have GE403 := n3_; clear n0_ n1_ n2_ n3_; clear hb hbox hg; have hcz11_0 : w10.cell? ⟨gb403, 0, none⟩ = some (.slice A0_0 l0_0.length c0_0) := (blk_cell BK403.out 0).trans rfl; have hcz11_1 : w10.cell? ⟨gb403, 1, none⟩ = some (.int .i64 a0_1) := (blk_cell BK403.out 1).trans rfl; have hfz11_0 := blk_frozen BK403.out 0; have hfz11_1 := blk_frozen BK403.out 1) | ((with_reducible refine gate_callee (f := 15) rfl ?_); refine goesL_ (some 4) rfl rfl Try.func15 (by kernel_rfl) rfl #[.agg #[.slice A0_0 l0_0.length c0_0, .int .i64 a0_1]] rfl qe2 ?_; (with_reducible refine (forecourtlaw01_great.calls _ _ l0_0 a0_1 false _ ?side1 ?side2 A2.out).mono ?_); (case side1 => (exact (Kd.C_below HR0_0.out HB.out))); (case side2 => exact HC0_0.out); rintro e w12 ⟨rfl, hb⟩; refine ⟨_, rfl, ?_⟩; have n0_ := Aside0.mk (blk_below (g := gb403) (o := .cells #[.slice A0_0 l0_0.length c0_0, .int .i64 a0_1] 24 (0, 0)) (by exact BK403.out) hb); have n1_ := Aside0.mk (below_step qe3 hb); clear BK403; clear HB; have BK403 := n0_; have HB := n1_; clear n0_ n1_; (try clear hb); (try clear hb2); (try clear hk); (try clear hi); have hcz13_0 : w12.cell? ⟨gb403, 0, none⟩ = some (.slice A0_0 l0_0.length c0_0) := (blk_cell BK403.out 0).trans rfl; have hcz13_1 : w12.cell? ⟨gb403, 1, none⟩ = some (.int .i64 a0_1) := (blk_cell BK403.out 1).trans rfl; have hfz13_0 := blk_frozen BK403.out 0; have hfz13_1 := blk_frozen BK403.out 1) | (go_at_call 22; (with_reducible refine (forecourtref01_CheckTank.calls k _ _ l0_0 a0_1 t405 _ ?side1 ?side2 A7.out).mono ?_); (case side1 => (exact (Kd.C_below HR0_0.out HB.out))); (case side2 => exact HC0_0.out); rintro e w14 ⟨rfl, hb⟩; have n0_ := Aside0.mk (blk_below (g := gb403) (o := .cells #[.slice A0_0 l0_0.length c0_0, .int .i64 a0_1] 24 (0, 0)) (by exact BK403.out) hb); have n1_ := Aside0.mk (below_step qe3 hb); clear BK403; clear HB; have BK403 := n0_; have HB := n1_; clear n0_ n1_; (try clear hb); (try clear hb2); (try clear hk); (try clear hi); have hcz15_0 : w14.cell? ⟨gb403, 0, none⟩ = some (.slice A0_0 l0_0.length c0_0) := (blk_cell BK403.out 0).trans rfl; have hcz15_1 : w14.cell? ⟨gb403, 1, none⟩ = some (.int .i64 a0_1) := (blk_cell BK403.out 1).trans rfl; have hfz15_0 := blk_frozen BK403.out 0; have hfz15_1 := blk_frozen BK403.out 1) | (go_at_call 56; (with_reducible refine (forecourtref01_Clashes.calls k _ _ l0_0 a0_1 t406 _ ?side1 ?side2 A9.out).mono ?_); (case side1 => (exact (Kd.C_below HR0_0.out HB.out))); (case side2 => exact HC0_0.out); rintro e w16 ⟨rfl, hb⟩; have n0_ := Aside0.mk (blk_below (g := gb403) (o := .cells #[.slice A0_0 l0_0.length c0_0, .int .i64 a0_1] 24 (0, 0)) (by exact BK403.out) hb); have n1_ := Aside0.mk (below_step qe3 hb); clear BK403; clear HB; have BK403 := n0_; have HB := n1_; clear n0_ n1_; (try clear hb); (try clear hb2); (try clear hk); (try clear hi)))
  go_ret
  exact ⟨by first | rfl | (simp [errW_none, errW_some] <;> rfl) | (simp [*, errW_none, errW_some] <;> rfl), by (with_reducible exact HB.out)⟩
 rw [if_neg c8] at H
 have c8b0 : (t405 == 0) = false := beq_eq_false_iff_ne.mpr c8
 have c8b1 : (t405 != 0) = true := bne_iff_ne.mpr c8
 obtain rfl := Option.some.inj H
 go_enter Try.func38, Try.ntmps38
 go_wp2_with (first | ((with_reducible refine gate_dst (N := 1) rfl ?_); refine box_event ?hg (N := 1) ?hd (cs := #[.slice A0_0 l0_0.length c0_0, .int .i64 a0_1]) (t := 24) ?hr ?_; (case hd => rfl); (case hg => rfl); (case hr => first | (go_simp; done) | (go_simp; rfl)); intro gb403 hg w17 hbox hb; have n0_ := Aside0.mk (below_step qe3 hb); have n1_ := Aside0.mk (hbox); have n2_ := Aside0.mk ((by rw [hg]; exact (below_size qe3) : w.heap.size ≤ gb403)); have n3_ := Aside0.mk ((by rw [hg]; exact (below_size qe3) : w.heap.size ≤ gb403)); clear HB; have HB := n0_; have BK403 := n1_; have GW403 := n2_; have GE403 := n3_; clear n0_ n1_ n2_ n3_; clear hb hbox hg; have hcz18_0 : w17.cell? ⟨gb403, 0, none⟩ = some (.slice A0_0 l0_0.length c0_0) := (blk_cell BK403.out 0).trans rfl; have hcz18_1 : w17.cell? ⟨gb403, 1, none⟩ = some (.int .i64 a0_1) := (blk_cell BK403.out 1).trans rfl; have hfz18_0 := blk_frozen BK403.out 0; have hfz18_1 := blk_frozen BK403.out 1) | ((with_reducible refine gate_callee (f := 15) rfl ?_); refine goesL_ (some 4) rfl rfl Try.func15 (by kernel_rfl) rfl #[.agg #[.slice A0_0 l0_0.length c0_0, .int .i64 a0_1]] rfl qe2 ?_; (with_reducible refine (forecourtlaw01_great.calls _ _ l0_0 a0_1 false _ ?side1 ?side2 A2.out).mono ?_); (case side1 => (exact (Kd.C_below HR0_0.out HB.out))); (case side2 => exact HC0_0.out); rintro e w19 ⟨rfl, hb⟩; refine ⟨_, rfl, ?_⟩; have n0_ := Aside0.mk (blk_below (g := gb403) (o := .cells #[.slice A0_0 l0_0.length c0_0, .int .i64 a0_1] 24 (0, 0)) (by exact BK403.out) hb); have n1_ := Aside0.mk (below_step qe3 hb); clear BK403; clear HB; have BK403 := n0_; have HB := n1_; clear n0_ n1_; (try clear hb); (try clear hb2); (try clear hk); (try clear hi); have hcz20_0 : w19.cell? ⟨gb403, 0, none⟩ = some (.slice A0_0 l0_0.length c0_0) := (blk_cell BK403.out 0).trans rfl; have hcz20_1 : w19.cell? ⟨gb403, 1, none⟩ = some (.int .i64 a0_1) := (blk_cell BK403.out 1).trans rfl; have hfz20_0 := blk_frozen BK403.out 0; have hfz20_1 := blk_frozen BK403.out 1) | (go_at_call 22; (with_reducible refine (forecourtref01_CheckTank.calls k _ _ l0_0 a0_1 t405 _ ?side1 ?side2 A7.out).mono ?_); (case side1 => (exact (Kd.C_below HR0_0.out HB.out))); (case side2 => exact HC0_0.out); rintro e w21 ⟨rfl, hb⟩; have n0_ := Aside0.mk (blk_below (g := gb403) (o := .cells #[.slice A0_0 l0_0.length c0_0, .int .i64 a0_1] 24 (0, 0)) (by exact BK403.out) hb); have n1_ := Aside0.mk (below_step qe3 hb); clear BK403; clear HB; have BK403 := n0_; have HB := n1_; clear n0_ n1_; (try clear hb); (try clear hb2); (try clear hk); (try clear hi)))
 go_ret
 exact ⟨by first | rfl | (simp [errW_none, errW_some] <;> rfl) | (simp [*, errW_none, errW_some] <;> rfl), by (with_reducible exact HB.out)⟩
end Go.Proofs.Ytpkajhmchcbbhaa.P
end
section
namespace Go.Proofs.Ytpkajhmchcbbhaa.P
open Go.RowKit Go.Proofs.YtpkajhmchcbbhaaW.PrintWords Go.Proofs.YtpkajhmchcbbhaaW.PrintLast Go.Proofs.YtpkajhmchcbbhaaW.PrintMore
attribute [local go_sem] max2_int min2_int max_two min_two max_three min_three max_four min_four
def forecourtlaw01_True.l0 : Nat → List Int → List (S43) → List Int → Int → Int → Option (List Int)
 | 0, _, _, _, _, _ => none
 | k + 1, x1, x5, x7, x8, x9 => if x9 < (x5.length : Int) then (if 0 ≤ x9 then (if (x1.length : Int) > 0 then (if (x1.length : Int) = 0 then (none) else (if 0 ≤ (Int.tmod x9 (x1.length : Int)) then (if (Int.tmod x9 (x1.length : Int)) < (x1.length : Int) then (if (wrap64 ((wrap64 (((rd_T43 x5 x9).f1) - (mx x8 ((rd_T43 x5 x9).f0)))) + 1)) = 0 then (none) else (if x7.length < 17592186044416 then (forecourtlaw01_True.l0 k x1 x5 (x7 ++ [wrap64 ((mx x8 ((rd_T43 x5 x9).f0)) + (Int.tmod (wrap64 (rd x1 (Int.tmod x9 (x1.length : Int)))) (wrap64 ((wrap64 (((rd_T43 x5 x9).f1) - (mx x8 ((rd_T43 x5 x9).f0)))) + 1))))]) (wrap64 ((mx x8 ((rd_T43 x5 x9).f0)) + (Int.tmod (wrap64 (rd x1 (Int.tmod x9 (x1.length : Int)))) (wrap64 ((wrap64 (((rd_T43 x5 x9).f1) - (mx x8 ((rd_T43 x5 x9).f0)))) + 1))))) (wrap64 (x9 + 1))) else (none))) else (none)) else (none))) else (if x7.length < 17592186044416 then (forecourtlaw01_True.l0 k x1 x5 (x7 ++ [mx x8 ((rd_T43 x5 x9).f0)]) (mx x8 ((rd_T43 x5 x9).f0)) (wrap64 (x9 + 1))) else (none))) else (none)) else (some x7)
def forecourtlaw01_True.f (k : Nat) (l0_0 : List (S70)) (a0_1 : Int) (l1 : List Int) : Option (List Int) := (forecourtref01_Tight.f k l0_0 a0_1).bind fun bt408 => (forecourtlaw01_True.l0 k l1 bt408.1 ([] : List Int) 0 0)
set_option maxHeartbeats 8000000 in
set_option maxRecDepth 100000 in
theorem forecourtlaw01_True.calls (k : Nat) (A0_0 : Option Addr) (c0_0 : Nat) (l0_0 : List (S70)) (a0_1 : Int) (A1 : Option Addr) (c1 : Nat) (l1 : List Int) (r : List Int) (w : World) (hr0_0 : Kd.C k70 w A0_0 l0_0.length l0_0) (hc0_0 : l0_0.length ≤ c0_0) (hr1 : Kd.C (Kd.int .u32) w A1 l1.length l1) (hc1 : l1.length ≤ c1) (h : forecourtlaw01_True.f k l0_0 a0_1 l1 = some r) :
  Calls Try.prog 39 #[.agg #[.slice A0_0 l0_0.length c0_0, .int .i64 a0_1], .slice A1 l1.length c1] w fun e w' => ∃ v0_ : Value, e = .returned (v0_) ∧ Kd.R (Kd.int .i64) 2 w' w.heap.size (fun _ => True) v0_ r ∧ Below w.heap.size w w' := by
 have hu24 := Try.underlying24
 have HR0_0 := Aside0.mk hr0_0
 have HC0_0 := Aside0.mk hc0_0
 clear hr0_0 hc0_0
 have HR1 := Aside0.mk hr1
 have HC1 := Aside0.mk hc1
 clear hr1 hc1
 have HB := Aside0.mk (Below.refl w.heap.size w)
 have H : ((forecourtref01_Tight.f k l0_0 a0_1).bind fun bt408 => (forecourtlaw01_True.l0 k l1 bt408.1 ([] : List Int) 0 0)) = some r := h
 clear h
 replace H := Option.bind_eq_some_iff.mp H
 obtain ⟨⟨t408, t411⟩, A30, H⟩ := H
 replace H : (forecourtlaw01_True.l0 k l1 t408 ([] : List Int) 0 0) = some r := H
 have A3 := Aside0.mk A30
 clear A30
 have H' := Aside0.mk H
 clear H
 go_enter Try.func39, Try.ntmps39
 go_wp2_with (first | ((with_reducible refine gate_dst (N := 2) rfl ?_); refine box_event ?hg (N := 2) ?hd (cs := #[.slice A0_0 l0_0.length c0_0, .int .i64 a0_1]) (t := 24) ?hr ?_; (case hd => rfl); (case hg => rfl); (case hr => first | (go_simp; done) | (go_simp; rfl)); intro gb407 hg w4 hbox hb; have n0_ := Aside0.mk (below_step qe3 hb); have n1_ := Aside0.mk (hbox); have n2_ := Aside0.mk ((by rw [hg]; exact (below_size qe3) : w.heap.size ≤ gb407)); have n3_ := Aside0.mk ((by rw [hg]; exact (below_size qe3) : w.heap.size ≤ gb407)); clear HB; have HB := n0_; have BK407 := n1_; have GW407 := n2_; have GE407 := n3_; clear n0_ n1_ n2_ n3_; clear hb hbox hg; have hcz5_0 : w4.cell? ⟨gb407, 0, none⟩ = some (.slice A0_0 l0_0.length c0_0) := (blk_cell BK407.out 0).trans rfl; have hcz5_1 : w4.cell? ⟨gb407, 1, none⟩ = some (.int .i64 a0_1) := (blk_cell BK407.out 1).trans rfl; have hfz5_0 := blk_frozen BK407.out 0; have hfz5_1 := blk_frozen BK407.out 1) | (go_at_call 18; (with_reducible refine (forecourtref01_Tight.calls k _ _ l0_0 a0_1 t408 t411 _ ?side1 ?side2 A3.out).mono ?_); (case side1 => (exact (Kd.C_below HR0_0.out HB.out))); (case side2 => exact HC0_0.out); rintro e w6 ⟨v409, rfl, ho0, hb⟩; have n0_ := Aside0.mk (Kd.R_lower ho0 (below_size qe3)); have n1_ := Aside0.mk (blk_below (g := gb407) (o := .cells #[.slice A0_0 l0_0.length c0_0, .int .i64 a0_1] 24 (0, 0)) (by exact BK407.out) hb); have n2_ := Aside0.mk (below_step qe3 hb); clear BK407; clear HB; have HO410 := n0_; have BK407 := n1_; have HB := n2_; clear n0_ n1_ n2_; (try clear hb); (try clear hb2); (try clear hk); (try clear hi); (try clear ho0)))
 repeat (go_quiet (fail); try go_wp2_with fail)
 go_loopg [7, 8, 9] k (fun kq v7 v8 v9 w' => ∃ (x7_1 : List Int) (x8_1 : Int) (x9_1 : Int), v8 = .int .i64 x8_1 ∧ v9 = .int .i64 x9_1 ∧ Aside0 (forecourtlaw01_True.l0 kq l1 t408 x7_1 x8_1 x9_1 = some r) ∧ Aside0 (kq ≤ k) ∧ Aside0 (Kd.R k43 43 w' w.heap.size (fun _ => True) v409 t408) ∧ Aside0 (Kd.R (Kd.int .i64) 2 w' w.heap.size (fun _ => True) v7 x7_1) ∧ Aside0 (w'.heap[gb407]? = some (.cells #[(.slice A0_0 l0_0.length c0_0), .int .i64 a0_1] 24 (0, 0))) ∧ Aside0 (Below w.heap.size w w'))
 case atStart => exact ⟨(([] : List Int)), (0), (0), qe4, qe4, H', ⟨Nat.le_refl _⟩, ⟨by (skip); exact HO410.out⟩, ⟨by first | exact Kd.R_nil _ _ _ _ _ | exact Kd.N_nil _ _ _ _ _ | exact Kd.V_nil _ _ _ _ _ | exact Kd.Q_nil _ _ _ _ _ | exact Kd.S_nil _ _ _ _ _⟩, ⟨by (skip); exact BK407.out⟩, ⟨by (with_reducible exact HB.out)⟩⟩
 case round =>
  clear H'
  try clear c1
  try clear p2
  try clear c3
  try clear hcz5_0
  try clear hcz5_1
  try clear hfz5_0
  try clear hfz5_1
  obtain ⟨x7_1, x8_1, x9_1, rfl, rfl, HA, HK1, HO_5, HO_7, BK407, HB⟩ := hrel
  cases gk with
  | zero => exact absurd HA.out (by simp [forecourtlaw01_True.l0])
  | succ k1 =>
   have H := HA.out
   clear HA
   simp only [forecourtlaw01_True.l0] at H
   by_cases c7 : x9_1 < (t408.length : Int)
   ·rw [if_pos c7] at H
    have c7b0 : decide (x9_1 < (t408.length : Int)) = true := decide_eq_true c7
    clear c7
    by_cases c8 : 0 ≤ x9_1
    ·rw [if_pos c8] at H
     have c8b0 : decide (0 ≤ x9_1) = true := decide_eq_true c8
     clear c8
     obtain ⟨ji9, hji9⟩ : ∃ j_ : Int, (mx x8_1 ((rd_T43 t408 x9_1).f0)) = j_ := ⟨_, rfl⟩
     replace H : (if (l1.length : Int) > 0 then (if (l1.length : Int) = 0 then (none) else (if 0 ≤ (Int.tmod x9_1 (l1.length : Int)) then (if (Int.tmod x9_1 (l1.length : Int)) < (l1.length : Int) then (if (wrap64 ((wrap64 (((rd_T43 t408 x9_1).f1) - (ji9))) + 1)) = 0 then (none) else (if x7_1.length < 17592186044416 then (forecourtlaw01_True.l0 k1 l1 t408 (x7_1 ++ [wrap64 ((ji9) + (Int.tmod (wrap64 (rd l1 (Int.tmod x9_1 (l1.length : Int)))) (wrap64 ((wrap64 (((rd_T43 t408 x9_1).f1) - (ji9))) + 1))))]) (wrap64 ((ji9) + (Int.tmod (wrap64 (rd l1 (Int.tmod x9_1 (l1.length : Int)))) (wrap64 ((wrap64 (((rd_T43 t408 x9_1).f1) - (ji9))) + 1))))) (wrap64 (x9_1 + 1))) else (none))) else (none)) else (none))) else (if x7_1.length < 17592186044416 then (forecourtlaw01_True.l0 k1 l1 t408 (x7_1 ++ [ji9]) ji9 (wrap64 (x9_1 + 1))) else (none))) = some r := by first | (rw [hji9] at H; exact H) | (simp only [hji9] at H ⊢; exact H)
     have hji9_ : (if x8_1 < ((rd_T43 t408 x9_1).f0) then ((rd_T43 t408 x9_1).f0) else x8_1) = ji9 := hji9
     by_cases c10 : (l1.length : Int) > 0
     ·rw [if_pos c10] at H
      have c10b0 : decide (0 < (l1.length : Int)) = true := decide_eq_true c10
      have c10b1 : decide (0 < l1.length) = true := decide_eq_true (by omega)
      clear c10
      by_cases c11 : (l1.length : Int) = 0
      ·rw [if_pos c11] at H
       exact absurd H (by simp)
      rw [if_neg c11] at H
      have c11b0 : ((l1.length : Int) == 0) = false := beq_eq_false_iff_ne.mpr c11
      have c11b1 : ((l1.length : Int) != 0) = true := bne_iff_ne.mpr c11
      have c11b2 : ¬ (l1 = []) := fun h_ => c11 (by rw [h_]; rfl)
      obtain ⟨ji12, hji12⟩ : ∃ j_ : Int, (Int.tmod x9_1 (l1.length : Int)) = j_ := ⟨_, rfl⟩
      replace H : (if 0 ≤ (ji12) then (if (ji12) < (l1.length : Int) then (if (wrap64 ((wrap64 (((rd_T43 t408 x9_1).f1) - (ji9))) + 1)) = 0 then (none) else (if x7_1.length < 17592186044416 then (forecourtlaw01_True.l0 k1 l1 t408 (x7_1 ++ [wrap64 ((ji9) + (Int.tmod (wrap64 (rd l1 (ji12))) (wrap64 ((wrap64 (((rd_T43 t408 x9_1).f1) - (ji9))) + 1))))]) (wrap64 ((ji9) + (Int.tmod (wrap64 (rd l1 (ji12))) (wrap64 ((wrap64 (((rd_T43 t408 x9_1).f1) - (ji9))) + 1))))) (wrap64 (x9_1 + 1))) else (none))) else (none)) else (none)) = some r := by first | (rw [hji12] at H; exact H) | (simp only [hji12] at H ⊢; exact H)
      by_cases c13 : 0 ≤ (ji12)
      ·rw [if_pos c13] at H
       have c13b0 : decide (0 ≤ (ji12)) = true := decide_eq_true c13
       clear c13
       by_cases c14 : (ji12) < (l1.length : Int)
       ·rw [if_pos c14] at H
        have c14b0 : decide ((ji12) < (l1.length : Int)) = true := decide_eq_true c14
        clear c14
        by_cases c15 : (wrap64 ((wrap64 (((rd_T43 t408 x9_1).f1) - (ji9))) + 1)) = 0
        ·rw [if_pos c15] at H
         exact absurd H (by simp)
        rw [if_neg c15] at H
        have c15b0 : ((wrap64 ((wrap64 (((rd_T43 t408 x9_1).f1) - (ji9))) + 1)) == 0) = false := beq_eq_false_iff_ne.mpr c15
        have c15b1 : ((wrap64 ((wrap64 (((rd_T43 t408 x9_1).f1) - (ji9))) + 1)) != 0) = true := bne_iff_ne.mpr c15
        by_cases c16 : x7_1.length < 17592186044416
        ·rw [if_pos c16] at H
         have LMc16 := Aside0.mk c16
         clear c16
         obtain ⟨y415, hy415⟩ : ∃ y_ : List Int, y_ = (x7_1 ++ [wrap64 ((ji9) + (Int.tmod (wrap64 (rd l1 (ji12))) (wrap64 ((wrap64 (((rd_T43 t408 x9_1).f1) - (ji9))) + 1))))]) := ⟨_, rfl⟩
         replace H : (forecourtlaw01_True.l0 k1 l1 t408 y415 (wrap64 ((ji9) + (Int.tmod (wrap64 (rd l1 (ji12))) (wrap64 ((wrap64 (((rd_T43 t408 x9_1).f1) - (ji9))) + 1))))) (wrap64 (x9_1 + 1))) = some r := by first | (rw [hy415]; with_reducible exact H) | (have H2_ := (Option.bind_some _ _).symm.trans H; rw [hy415]; with_reducible exact H2_) | (have H2_ := (Option.bind_some _ _).symm.trans H; with_reducible exact H2_) | with_reducible exact H | (rw [hy415]; exact H) | exact H
         have Ny415 := Aside0.mk hy415
         clear hy415
         have H' := Aside0.mk H
         clear H
         obtain ⟨Ao17, co17, eo17⟩ := Kd.R_slice HO_5.out
         subst eo17
         have p412 : 0 ≤ (x9_1 : Int) := of_decide_eq_true qe0
         have q412 : x9_1 < (t408.length : Int) := of_decide_eq_true qe0
         obtain ⟨ad412, e412, hx412_0, hx412_1⟩ := at_T43 (Kd.R_reads' HO_5.out).2.2 x9_1 p412 q412
         cases e412
         replace p412 := eq_true p412
         replace q412 := eq_true q412
         have p413 : 0 ≤ ((ji12) : Int) := of_decide_eq_true qe0
         have q413 : (ji12) < (l1.length : Int) := of_decide_eq_true qe0
         obtain ⟨ad413, e413, hx413_0⟩ := Kd.at_int HR1.out (ji12) p413 q413
         cases e413
         replace hx413_0 := (HB.out.cell (World.block_lt_of_cell? w _ hx413_0)).trans hx413_0
         replace p413 := eq_true p413
         replace q413 := eq_true q413
         have p414 : 0 ≤ (x9_1 : Int) := of_decide_eq_true qe0
         have q414 : x9_1 < (t408.length : Int) := of_decide_eq_true qe0
         obtain ⟨ad414, e414, hx414_0, hx414_1⟩ := at_T43 (Kd.R_reads' HO_5.out).2.2 x9_1 p414 q414
         obtain rfl : ad412 = ad414 := (by injection e414)
         replace p414 := eq_true p414
         replace q414 := eq_true q414
         go_wp2_with fail
         repeat (go_quiet (fail); try go_wp2_with (first | ((with_reducible refine gate_builtin (b := .append) (xs := #[.tmp 53, .tmp 55]) rfl ?_); at_builtin; refine Kd.R_append (Kd.int .i64) (w0 := w) w.heap.size rfl (.tmp 53) (.tmp 55) 25 2 (.int .i64 0) 8 rfl Try.underlying25 info2 rfl (by decide) (by omega) u7 x7_1 (wrap64 ((ji9) + (Int.tmod (wrap64 (rd l1 (ji12))) (wrap64 ((wrap64 (((rd_T43 t408 x9_1).f1) - (ji9))) + 1))))) [.int .i64 (wrap64 ((ji9) + (Int.tmod (wrap64 (rd l1 (ji12))) (wrap64 ((wrap64 (((rd_T43 t408 x9_1).f1) - (ji9))) + 1)))))] (fun _ => True) (fun _ => False) rfl rfl ?aP (fun _ hk => hk.elim) ?aF ?aO ?aB ?aS ?aL ?_; (case aP => exact rfl); (case aB => exact (by (with_reducible apply pw_below_drewN; with_reducible exact HB.out))); (case aF => exact (fun _ _ => trivial)); (case aO => exact (by ((with_reducible apply Kd.R_drewN)); exact HO_7.out)); (case aS => exact (below_size (by (with_reducible apply pw_below_drewN; with_reducible exact HB.out)))); (case aL => have := LMc16.out; omega); intro v416 w18 ho hb hg hat; rw [← Ny415.out] at ho; have n0_ := Aside0.mk (Kd.R_over' (by ((with_reducible apply Kd.R_drewN)); exact HO_5.out) (Kd.R_typed (by ((with_reducible apply Kd.R_drewN)); exact HO_7.out)) (by decide) hg); have n1_ := Aside0.mk (blk_grown (g := gb407) (o := .cells #[.slice A0_0 l0_0.length c0_0, .int .i64 a0_1] 24 (0, 0)) (by ((with_reducible refine blk_drewN ?_ _)); exact BK407.out) hg (Kd.R_ne HO_7.out BK407.out (by decide))); have n2_ := Aside0.mk (hb); have n3_ := Aside0.mk (ho); clear HO_5; clear BK407; clear HB; clear HO_7; have HO_5 := n0_; have BK407 := n1_; have HB := n2_; have HO417 := n3_; clear n0_ n1_ n2_ n3_; clear ho hb hg hat)))
         go_roundg k1
         case measure => have := HK1.out; omega
         case rel => exact ⟨(y415), (wrap64 ((ji9) + (Int.tmod (wrap64 (rd l1 (ji12))) (wrap64 ((wrap64 (((rd_T43 t408 x9_1).f1) - (ji9))) + 1))))), (wrap64 (x9_1 + 1)), (by first | rfl | (simp; done) | (simp only [← hji9, ← hji12] <;> (first | rfl | simp)) | (simp [*]; done)), qe4, H', ⟨by have := HK1.out; omega⟩, ⟨by (skip); exact HO_5.out⟩, ⟨by (skip); exact HO417.out⟩, ⟨by (skip); exact BK407.out⟩, ⟨by (with_reducible exact HB.out)⟩⟩
        rw [if_neg c16] at H
        exact absurd H (by simp)
       rw [if_neg c14] at H
       exact absurd H (by simp)
      rw [if_neg c13] at H
      exact absurd H (by simp)
     rw [if_neg c10] at H
     have c10b0 : decide (0 < (l1.length : Int)) = false := decide_eq_false c10
     have c10b1 : decide (0 < l1.length) = false := decide_eq_false (by omega)
     clear c10
     by_cases c19 : x7_1.length < 17592186044416
     ·rw [if_pos c19] at H
      have LMc19 := Aside0.mk c19
      clear c19
      obtain ⟨y418, hy418⟩ : ∃ y_ : List Int, y_ = (x7_1 ++ [ji9]) := ⟨_, rfl⟩
      replace H : (forecourtlaw01_True.l0 k1 l1 t408 y418 ji9 (wrap64 (x9_1 + 1))) = some r := by first | (rw [hy418]; with_reducible exact H) | (have H2_ := (Option.bind_some _ _).symm.trans H; rw [hy418]; with_reducible exact H2_) | (have H2_ := (Option.bind_some _ _).symm.trans H; with_reducible exact H2_) | with_reducible exact H | (rw [hy418]; exact H) | exact H
      have Ny418 := Aside0.mk hy418
      clear hy418
      have H' := Aside0.mk H
      clear H
      obtain ⟨Ao20, co20, eo20⟩ := Kd.R_slice HO_5.out
      subst eo20
      have p412 : 0 ≤ (x9_1 : Int) := of_decide_eq_true qe0
      have q412 : x9_1 < (t408.length : Int) := of_decide_eq_true qe0
      obtain ⟨ad412, e412, hx412_0, hx412_1⟩ := at_T43 (Kd.R_reads' HO_5.out).2.2 x9_1 p412 q412
      cases e412
      replace p412 := eq_true p412
      replace q412 := eq_true q412
      go_wp2_with (first | ((with_reducible refine gate_builtin (b := .append) (xs := #[.tmp 53, .tmp 55]) rfl ?_); at_builtin; refine Kd.R_append (Kd.int .i64) (w0 := w) w.heap.size rfl (.tmp 53) (.tmp 55) 25 2 (.int .i64 0) 8 rfl Try.underlying25 info2 rfl (by decide) (by omega) u7 x7_1 ji9 [.int .i64 ji9] (fun _ => True) (fun _ => False) rfl rfl ?aP (fun _ hk => hk.elim) ?aF ?aO ?aB ?aS ?aL ?_; (case aP => exact rfl); (case aB => exact qe3); (case aF => exact (fun _ _ => trivial)); (case aO => exact (by exact HO_7.out)); (case aS => exact (below_size qe3)); (case aL => have := LMc19.out; omega); intro v419 w21 ho hb hg hat; rw [← Ny418.out] at ho; have n0_ := Aside0.mk (Kd.R_over' (by exact HO_5.out) (Kd.R_typed (by exact HO_7.out)) (by decide) hg); have n1_ := Aside0.mk (blk_grown (g := gb407) (o := .cells #[.slice A0_0 l0_0.length c0_0, .int .i64 a0_1] 24 (0, 0)) (by exact BK407.out) hg (Kd.R_ne HO_7.out BK407.out (by decide))); have n2_ := Aside0.mk (hb); have n3_ := Aside0.mk (ho); clear HO_5; clear BK407; clear HB; clear HO_7; have HO_5 := n0_; have BK407 := n1_; have HB := n2_; have HO420 := n3_; clear n0_ n1_ n2_ n3_; clear ho hb hg hat))
      repeat (go_quiet (fail); try go_wp2_with fail)
      go_roundg k1
      case measure => have := HK1.out; omega
      case rel => exact ⟨(y418), (ji9), (wrap64 (x9_1 + 1)), (by first | rfl | (simp; done) | (simp only [← hji9] <;> (first | rfl | simp)) | (simp [*]; done)), qe4, H', ⟨by have := HK1.out; omega⟩, ⟨by (skip); exact HO_5.out⟩, ⟨by (skip); exact HO420.out⟩, ⟨by (skip); exact BK407.out⟩, ⟨by (with_reducible exact HB.out)⟩⟩
     rw [if_neg c19] at H
     exact absurd H (by simp)
    rw [if_neg c8] at H
    exact absurd H (by simp)
   rw [if_neg c7] at H
   have c7b0 : decide (x9_1 < (t408.length : Int)) = false := decide_eq_false c7
   clear c7
   obtain rfl := Option.some.inj H
   obtain ⟨Ao22, co22, eo22⟩ := Kd.R_slice HO_5.out
   subst eo22
   go_wp2
   repeat (go_quiet (fail); try go_wp2)
   go_ret
   exact ⟨_, by first | rfl | (simp [errW_none, errW_some] <;> rfl) | (simp [*, errW_none, errW_some] <;> rfl), by (skip); exact HO_7.out, by (with_reducible exact HB.out)⟩
end Go.Proofs.Ytpkajhmchcbbhaa.P
end
