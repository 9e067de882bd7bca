/- Part 17 of 50. -/
import Derived.Test.YtpkajhmchcbbhaaN0
import Derived.Test.YtpkajhmchcbbhaaN5
import Derived.Test.YtpkajhmchcbbhaaN6
import Derived.Test.YtpkajhmchcbbhaaN11
import Derived.Test.YtpkajhmchcbbhaaN13
import Derived.Test.YtpkajhmchcbbhaaN14
import Derived.Test.YtpkajhmchcbbhaaN15
import Derived.Test.YtpkajhmchcbbhaaN16
set_option linter.unusedSimpArgs false
set_option linter.unusedVariables false
section
namespace Go.Proofs.Ytpkajhmchcbbhaa.P
open Go.RowKit Go.Proofs.YtpkajhmchcbbhaaW.PrintWords Go.Proofs.YtpkajhmchcbbhaaW.PrintLast Go.Proofs.YtpkajhmchcbbhaaW.PrintMore
attribute [local go_sem] max2_int min2_int max_two min_two max_three min_three max_four min_four
mutual
def forecourtref01_Net.l0 : Nat → List (List Int) → Int → Int → Int → List (S70) → Int → Int → Int → Int → Int → Option (Int × Int × Int × Int × Int)
 | 0, _, _, _, _, _, _, _, _, _, _ => none
 | k + 1, x10, x11, x12, x13, x275000, x275001, x283000, x283001, x284000, x284001 => if x13 < (x10.length : Int) then (if 0 ≤ x13 then ((forecourtref01_between.f k x275000 x275001 (rd_L7 x10 x13) x283000 x284001).bind fun bt288 => (forecourtref01_Net.l0 k x10 (mx x11 bt288.1) bt288.2 (wrap64 (x13 + 1)) x275000 x275001 x283000 x283001 x284000 x284001)) else (none)) else ((forecourtref01_Fraction.f k x11 x12).bind fun bt290 => (if x283001 < x284000 then (forecourtref01_Net.l1 k x10 x12 (-1) 0 x275000 x275001 x283000 x283001 x284000 x284001 0 1 bt290.1 bt290.2) else (some (0, 1, bt290.1, bt290.2, 0))))
def forecourtref01_Net.l1 : Nat → List (List Int) → Int → Int → Int → List (S70) → Int → Int → Int → Int → Int → Int → Int → Int → Int → Option (Int × Int × Int × Int × Int)
 | 0, _, _, _, _, _, _, _, _, _, _, _, _, _, _ => none
 | k + 1, x10, x12, x17, x18, x275000, x275001, x283000, x283001, x284000, x284001, x293000, x293001, x293002, x293003 => if x18 < (x10.length : Int) then (if 0 ≤ x18 then ((forecourtref01_between.f k x275000 x275001 (rd_L7 x10 x18) x283001 x284000).bind fun bt294 => (if x17 < 0 then (forecourtref01_Net.l1 k x10 bt294.2 bt294.1 (wrap64 (x18 + 1)) x275000 x275001 x283000 x283001 x284000 x284001 x293000 x293001 x293002 x293003) else (if bt294.1 < x17 then (forecourtref01_Net.l1 k x10 bt294.2 bt294.1 (wrap64 (x18 + 1)) x275000 x275001 x283000 x283001 x284000 x284001 x293000 x293001 x293002 x293003) else (forecourtref01_Net.l1 k x10 x12 x17 (wrap64 (x18 + 1)) x275000 x275001 x283000 x283001 x284000 x284001 x293000 x293001 x293002 x293003)))) else (none)) else ((forecourtref01_Fraction.f k x17 x12).bind fun bt296 => (some (bt296.1, bt296.2, x293002, x293003, 0)))
end
def forecourtref01_Net.f (k : Nat) (l0_0 : List (S70)) (a0_1 : Int) (a1 : Int) (a2 : Int) : Option (Int × Int × Int × Int × Int) := (forecourtref01_NetError.f k l0_0 a0_1 a1 a2).bind fun t276 => (if t276 = 0 then ((forecourtref01_True.f l0_0 a0_1 a1).bind fun bt278 => ((forecourtref01_True.f l0_0 a0_1 a2).bind fun bt280 => ((forecourtref01_extremes.f k l0_0 a0_1).bind fun t284 => (forecourtref01_Net.l0 k t284 0 1 0 l0_0 a0_1 bt278.1 bt278.2 bt280.1 bt280.2)))) else ((forecourtref01_NetError.f k l0_0 a0_1 a1 a2).bind fun t277 => (some (0, 0, 0, 0, t277))))
def forecourtref01_Net.T3 : Bool × List (List Nat × List Nat) := (true, [([], []), ([], []), ([0, 1], [0, 1]), ([], []), ([], []), ([3, 4, 2], [3, 4]), ([], []), ([], []), ([6, 2, 5, 0, 1, 2, 6, 7], [2, 6]), ([7, 5, 8, 0, 1, 2, 3, 4, 5, 6, 7, 8], [5, 7])])
def forecourtref01_Net.B3 : List Nat := [0, 0, 3, 0, 0, 31, 0, 0, 255, 511]
theorem forecourtref01_Net.tab3 : rtab .any (opsOf Try.f31 3) = forecourtref01_Net.T3 := by kernel_rfl
theorem forecourtref01_Net.bits3 : waitsOk forecourtref01_Net.T3.2 forecourtref01_Net.B3 = true := by kernel_rfl
def forecourtref01_Net.T9 : Bool × List (List Nat × List Nat) := (true, [([], []), ([], []), ([], []), ([1, 2], [1, 2]), ([3], [3]), ([], []), ([5], [5]), ([], []), ([7], [7]), ([0, 4, 6, 8], [0, 4, 6, 8]), ([9], [9]), ([10], [10]), ([10], [10]), ([11, 9, 0, 1, 2, 3, 4, 5, 6, 7, 8, 9, 10, 11], [11]), ([12, 13, 0, 1, 2, 3, 4, 5, 6, 7, 8, 9, 10, 11, 12, 13], [12])])
def forecourtref01_Net.B9 : List Nat := [0, 0, 0, 6, 14, 0, 32, 0, 128, 511, 1023, 2047, 2047, 4095, 16383]
theorem forecourtref01_Net.tab9 : rtab .any (opsOf Try.f31 9) = forecourtref01_Net.T9 := by kernel_rfl
theorem forecourtref01_Net.bits9 : waitsOk forecourtref01_Net.T9.2 forecourtref01_Net.B9 = true := by kernel_rfl
def forecourtref01_Net.T17 : Bool × List (List Nat × List Nat) := (true, [([], []), ([], []), ([], []), ([1, 2], [1, 2]), ([3], [3]), ([], []), ([5], [5]), ([], []), ([7], [7]), ([0, 4, 6, 8], [0, 4, 6, 8]), ([9], [9]), ([10], [10]), ([10], [10]), ([11, 9, 0, 1, 2, 3, 4, 5, 6, 7, 8, 9, 10, 11], [11]), ([12, 13, 0, 1, 2, 3, 4, 5, 6, 7, 8, 9, 10, 11, 12, 13], [12])])
def forecourtref01_Net.B17 : List Nat := [0, 0, 0, 6, 14, 0, 32, 0, 128, 511, 1023, 2047, 2047, 4095, 16383]
theorem forecourtref01_Net.tab17 : rtab .any (opsOf Try.f31 17) = forecourtref01_Net.T17 := by kernel_rfl
theorem forecourtref01_Net.bits17 : waitsOk forecourtref01_Net.T17.2 forecourtref01_Net.B17 = true := by kernel_rfl
set_option maxHeartbeats 8000000 in
set_option maxRecDepth 100000 in
theorem forecourtref01_Net.calls (k : Nat) (A0_0 : Option Addr) (c0_0 : Nat) (l0_0 : List (S70)) (a0_1 : Int) (a1 : Int) (a2 : Int) (r1 : Int) (r2 : Int) (r3 : Int) (r4 : Int) (r5 : Int) (w : World) (hr0_0 : Kd.C k70 w A0_0 l0_0.length l0_0) (hc0_0 : l0_0.length ≤ c0_0) (h : forecourtref01_Net.f k l0_0 a0_1 a1 a2 = some (r1, r2, r3, r4, r5)) :
  Calls Try.prog 31 #[.agg #[.slice A0_0 l0_0.length c0_0, .int .i64 a0_1], .int .i64 a1, .int .i64 a2] w fun e w' => e = .returned (.tuple #[.agg #[.int .i64 r1, .int .i64 r2, .int .i64 r3, .int .i64 r4], .int .i64 r5]) ∧ Below w.heap.size w w' := by
 have hu24 := Try.underlying24
 have hu48 := Try.underlying48
 have hu43 := Try.underlying43
 have hu39 := Try.underlying39
 have HR0_0 := Aside0.mk hr0_0
 have HC0_0 := Aside0.mk hc0_0
 clear hr0_0 hc0_0
 have HB := Aside0.mk (Below.refl w.heap.size w)
 have H : ((forecourtref01_NetError.f k l0_0 a0_1 a1 a2).bind fun t276 => (if t276 = 0 then ((forecourtref01_True.f l0_0 a0_1 a1).bind fun bt278 => ((forecourtref01_True.f l0_0 a0_1 a2).bind fun bt280 => ((forecourtref01_extremes.f k l0_0 a0_1).bind fun t284 => (forecourtref01_Net.l0 k t284 0 1 0 l0_0 a0_1 bt278.1 bt278.2 bt280.1 bt280.2)))) else ((forecourtref01_NetError.f k l0_0 a0_1 a1 a2).bind fun t277 => (some (0, 0, 0, 0, t277))))) = some (r1, r2, r3, r4, r5) := h
 clear h
 replace H := Option.bind_eq_some_iff.mp H
 obtain ⟨t276, A40, H⟩ := H
 replace H : (if t276 = 0 then ((forecourtref01_True.f l0_0 a0_1 a1).bind fun bt278 => ((forecourtref01_True.f l0_0 a0_1 a2).bind fun bt280 => ((forecourtref01_extremes.f k l0_0 a0_1).bind fun t284 => (forecourtref01_Net.l0 k t284 0 1 0 l0_0 a0_1 bt278.1 bt278.2 bt280.1 bt280.2)))) else ((forecourtref01_NetError.f k l0_0 a0_1 a1 a2).bind fun t277 => (some (0, 0, 0, 0, t277)))) = some (r1, r2, r3, r4, r5) := H
 have A4 := Aside0.mk A40
 clear A40
 by_cases c5 : t276 = 0
 ·rw [if_pos c5] at H
  have c5b0 : (t276 == 0) = true := beq_iff_eq.mpr c5
  have c5b1 : (t276 != 0) = false := bne_eq_false_iff_eq.mpr c5
  clear c5
  replace H := Option.bind_eq_some_iff.mp H
  obtain ⟨⟨t278, t279⟩, A60, H⟩ := H
  replace H : ((forecourtref01_True.f l0_0 a0_1 a2).bind fun bt280 => ((forecourtref01_extremes.f k l0_0 a0_1).bind fun t284 => (forecourtref01_Net.l0 k t284 0 1 0 l0_0 a0_1 t278 t279 bt280.1 bt280.2))) = some (r1, r2, r3, r4, r5) := H
  have A6 := Aside0.mk A60
  clear A60
  replace H := Option.bind_eq_some_iff.mp H
  obtain ⟨⟨t280, t281⟩, A70, H⟩ := H
  replace H : ((forecourtref01_extremes.f k l0_0 a0_1).bind fun t284 => (forecourtref01_Net.l0 k t284 0 1 0 l0_0 a0_1 t278 t279 t280 t281)) = some (r1, r2, r3, r4, r5) := H
  have A7 := Aside0.mk A70
  clear A70
  replace H := Option.bind_eq_some_iff.mp H
  obtain ⟨t284, A80, H⟩ := H
  replace H : (forecourtref01_Net.l0 k t284 0 1 0 l0_0 a0_1 t278 t279 t280 t281) = some (r1, r2, r3, r4, r5) := H
  have A8 := Aside0.mk A80
  clear A80
  have H' := Aside0.mk H
  clear H
  go_enter Try.func31, Try.ntmps31
  try go_wp2_with (first | ((with_reducible refine gate_dst (N := 3) rfl ?_); refine box_event ?hg (N := 3) ?hd (cs := #[.slice A0_0 l0_0.length c0_0, .int .i64 a0_1]) (t := 24) ?hr ?_; (case hd => rfl); (case hg => rfl); (case hr => first | (go_simp; done) | (go_simp; rfl)); intro gb274 hg w9 hbox hb; have n0_ := Aside0.mk (below_step qn2 hb); have n1_ := Aside0.mk (hbox); have n2_ := Aside0.mk ((by rw [hg]; exact (below_size qn2) : w.heap.size ≤ gb274)); have n3_ := Aside0.mk ((by rw [hg]; exact (below_size qn2) : w.heap.size ≤ gb274)); clear HB; have HB := n0_; have BK274 := n1_; have GW274 := n2_; have GE274 := n3_; clear n0_ n1_ n2_ n3_; clear hb hbox hg) | ((with_reducible refine gate_dst (N := 6) rfl ?_); refine box_event ?hg (N := 6) ?hd (cs := #[.int .i64 0, .int .i64 0, .int .i64 0, .int .i64 0]) (t := 48) ?hr ?_; (case hd => rfl); (case hg => rfl); (case hr => first | (go_simp; done) | (go_simp; rfl)); intro gb275 hg w10 hbox hb; have n0_ := Aside0.mk (blk_below (g := gb274) (o := .cells #[.slice A0_0 l0_0.length c0_0, .int .i64 a0_1] 24 (0, 0)) (by exact BK274.out) hb); have n1_ := Aside0.mk (below_step qn2 hb); have n2_ := Aside0.mk (hbox); have n3_ := Aside0.mk ((by rw [hg]; exact (below_size qn2) : w.heap.size ≤ gb275)); have n4_ := Aside0.mk ((by rw [hg]; exact (below_size qn2) : w.heap.size ≤ gb275)); have n5_ := Aside0.mk ((by rw [hg]; exact Nat.ne_of_lt (blk_lt (g := gb274) (o := .cells #[.slice A0_0 l0_0.length c0_0, .int .i64 a0_1] 24 (0, 0)) (by exact BK274.out)) : gb274 ≠ gb275)); have n6_ := Aside0.mk ((by rw [hg]; exact Nat.ne_of_gt (blk_lt (g := gb274) (o := .cells #[.slice A0_0 l0_0.length c0_0, .int .i64 a0_1] 24 (0, 0)) (by exact BK274.out)) : gb275 ≠ gb274)); clear BK274; clear HB; have BK274 := n0_; have HB := n1_; have BK275 := n2_; have GW275 := n3_; have GE275 := n4_; have NB274_275 := n5_; have NB275_274 := n6_; clear n0_ n1_ n2_ n3_ n4_ n5_ n6_; clear hb hbox hg; have hnb11 := NB274_275.out; have hnc11 := NB275_274.out; have hcz12_0 : w10.cell? ⟨gb274, 0, none⟩ = some (.slice A0_0 l0_0.length c0_0) := (blk_cell BK274.out 0).trans rfl; have hcz12_1 : w10.cell? ⟨gb274, 1, none⟩ = some (.int .i64 a0_1) := (blk_cell BK274.out 1).trans rfl; have hfz12_0 := blk_frozen BK274.out 0; have hfz12_1 := blk_frozen BK274.out 1) | ((with_reducible refine gate_callee (f := 41) rfl ?_); refine goesL_ (some 24) rfl rfl Try.func41 (by kernel_rfl) rfl #[.agg #[.slice A0_0 l0_0.length c0_0, .int .i64 a0_1], .int .i64 a1, .int .i64 a2] rfl qn1 ?_; (with_reducible refine (forecourtref01_NetError.calls k _ _ l0_0 a0_1 a1 a2 t276 _ ?side1 ?side2 A4.out).mono ?_); (case side1 => (exact (Kd.C_below HR0_0.out HB.out))); (case side2 => exact HC0_0.out); rintro e w13 ⟨rfl, hb⟩; refine ⟨_, rfl, ?_⟩; have n0_ := Aside0.mk (blk_below (g := gb274) (o := .cells #[.slice A0_0 l0_0.length c0_0, .int .i64 a0_1] 24 (0, 0)) (by exact BK274.out) hb); have n1_ := Aside0.mk (blk_below (g := gb275) (o := .cells #[.int .i64 0, .int .i64 0, .int .i64 0, .int .i64 0] 48 (0, 0)) (by exact BK275.out) hb); have n2_ := Aside0.mk (below_step qn2 hb); clear BK274; clear BK275; clear HB; have BK274 := n0_; have BK275 := n1_; have HB := n2_; clear n0_ n1_ n2_; (try clear hb); (try clear hb2); (try clear hk); (try clear hi)))
  have n0_ := Aside0.mk (blk_drew BK274.out)
  have n1_ := Aside0.mk (blk_drew BK275.out)
  have n2_ := Aside0.mk (below_drew1 HB.out)
  clear BK274 BK275 HB
  have BK274 := n0_
  have BK275 := n1_
  have HB := n2_
  clear n0_ n1_ n2_
  refine start_ (n := 10) (S := fun w' => w'.cell? ⟨gb274, 0, none⟩ = some (.slice A0_0 l0_0.length c0_0) ∧ w'.cell? ⟨gb274, 1, none⟩ = some (.int .i64 a0_1)) (ds := []) #[false, false, false, false, false, false, false, false, false, false] (by kernel_rfl) rfl rfl ⟨(blk_cell BK274.out 0).trans rfl, (blk_cell BK274.out 1).trans rfl⟩ (fun hHeld => ?_); refine with_tabW forecourtref01_Net.tab3 forecourtref01_Net.bits3 (fun HT_ HW_ => ?_)
  generalize w13.drew = w14 at BK274 BK275 HB hHeld ⊢
  refine pureT (i := 1) (N := some 32) HT_.out ?_
  refine pureT (i := 4) (N := some 35) HT_.out ?_
  refine takeT (i := 0) (N := some 31) HT_.out HW_.out hHeld (hy := by (rintro w' ⟨s0, s1⟩; go_simp; with_reducible rfl)) (h := ?_)
  refine takeT (i := 3) (N := some 34) HT_.out HW_.out hHeld (hy := by (rintro w' ⟨s0, s1⟩; go_simp; with_reducible rfl)) (h := ?_)
  refine join_ (σ := Nat × Nat) 2 #[true, true, true, true, true, true, true, true, false, false] (fun s_ => [(33, .agg #[.int .i64 t278, .int .i64 t279]), (36, .agg #[.int .i64 t280, .int .i64 t281]), (8, .pointer (some ⟨s_.1, 0, none⟩)), (9, .pointer (some ⟨s_.2, 0, none⟩))]) (fun s_ w' => (w'.cell? ⟨gb274, 0, none⟩ = some (.slice A0_0 l0_0.length c0_0) ∧ w'.cell? ⟨gb274, 1, none⟩ = some (.int .i64 a0_1)) ∧ (w'.heap[gb274]? = some (.cells #[.slice A0_0 l0_0.length c0_0, .int .i64 a0_1] 24 (0, 0))) ∧ (w'.heap[gb275]? = some (.cells #[.int .i64 0, .int .i64 0, .int .i64 0, .int .i64 0] 48 (0, 0))) ∧ (w'.heap[s_.1]? = some (.cells #[.int .i64 0, .int .i64 0] 43 (0, 0))) ∧ (w'.heap[s_.2]? = some (.cells #[.int .i64 0, .int .i64 0] 43 (0, 0))) ∧ (w.heap.size ≤ s_.1) ∧ (w.heap.size ≤ s_.1) ∧ (gb274 ≠ s_.1) ∧ (s_.1 ≠ gb274) ∧ (gb275 ≠ s_.1) ∧ (s_.1 ≠ gb275) ∧ (s_.2 ≠ s_.1) ∧ (s_.1 ≠ s_.2) ∧ (w.heap.size ≤ s_.2) ∧ (w.heap.size ≤ s_.2) ∧ (gb274 ≠ s_.2) ∧ (s_.2 ≠ gb274) ∧ (gb275 ≠ s_.2) ∧ (s_.2 ≠ gb275) ∧ (Below w.heap.size w w')) ?_ ?_
  rotate_left
  ·intro hJ2_5_6_7
   refine join_ (σ := Nat) 3 #[true, true, true, true, true, true, true, false, false, false] (fun s_ => [(33, .agg #[.int .i64 t278, .int .i64 t279]), (36, .agg #[.int .i64 t280, .int .i64 t281]), (8, .pointer (some ⟨s_, 0, none⟩))]) (fun s_ w' => (w'.cell? ⟨gb274, 0, none⟩ = some (.slice A0_0 l0_0.length c0_0) ∧ w'.cell? ⟨gb274, 1, none⟩ = some (.int .i64 a0_1)) ∧ (w'.heap[gb274]? = some (.cells #[.slice A0_0 l0_0.length c0_0, .int .i64 a0_1] 24 (0, 0))) ∧ (w'.heap[gb275]? = some (.cells #[.int .i64 0, .int .i64 0, .int .i64 0, .int .i64 0] 48 (0, 0))) ∧ (w'.heap[s_]? = some (.cells #[.int .i64 0, .int .i64 0] 43 (0, 0))) ∧ (w.heap.size ≤ s_) ∧ (w.heap.size ≤ s_) ∧ (gb274 ≠ s_) ∧ (s_ ≠ gb274) ∧ (gb275 ≠ s_) ∧ (s_ ≠ gb275) ∧ (Below w.heap.size w w')) ?_ ?_
   rotate_left
   ·intro hJ2_5_6
    refine join_ (σ := Nat) 3 #[true, true, true, true, true, true, false, true, false, false] (fun s_ => [(33, .agg #[.int .i64 t278, .int .i64 t279]), (36, .agg #[.int .i64 t280, .int .i64 t281]), (9, .pointer (some ⟨s_, 0, none⟩))]) (fun s_ w' => (w'.cell? ⟨gb274, 0, none⟩ = some (.slice A0_0 l0_0.length c0_0) ∧ w'.cell? ⟨gb274, 1, none⟩ = some (.int .i64 a0_1)) ∧ (w'.heap[gb274]? = some (.cells #[.slice A0_0 l0_0.length c0_0, .int .i64 a0_1] 24 (0, 0))) ∧ (w'.heap[gb275]? = some (.cells #[.int .i64 0, .int .i64 0, .int .i64 0, .int .i64 0] 48 (0, 0))) ∧ (w'.heap[s_]? = some (.cells #[.int .i64 0, .int .i64 0] 43 (0, 0))) ∧ (w.heap.size ≤ s_) ∧ (w.heap.size ≤ s_) ∧ (gb274 ≠ s_) ∧ (s_ ≠ gb274) ∧ (gb275 ≠ s_) ∧ (s_ ≠ gb275) ∧ (Below w.heap.size w w')) ?_ ?_
    rotate_left
    ·intro hJ2_5_7
     refine join_ (σ := Nat × Nat) 3 #[true, true, true, true, true, false, true, true, false, false] (fun s_ => [(33, .agg #[.int .i64 t278, .int .i64 t279]), (8, .pointer (some ⟨s_.1, 0, none⟩)), (9, .pointer (some ⟨s_.2, 0, none⟩))]) (fun s_ w' => (w'.cell? ⟨gb274, 0, none⟩ = some (.slice A0_0 l0_0.length c0_0) ∧ w'.cell? ⟨gb274, 1, none⟩ = some (.int .i64 a0_1)) ∧ (w'.heap[gb274]? = some (.cells #[.slice A0_0 l0_0.length c0_0, .int .i64 a0_1] 24 (0, 0))) ∧ (w'.heap[gb275]? = some (.cells #[.int .i64 0, .int .i64 0, .int .i64 0, .int .i64 0] 48 (0, 0))) ∧ (w'.heap[s_.1]? = some (.cells #[.int .i64 0, .int .i64 0] 43 (0, 0))) ∧ (w'.heap[s_.2]? = some (.cells #[.int .i64 0, .int .i64 0] 43 (0, 0))) ∧ (w.heap.size ≤ s_.1) ∧ (w.heap.size ≤ s_.1) ∧ (gb274 ≠ s_.1) ∧ (s_.1 ≠ gb274) ∧ (gb275 ≠ s_.1) ∧ (s_.1 ≠ gb275) ∧ (s_.2 ≠ s_.1) ∧ (s_.1 ≠ s_.2) ∧ (w.heap.size ≤ s_.2) ∧ (w.heap.size ≤ s_.2) ∧ (gb274 ≠ s_.2) ∧ (s_.2 ≠ gb274) ∧ (gb275 ≠ s_.2) ∧ (s_.2 ≠ gb275) ∧ (Below w.heap.size w w')) ?_ ?_
     rotate_left
     ·intro hJ2_6_7
      refine join_ (σ := Unit) 4 #[true, true, true, true, true, true, false, false, false, false] (fun s_ => [(33, .agg #[.int .i64 t278, .int .i64 t279]), (36, .agg #[.int .i64 t280, .int .i64 t281])]) (fun s_ w' => (w'.cell? ⟨gb274, 0, none⟩ = some (.slice A0_0 l0_0.length c0_0) ∧ w'.cell? ⟨gb274, 1, none⟩ = some (.int .i64 a0_1)) ∧ (w'.heap[gb274]? = some (.cells #[.slice A0_0 l0_0.length c0_0, .int .i64 a0_1] 24 (0, 0))) ∧ (w'.heap[gb275]? = some (.cells #[.int .i64 0, .int .i64 0, .int .i64 0, .int .i64 0] 48 (0, 0))) ∧ (Below w.heap.size w w')) ?_ ?_
      rotate_left
      ·intro hJ2_5
       refine join_ (σ := Nat) 4 #[true, true, true, true, true, false, true, false, false, false] (fun s_ => [(33, .agg #[.int .i64 t278, .int .i64 t279]), (8, .pointer (some ⟨s_, 0, none⟩))]) (fun s_ w' => (w'.cell? ⟨gb274, 0, none⟩ = some (.slice A0_0 l0_0.length c0_0) ∧ w'.cell? ⟨gb274, 1, none⟩ = some (.int .i64 a0_1)) ∧ (w'.heap[gb274]? = some (.cells #[.slice A0_0 l0_0.length c0_0, .int .i64 a0_1] 24 (0, 0))) ∧ (w'.heap[gb275]? = some (.cells #[.int .i64 0, .int .i64 0, .int .i64 0, .int .i64 0] 48 (0, 0))) ∧ (w'.heap[s_]? = some (.cells #[.int .i64 0, .int .i64 0] 43 (0, 0))) ∧ (w.heap.size ≤ s_) ∧ (w.heap.size ≤ s_) ∧ (gb274 ≠ s_) ∧ (s_ ≠ gb274) ∧ (gb275 ≠ s_) ∧ (s_ ≠ gb275) ∧ (Below w.heap.size w w')) ?_ ?_
       rotate_left
       ·intro hJ2_6
        refine join_ (σ := Nat) 4 #[true, true, true, true, true, false, false, true, false, false] (fun s_ => [(33, .agg #[.int .i64 t278, .int .i64 t279]), (9, .pointer (some ⟨s_, 0, none⟩))]) (fun s_ w' => (w'.cell? ⟨gb274, 0, none⟩ = some (.slice A0_0 l0_0.length c0_0) ∧ w'.cell? ⟨gb274, 1, none⟩ = some (.int .i64 a0_1)) ∧ (w'.heap[gb274]? = some (.cells #[.slice A0_0 l0_0.length c0_0, .int .i64 a0_1] 24 (0, 0))) ∧ (w'.heap[gb275]? = some (.cells #[.int .i64 0, .int .i64 0, .int .i64 0, .int .i64 0] 48 (0, 0))) ∧ (w'.heap[s_]? = some (.cells #[.int .i64 0, .int .i64 0] 43 (0, 0))) ∧ (w.heap.size ≤ s_) ∧ (w.heap.size ≤ s_) ∧ (gb274 ≠ s_) ∧ (s_ ≠ gb274) ∧ (gb275 ≠ s_) ∧ (s_ ≠ gb275) ∧ (Below w.heap.size w w')) ?_ ?_
        rotate_left
        ·intro hJ2_7
         refine join_ (σ := Nat × Nat) 4 #[true, true, false, true, true, false, true, true, false, false] (fun s_ => [(8, .pointer (some ⟨s_.1, 0, none⟩)), (9, .pointer (some ⟨s_.2, 0, none⟩))]) (fun s_ w' => (w'.cell? ⟨gb274, 0, none⟩ = some (.slice A0_0 l0_0.length c0_0) ∧ w'.cell? ⟨gb274, 1, none⟩ = some (.int .i64 a0_1)) ∧ (w'.heap[gb274]? = some (.cells #[.slice A0_0 l0_0.length c0_0, .int .i64 a0_1] 24 (0, 0))) ∧ (w'.heap[gb275]? = some (.cells #[.int .i64 0, .int .i64 0, .int .i64 0, .int .i64 0] 48 (0, 0))) ∧ (w'.heap[s_.1]? = some (.cells #[.int .i64 0, .int .i64 0] 43 (0, 0))) ∧ (w'.heap[s_.2]? = some (.cells #[.int .i64 0, .int .i64 0] 43 (0, 0))) ∧ (w.heap.size ≤ s_.1) ∧ (w.heap.size ≤ s_.1) ∧ (gb274 ≠ s_.1) ∧ (s_.1 ≠ gb274) ∧ (gb275 ≠ s_.1) ∧ (s_.1 ≠ gb275) ∧ (s_.2 ≠ s_.1) ∧ (s_.1 ≠ s_.2) ∧ (w.heap.size ≤ s_.2) ∧ (w.heap.size ≤ s_.2) ∧ (gb274 ≠ s_.2) ∧ (s_.2 ≠ gb274) ∧ (gb275 ≠ s_.2) ∧ (s_.2 ≠ gb275) ∧ (Below w.heap.size w w')) ?_ ?_
         rotate_left
         ·intro hJ6_7
          refine join_ (σ := Unit) 5 #[true, true, true, true, true, false, false, false, false, false] (fun s_ => [(33, .agg #[.int .i64 t278, .int .i64 t279])]) (fun s_ w' => (w'.cell? ⟨gb274, 0, none⟩ = some (.slice A0_0 l0_0.length c0_0) ∧ w'.cell? ⟨gb274, 1, none⟩ = some (.int .i64 a0_1)) ∧ (w'.heap[gb274]? = some (.cells #[.slice A0_0 l0_0.length c0_0, .int .i64 a0_1] 24 (0, 0))) ∧ (w'.heap[gb275]? = some (.cells #[.int .i64 0, .int .i64 0, .int .i64 0, .int .i64 0] 48 (0, 0))) ∧ (Below w.heap.size w w')) ?_ ?_
          rotate_left
          ·intro hJ2
           refine join_ (σ := Nat) 5 #[true, true, false, true, true, false, true, false, false, false] (fun s_ => [(8, .pointer (some ⟨s_, 0, none⟩))]) (fun s_ w' => (w'.cell? ⟨gb274, 0, none⟩ = some (.slice A0_0 l0_0.length c0_0) ∧ w'.cell? ⟨gb274, 1, none⟩ = some (.int .i64 a0_1)) ∧ (w'.heap[gb274]? = some (.cells #[.slice A0_0 l0_0.length c0_0, .int .i64 a0_1] 24 (0, 0))) ∧ (w'.heap[gb275]? = some (.cells #[.int .i64 0, .int .i64 0, .int .i64 0, .int .i64 0] 48 (0, 0))) ∧ (w'.heap[s_]? = some (.cells #[.int .i64 0, .int .i64 0] 43 (0, 0))) ∧ (w.heap.size ≤ s_) ∧ (w.heap.size ≤ s_) ∧ (gb274 ≠ s_) ∧ (s_ ≠ gb274) ∧ (gb275 ≠ s_) ∧ (s_ ≠ gb275) ∧ (Below w.heap.size w w')) ?_ ?_
           rotate_left
           ·intro hJ6
            refine join_ (σ := Nat) 5 #[true, true, false, true, true, false, false, true, false, false] (fun s_ => [(9, .pointer (some ⟨s_, 0, none⟩))]) (fun s_ w' => (w'.cell? ⟨gb274, 0, none⟩ = some (.slice A0_0 l0_0.length c0_0) ∧ w'.cell? ⟨gb274, 1, none⟩ = some (.int .i64 a0_1)) ∧ (w'.heap[gb274]? = some (.cells #[.slice A0_0 l0_0.length c0_0, .int .i64 a0_1] 24 (0, 0))) ∧ (w'.heap[gb275]? = some (.cells #[.int .i64 0, .int .i64 0, .int .i64 0, .int .i64 0] 48 (0, 0))) ∧ (w'.heap[s_]? = some (.cells #[.int .i64 0, .int .i64 0] 43 (0, 0))) ∧ (w.heap.size ≤ s_) ∧ (w.heap.size ≤ s_) ∧ (gb274 ≠ s_) ∧ (s_ ≠ gb274) ∧ (gb275 ≠ s_) ∧ (s_ ≠ gb275) ∧ (Below w.heap.size w w')) ?_ ?_
            rotate_left
            ·intro hJ7
             refine three_ (i := 2) (j := 6) (k := 7) (Ni := some 33) (Nj := some 8) (Nk := some 9) #[true, true, true, true, true, false, false, false, false, false] #[true, true, false, true, true, false, true, false, false, false] #[true, true, false, true, true, false, false, true, false, false] rfl rfl rfl rfl rfl rfl (three_of HT_.out (by kernel_rfl)) (by decide) (by decide) (by decide) (fun K hK => ?_) (fun K hK => ?_) (fun K hK => ?_)
             ·skip
              refine goes_ Try.func42 (by kernel_rfl) rfl #[.agg #[.slice A0_0 l0_0.length c0_0, .int .i64 a0_1], .int .i64 a1] (by rfl) rfl rfl qn1 ?_
              with_reducible refine (forecourtref01_True.calls _ _ l0_0 a0_1 a1 t278 t279 _ ?side1 ?side2 A6.out).mono ?_
              (case side1 => (exact (Kd.C_below HR0_0.out HB.out)))
              (case side2 => exact HC0_0.out)
              rintro e w15 ⟨rfl, hb⟩
              refine ⟨_, rfl, ?_⟩
              have n0_ := Aside0.mk (blk_below (g := gb274) (o := .cells #[.slice A0_0 l0_0.length c0_0, .int .i64 a0_1] 24 (0, 0)) (by exact BK274.out) hb)
              have n1_ := Aside0.mk (blk_below (g := gb275) (o := .cells #[.int .i64 0, .int .i64 0, .int .i64 0, .int .i64 0] 48 (0, 0)) (by exact BK275.out) hb)
              have n2_ := Aside0.mk (below_step qn2 hb)
              clear BK274 BK275 HB
              have BK274 := n0_
              have BK275 := n1_
              have HB := n2_
              clear n0_ n1_ n2_
              (try clear hb)
              refine hK.out _ _ ⟨(blk_cell BK274.out 0).trans rfl, (blk_cell BK274.out 1).trans rfl⟩ (fun hHeld => ?_)
              clear hK K
              refine norm_ (a' := ?_) ?_ ?_
              rotate_left
              ·show Act.put _ (some 33) _ = _
               simp only [Act.put, List.setIfInBounds_toArray, List.set_cons_zero, List.set_cons_succ, i64_w, i32_w]
               rfl
              exact norm_ qn4 (hJ2 () _ ⟨hHeld, (by exact BK274.out), (by exact BK275.out), qn2⟩)
             ·skip
              refine box_step ?hg (N := 8) ?hd (cs := #[.int .i64 0, .int .i64 0]) (t := 43) ?hr ?_; (case hd => rfl); (case hg => rfl); (case hr => first | (go_simp; done) | (go_simp; rfl))
              intro gb282 hg w15 hbox hb
              have n0_ := Aside0.mk (blk_below (g := gb274) (o := .cells #[.slice A0_0 l0_0.length c0_0, .int .i64 a0_1] 24 (0, 0)) (by exact BK274.out) hb)
              have n1_ := Aside0.mk (blk_below (g := gb275) (o := .cells #[.int .i64 0, .int .i64 0, .int .i64 0, .int .i64 0] 48 (0, 0)) (by exact BK275.out) hb)
              have n2_ := Aside0.mk (below_step qn2 hb)
              have n3_ := Aside0.mk (hbox)
              have n4_ := Aside0.mk ((by rw [hg]; exact (below_size qn2) : w.heap.size ≤ gb282))
              have n5_ := Aside0.mk ((by rw [hg]; exact (below_size qn2) : w.heap.size ≤ gb282))
              have n6_ := Aside0.mk ((by rw [hg]; exact Nat.ne_of_lt (blk_lt (g := gb274) (o := .cells #[.slice A0_0 l0_0.length c0_0, .int .i64 a0_1] 24 (0, 0)) (by exact BK274.out)) : gb274 ≠ gb282))
              have n7_ := Aside0.mk ((by rw [hg]; exact Nat.ne_of_gt (blk_lt (g := gb274) (o := .cells #[.slice A0_0 l0_0.length c0_0, .int .i64 a0_1] 24 (0, 0)) (by exact BK274.out)) : gb282 ≠ gb274))
              have n8_ := Aside0.mk ((by rw [hg]; exact Nat.ne_of_lt (blk_lt (g := gb275) (o := .cells #[.int .i64 0, .int .i64 0, .int .i64 0, .int .i64 0] 48 (0, 0)) (by exact BK275.out)) : gb275 ≠ gb282))
              have n9_ := Aside0.mk ((by rw [hg]; exact Nat.ne_of_gt (blk_lt (g := gb275) (o := .cells #[.int .i64 0, .int .i64 0, .int .i64 0, .int .i64 0] 48 (0, 0)) (by exact BK275.out)) : gb282 ≠ gb275))
              clear BK274 BK275 HB
              have BK274 := n0_
              have BK275 := n1_
              have HB := n2_
              have BK282 := n3_
              have GW282 := n4_
              have GE282 := n5_
              have NB274_282 := n6_
              have NB282_274 := n7_
              have NB275_282 := n8_
              have NB282_275 := n9_
              clear n0_ n1_ n2_ n3_ n4_ n5_ n6_ n7_ n8_ n9_ hb hbox hg
              refine hK.out _ _ ⟨(blk_cell BK274.out 0).trans rfl, (blk_cell BK274.out 1).trans rfl⟩ (fun hHeld => ?_)
              clear hK K
              refine norm_ (a' := ?_) ?_ ?_
              rotate_left
              ·show Act.put _ (some 8) _ = _
               simp only [Act.put, List.setIfInBounds_toArray, List.set_cons_zero, List.set_cons_succ, i64_w, i32_w]
               rfl
              exact norm_ qn4 (hJ6 (gb282) _ ⟨hHeld, (by exact BK274.out), (by exact BK275.out), (by exact BK282.out), GW282.out, GE282.out, NB274_282.out, NB282_274.out, NB275_282.out, NB282_275.out, qn2⟩)
             skip
             refine box_step ?hg (N := 9) ?hd (cs := #[.int .i64 0, .int .i64 0]) (t := 43) ?hr ?_; (case hd => rfl); (case hg => rfl); (case hr => first | (go_simp; done) | (go_simp; rfl))
             intro gb283 hg w15 hbox hb
             have n0_ := Aside0.mk (blk_below (g := gb274) (o := .cells #[.slice A0_0 l0_0.length c0_0, .int .i64 a0_1] 24 (0, 0)) (by exact BK274.out) hb)
             have n1_ := Aside0.mk (blk_below (g := gb275) (o := .cells #[.int .i64 0, .int .i64 0, .int .i64 0, .int .i64 0] 48 (0, 0)) (by exact BK275.out) hb)
             have n2_ := Aside0.mk (below_step qn2 hb)
             have n3_ := Aside0.mk (hbox)
             have n4_ := Aside0.mk ((by rw [hg]; exact (below_size qn2) : w.heap.size ≤ gb283))
             have n5_ := Aside0.mk ((by rw [hg]; exact (below_size qn2) : w.heap.size ≤ gb283))
             have n6_ := Aside0.mk ((by rw [hg]; exact Nat.ne_of_lt (blk_lt (g := gb274) (o := .cells #[.slice A0_0 l0_0.length c0_0, .int .i64 a0_1] 24 (0, 0)) (by exact BK274.out)) : gb274 ≠ gb283))
             have n7_ := Aside0.mk ((by rw [hg]; exact Nat.ne_of_gt (blk_lt (g := gb274) (o := .cells #[.slice A0_0 l0_0.length c0_0, .int .i64 a0_1] 24 (0, 0)) (by exact BK274.out)) : gb283 ≠ gb274))
             have n8_ := Aside0.mk ((by rw [hg]; exact Nat.ne_of_lt (blk_lt (g := gb275) (o := .cells #[.int .i64 0, .int .i64 0, .int .i64 0, .int .i64 0] 48 (0, 0)) (by exact BK275.out)) : gb275 ≠ gb283))
             have n9_ := Aside0.mk ((by rw [hg]; exact Nat.ne_of_gt (blk_lt (g := gb275) (o := .cells #[.int .i64 0, .int .i64 0, .int .i64 0, .int .i64 0] 48 (0, 0)) (by exact BK275.out)) : gb283 ≠ gb275))
             clear BK274 BK275 HB
             have BK274 := n0_
             have BK275 := n1_
             have HB := n2_
             have BK283 := n3_
             have GW283 := n4_
             have GE283 := n5_
             have NB274_283 := n6_
             have NB283_274 := n7_
             have NB275_283 := n8_
             have NB283_275 := n9_
             clear n0_ n1_ n2_ n3_ n4_ n5_ n6_ n7_ n8_ n9_ hb hbox hg
             refine hK.out _ _ ⟨(blk_cell BK274.out 0).trans rfl, (blk_cell BK274.out 1).trans rfl⟩ (fun hHeld => ?_)
             clear hK K
             refine norm_ (a' := ?_) ?_ ?_
             rotate_left
             ·show Act.put _ (some 9) _ = _
              simp only [Act.put, List.setIfInBounds_toArray, List.set_cons_zero, List.set_cons_succ, i64_w, i32_w]
              rfl
             exact norm_ qn4 (hJ7 (gb283) _ ⟨hHeld, (by exact BK274.out), (by exact BK275.out), (by exact BK283.out), GW283.out, GE283.out, NB274_283.out, NB283_274.out, NB275_283.out, NB283_275.out, qn2⟩)
            skip
            rintro gb283 w16 ⟨hS_, h0_, h1_, h2_, h3_, h4_, h5_, h6_, h7_, h8_, h9_⟩
            have n0_ : Aside0 (w16.heap[gb274]? = some (.cells #[.slice A0_0 l0_0.length c0_0, .int .i64 a0_1] 24 (0, 0))) := ⟨h0_⟩
            have n1_ : Aside0 (w16.heap[gb275]? = some (.cells #[.int .i64 0, .int .i64 0, .int .i64 0, .int .i64 0] 48 (0, 0))) := ⟨h1_⟩
            have n2_ : Aside0 (w16.heap[gb283]? = some (.cells #[.int .i64 0, .int .i64 0] 43 (0, 0))) := ⟨h2_⟩
            have n3_ : Aside0 (w.heap.size ≤ gb283) := ⟨h3_⟩
            have n4_ : Aside0 (w.heap.size ≤ gb283) := ⟨h4_⟩
            have n5_ : Aside0 (gb274 ≠ gb283) := ⟨h5_⟩
            have n6_ : Aside0 (gb283 ≠ gb274) := ⟨h6_⟩
            have n7_ : Aside0 (gb275 ≠ gb283) := ⟨h7_⟩
            have n8_ : Aside0 (gb283 ≠ gb275) := ⟨h8_⟩
            have n9_ : Aside0 (Below w.heap.size w w16) := ⟨h9_⟩
            clear BK274 BK275 HB h0_ h1_ h2_ h3_ h4_ h5_ h6_ h7_ h8_ h9_
            have BK274 := n0_
            have BK275 := n1_
            have BK283 := n2_
            have GW283 := n3_
            have GE283 := n4_
            have NB274_283 := n5_
            have NB283_274 := n6_
            have NB275_283 := n7_
            have NB283_275 := n8_
            have HB := n9_
            clear n0_ n1_ n2_ n3_ n4_ n5_ n6_ n7_ n8_ n9_
            have hHeld : w16.cell? ⟨gb274, 0, none⟩ = some (.slice A0_0 l0_0.length c0_0) ∧ w16.cell? ⟨gb274, 1, none⟩ = some (.int .i64 a0_1) := hS_
            refine norm_ (a' := ?_) ?_ ?_
            rotate_left
            ·simp only [putAll, Act.put, List.setIfInBounds_toArray, List.set_cons_zero, List.set_cons_succ]
             rfl
            refine two_ (i := 2) (j := 6) (Ni := some 33) (Nj := some 8) #[true, true, true, true, true, false, false, true, false, false] #[true, true, false, true, true, false, true, true, false, false] rfl rfl rfl rfl (two_of HT_.out (by kernel_rfl)) (by decide) (by decide) (fun K hK => ?_) (fun K hK => ?_)
            ·skip
             refine goes_ Try.func42 (by kernel_rfl) rfl #[.agg #[.slice A0_0 l0_0.length c0_0, .int .i64 a0_1], .int .i64 a1] (by rfl) rfl rfl qn1 ?_
             with_reducible refine (forecourtref01_True.calls _ _ l0_0 a0_1 a1 t278 t279 _ ?side1 ?side2 A6.out).mono ?_
             (case side1 => (exact (Kd.C_below HR0_0.out HB.out)))
             (case side2 => exact HC0_0.out)
             rintro e w17 ⟨rfl, hb⟩
             refine ⟨_, rfl, ?_⟩
             have n0_ := Aside0.mk (blk_below (g := gb274) (o := .cells #[.slice A0_0 l0_0.length c0_0, .int .i64 a0_1] 24 (0, 0)) (by exact BK274.out) hb)
             have n1_ := Aside0.mk (blk_below (g := gb275) (o := .cells #[.int .i64 0, .int .i64 0, .int .i64 0, .int .i64 0] 48 (0, 0)) (by exact BK275.out) hb)
             have n2_ := Aside0.mk (blk_below (g := gb283) (o := .cells #[.int .i64 0, .int .i64 0] 43 (0, 0)) (by exact BK283.out) hb)
             have n3_ := Aside0.mk (below_step qn2 hb)
             clear BK274 BK275 BK283 HB
             have BK274 := n0_
             have BK275 := n1_
             have BK283 := n2_
             have HB := n3_
             clear n0_ n1_ n2_ n3_
             (try clear hb)
             refine hK.out _ _ ⟨(blk_cell BK274.out 0).trans rfl, (blk_cell BK274.out 1).trans rfl⟩ (fun hHeld => ?_)
             clear hK K
             refine norm_ (a' := ?_) ?_ ?_
             rotate_left
             ·show Act.put _ (some 33) _ = _
              simp only [Act.put, List.setIfInBounds_toArray, List.set_cons_zero, List.set_cons_succ, i64_w, i32_w]
              rfl
             exact norm_ qn4 (hJ2_7 (gb283) _ ⟨hHeld, (by exact BK274.out), (by exact BK275.out), (by exact BK283.out), GW283.out, GE283.out, NB274_283.out, NB283_274.out, NB275_283.out, NB283_275.out, qn2⟩)
            skip
            refine box_step ?hg (N := 8) ?hd (cs := #[.int .i64 0, .int .i64 0]) (t := 43) ?hr ?_; (case hd => rfl); (case hg => rfl); (case hr => first | (go_simp; done) | (go_simp; rfl))
            intro gb282 hg w17 hbox hb
            have n0_ := Aside0.mk (blk_below (g := gb274) (o := .cells #[.slice A0_0 l0_0.length c0_0, .int .i64 a0_1] 24 (0, 0)) (by exact BK274.out) hb)
            have n1_ := Aside0.mk (blk_below (g := gb275) (o := .cells #[.int .i64 0, .int .i64 0, .int .i64 0, .int .i64 0] 48 (0, 0)) (by exact BK275.out) hb)
            have n2_ := Aside0.mk (blk_below (g := gb283) (o := .cells #[.int .i64 0, .int .i64 0] 43 (0, 0)) (by exact BK283.out) hb)
            have n3_ := Aside0.mk (below_step qn2 hb)
            have n4_ := Aside0.mk (hbox)
            have n5_ := Aside0.mk ((by rw [hg]; exact (below_size qn2) : w.heap.size ≤ gb282))
            have n6_ := Aside0.mk ((by rw [hg]; exact (below_size qn2) : w.heap.size ≤ gb282))
            have n7_ := Aside0.mk ((by rw [hg]; exact Nat.ne_of_lt (blk_lt (g := gb274) (o := .cells #[.slice A0_0 l0_0.length c0_0, .int .i64 a0_1] 24 (0, 0)) (by exact BK274.out)) : gb274 ≠ gb282))
            have n8_ := Aside0.mk ((by rw [hg]; exact Nat.ne_of_gt (blk_lt (g := gb274) (o := .cells #[.slice A0_0 l0_0.length c0_0, .int .i64 a0_1] 24 (0, 0)) (by exact BK274.out)) : gb282 ≠ gb274))
            have n9_ := Aside0.mk ((by rw [hg]; exact Nat.ne_of_lt (blk_lt (g := gb275) (o := .cells #[.int .i64 0, .int .i64 0, .int .i64 0, .int .i64 0] 48 (0, 0)) (by exact BK275.out)) : gb275 ≠ gb282))
            have n10_ := Aside0.mk ((by rw [hg]; exact Nat.ne_of_gt (blk_lt (g := gb275) (o := .cells #[.int .i64 0, .int .i64 0, .int .i64 0, .int .i64 0] 48 (0, 0)) (by exact BK275.out)) : gb282 ≠ gb275))
            have n11_ := Aside0.mk ((by rw [hg]; exact Nat.ne_of_lt (blk_lt (g := gb283) (o := .cells #[.int .i64 0, .int .i64 0] 43 (0, 0)) (by exact BK283.out)) : gb283 ≠ gb282))
            have n12_ := Aside0.mk ((by rw [hg]; exact Nat.ne_of_gt (blk_lt (g := gb283) (o := .cells #[.int .i64 0, .int .i64 0] 43 (0, 0)) (by exact BK283.out)) : gb282 ≠ gb283))
            clear BK274 BK275 BK283 HB
            have BK274 := n0_
            have BK275 := n1_
            have BK283 := n2_
            have HB := n3_
            have BK282 := n4_
            have GW282 := n5_
            have GE282 := n6_
            have NB274_282 := n7_
            have NB282_274 := n8_
            have NB275_282 := n9_
            have NB282_275 := n10_
            have NB283_282 := n11_
            have NB282_283 := n12_
            clear n0_ n1_ n2_ n3_ n4_ n5_ n6_ n7_ n8_ n9_ n10_ n11_ n12_ hb hbox hg
            refine hK.out _ _ ⟨(blk_cell BK274.out 0).trans rfl, (blk_cell BK274.out 1).trans rfl⟩ (fun hHeld => ?_)
            clear hK K
            refine norm_ (a' := ?_) ?_ ?_
            rotate_left
            ·show Act.put _ (some 8) _ = _
             simp only [Act.put, List.setIfInBounds_toArray, List.set_cons_zero, List.set_cons_succ, i64_w, i32_w]
             rfl
            exact norm_ qn4 (hJ6_7 (gb282, gb283) _ ⟨hHeld, (by exact BK274.out), (by exact BK275.out), (by exact BK282.out), (by exact BK283.out), GW282.out, GE282.out, NB274_282.out, NB282_274.out, NB275_282.out, NB282_275.out, NB283_282.out, NB282_283.out, GW283.out, GE283.out, NB274_283.out, NB283_274.out, NB275_283.out, NB283_275.out, qn2⟩)
           skip
           rintro gb282 w16 ⟨hS_, h0_, h1_, h2_, h3_, h4_, h5_, h6_, h7_, h8_, h9_⟩
           have n0_ : Aside0 (w16.heap[gb274]? = some (.cells #[.slice A0_0 l0_0.length c0_0, .int .i64 a0_1] 24 (0, 0))) := ⟨h0_⟩
           have n1_ : Aside0 (w16.heap[gb275]? = some (.cells #[.int .i64 0, .int .i64 0, .int .i64 0, .int .i64 0] 48 (0, 0))) := ⟨h1_⟩
           have n2_ : Aside0 (w16.heap[gb282]? = some (.cells #[.int .i64 0, .int .i64 0] 43 (0, 0))) := ⟨h2_⟩
           have n3_ : Aside0 (w.heap.size ≤ gb282) := ⟨h3_⟩
           have n4_ : Aside0 (w.heap.size ≤ gb282) := ⟨h4_⟩
           have n5_ : Aside0 (gb274 ≠ gb282) := ⟨h5_⟩
           have n6_ : Aside0 (gb282 ≠ gb274) := ⟨h6_⟩
           have n7_ : Aside0 (gb275 ≠ gb282) := ⟨h7_⟩
           have n8_ : Aside0 (gb282 ≠ gb275) := ⟨h8_⟩
           have n9_ : Aside0 (Below w.heap.size w w16) := ⟨h9_⟩
           clear BK274 BK275 HB h0_ h1_ h2_ h3_ h4_ h5_ h6_ h7_ h8_ h9_
           have BK274 := n0_
           have BK275 := n1_
           have BK282 := n2_
           have GW282 := n3_
           have GE282 := n4_
           have NB274_282 := n5_
           have NB282_274 := n6_
           have NB275_282 := n7_
           have NB282_275 := n8_
           have HB := n9_
           clear n0_ n1_ n2_ n3_ n4_ n5_ n6_ n7_ n8_ n9_
           have hHeld : w16.cell? ⟨gb274, 0, none⟩ = some (.slice A0_0 l0_0.length c0_0) ∧ w16.cell? ⟨gb274, 1, none⟩ = some (.int .i64 a0_1) := hS_
           refine norm_ (a' := ?_) ?_ ?_
           rotate_left
           ·simp only [putAll, Act.put, List.setIfInBounds_toArray, List.set_cons_zero, List.set_cons_succ]
            rfl
           refine two_ (i := 2) (j := 7) (Ni := some 33) (Nj := some 9) #[true, true, true, true, true, false, true, false, false, false] #[true, true, false, true, true, false, true, true, false, false] rfl rfl rfl rfl (two_of HT_.out (by kernel_rfl)) (by decide) (by decide) (fun K hK => ?_) (fun K hK => ?_)
           ·skip
            refine goes_ Try.func42 (by kernel_rfl) rfl #[.agg #[.slice A0_0 l0_0.length c0_0, .int .i64 a0_1], .int .i64 a1] (by rfl) rfl rfl qn1 ?_
            with_reducible refine (forecourtref01_True.calls _ _ l0_0 a0_1 a1 t278 t279 _ ?side1 ?side2 A6.out).mono ?_
            (case side1 => (exact (Kd.C_below HR0_0.out HB.out)))
            (case side2 => exact HC0_0.out)
            rintro e w17 ⟨rfl, hb⟩
            refine ⟨_, rfl, ?_⟩
            have n0_ := Aside0.mk (blk_below (g := gb274) (o := .cells #[.slice A0_0 l0_0.length c0_0, .int .i64 a0_1] 24 (0, 0)) (by exact BK274.out) hb)
            have n1_ := Aside0.mk (blk_below (g := gb275) (o := .cells #[.int .i64 0, .int .i64 0, .int .i64 0, .int .i64 0] 48 (0, 0)) (by exact BK275.out) hb)
            have n2_ := Aside0.mk (blk_below (g := gb282) (o := .cells #[.int .i64 0, .int .i64 0] 43 (0, 0)) (by exact BK282.out) hb)
            have n3_ := Aside0.mk (below_step qn2 hb)
            clear BK274 BK275 BK282 HB
            have BK274 := n0_
            have BK275 := n1_
            have BK282 := n2_
            have HB := n3_
            clear n0_ n1_ n2_ n3_
            (try clear hb)
            refine hK.out _ _ ⟨(blk_cell BK274.out 0).trans rfl, (blk_cell BK274.out 1).trans rfl⟩ (fun hHeld => ?_)
            clear hK K
            refine norm_ (a' := ?_) ?_ ?_
            rotate_left
            ·show Act.put _ (some 33) _ = _
             simp only [Act.put, List.setIfInBounds_toArray, List.set_cons_zero, List.set_cons_succ, i64_w, i32_w]
             rfl
            exact norm_ qn4 (hJ2_6 (gb282) _ ⟨hHeld, (by exact BK274.out), (by exact BK275.out), (by exact BK282.out), GW282.out, GE282.out, NB274_282.out, NB282_274.out, NB275_282.out, NB282_275.out, qn2⟩)
           skip
           refine box_step ?hg (N := 9) ?hd (cs := #[.int .i64 0, .int .i64 0]) (t := 43) ?hr ?_; (case hd => rfl); (case hg => rfl); (case hr => first | (go_simp; done) | (go_simp; rfl))
           intro gb283 hg w17 hbox hb
           have n0_ := Aside0.mk (blk_below (g := gb274) (o := .cells #[.slice A0_0 l0_0.length c0_0, .int .i64 a0_1] 24 (0, 0)) (by exact BK274.out) hb)
           have n1_ := Aside0.mk (blk_below (g := gb275) (o := .cells #[.int .i64 0, .int .i64 0, .int .i64 0, .int .i64 0] 48 (0, 0)) (by exact BK275.out) hb)
           have n2_ := Aside0.mk (blk_below (g := gb282) (o := .cells #[.int .i64 0, .int .i64 0] 43 (0, 0)) (by exact BK282.out) hb)
           have n3_ := Aside0.mk (below_step qn2 hb)
           have n4_ := Aside0.mk (hbox)
           have n5_ := Aside0.mk ((by rw [hg]; exact (below_size qn2) : w.heap.size ≤ gb283))
           have n6_ := Aside0.mk ((by rw [hg]; exact (below_size qn2) : w.heap.size ≤ gb283))
           have n7_ := Aside0.mk ((by rw [hg]; exact Nat.ne_of_lt (blk_lt (g := gb274) (o := .cells #[.slice A0_0 l0_0.length c0_0, .int .i64 a0_1] 24 (0, 0)) (by exact BK274.out)) : gb274 ≠ gb283))
           have n8_ := Aside0.mk ((by rw [hg]; exact Nat.ne_of_gt (blk_lt (g := gb274) (o := .cells #[.slice A0_0 l0_0.length c0_0, .int .i64 a0_1] 24 (0, 0)) (by exact BK274.out)) : gb283 ≠ gb274))
           have n9_ := Aside0.mk ((by rw [hg]; exact Nat.ne_of_lt (blk_lt (g := gb275) (o := .cells #[.int .i64 0, .int .i64 0, .int .i64 0, .int .i64 0] 48 (0, 0)) (by exact BK275.out)) : gb275 ≠ gb283))
           have n10_ := Aside0.mk ((by rw [hg]; exact Nat.ne_of_gt (blk_lt (g := gb275) (o := .cells #[.int .i64 0, .int .i64 0, .int .i64 0, .int .i64 0] 48 (0, 0)) (by exact BK275.out)) : gb283 ≠ gb275))
           have n11_ := Aside0.mk ((by rw [hg]; exact Nat.ne_of_lt (blk_lt (g := gb282) (o := .cells #[.int .i64 0, .int .i64 0] 43 (0, 0)) (by exact BK282.out)) : gb282 ≠ gb283))
           have n12_ := Aside0.mk ((by rw [hg]; exact Nat.ne_of_gt (blk_lt (g := gb282) (o := .cells #[.int .i64 0, .int .i64 0] 43 (0, 0)) (by exact BK282.out)) : gb283 ≠ gb282))
           clear BK274 BK275 BK282 HB
           have BK274 := n0_
           have BK275 := n1_
           have BK282 := n2_
           have HB := n3_
           have BK283 := n4_
           have GW283 := n5_
           have GE283 := n6_
           have NB274_283 := n7_
           have NB283_274 := n8_
           have NB275_283 := n9_
           have NB283_275 := n10_
           have NB282_283 := n11_
           have NB283_282 := n12_
           clear n0_ n1_ n2_ n3_ n4_ n5_ n6_ n7_ n8_ n9_ n10_ n11_ n12_ hb hbox hg
           refine hK.out _ _ ⟨(blk_cell BK274.out 0).trans rfl, (blk_cell BK274.out 1).trans rfl⟩ (fun hHeld => ?_)
           clear hK K
           refine norm_ (a' := ?_) ?_ ?_
           rotate_left
           ·show Act.put _ (some 9) _ = _
            simp only [Act.put, List.setIfInBounds_toArray, List.set_cons_zero, List.set_cons_succ, i64_w, i32_w]
            rfl
           exact norm_ qn4 (hJ6_7 (gb282, gb283) _ ⟨hHeld, (by exact BK274.out), (by exact BK275.out), (by exact BK282.out), (by exact BK283.out), GW282.out, GE282.out, NB274_282.out, NB282_274.out, NB275_282.out, NB282_275.out, NB283_282.out, NB282_283.out, GW283.out, GE283.out, NB274_283.out, NB283_274.out, NB275_283.out, NB283_275.out, qn2⟩)
          skip
          rintro _ w16 ⟨hS_, h0_, h1_, h2_⟩
          have n0_ : Aside0 (w16.heap[gb274]? = some (.cells #[.slice A0_0 l0_0.length c0_0, .int .i64 a0_1] 24 (0, 0))) := ⟨h0_⟩
          have n1_ : Aside0 (w16.heap[gb275]? = some (.cells #[.int .i64 0, .int .i64 0, .int .i64 0, .int .i64 0] 48 (0, 0))) := ⟨h1_⟩
          have n2_ : Aside0 (Below w.heap.size w w16) := ⟨h2_⟩
          clear BK274 BK275 HB h0_ h1_ h2_
          have BK274 := n0_
          have BK275 := n1_
          have HB := n2_
          clear n0_ n1_ n2_
          have hHeld : w16.cell? ⟨gb274, 0, none⟩ = some (.slice A0_0 l0_0.length c0_0) ∧ w16.cell? ⟨gb274, 1, none⟩ = some (.int .i64 a0_1) := hS_
          refine norm_ (a' := ?_) ?_ ?_
          rotate_left
          ·simp only [putAll, Act.put, List.setIfInBounds_toArray, List.set_cons_zero, List.set_cons_succ]
           rfl
          refine three_ (i := 5) (j := 6) (k := 7) (Ni := some 36) (Nj := some 8) (Nk := some 9) #[true, true, true, true, true, true, false, false, false, false] #[true, true, true, true, true, false, true, false, false, false] #[true, true, true, true, true, false, false, true, false, false] rfl rfl rfl rfl rfl rfl (three_of HT_.out (by kernel_rfl)) (by decide) (by decide) (by decide) (fun K hK => ?_) (fun K hK => ?_) (fun K hK => ?_)
          ·skip
           refine goes_ Try.func42 (by kernel_rfl) rfl #[.agg #[.slice A0_0 l0_0.length c0_0, .int .i64 a0_1], .int .i64 a2] (by rfl) rfl rfl qn1 ?_
           with_reducible refine (forecourtref01_True.calls _ _ l0_0 a0_1 a2 t280 t281 _ ?side1 ?side2 A7.out).mono ?_
           (case side1 => (exact (Kd.C_below HR0_0.out HB.out)))
           (case side2 => exact HC0_0.out)
           rintro e w17 ⟨rfl, hb⟩
           refine ⟨_, rfl, ?_⟩
           have n0_ := Aside0.mk (blk_below (g := gb274) (o := .cells #[.slice A0_0 l0_0.length c0_0, .int .i64 a0_1] 24 (0, 0)) (by exact BK274.out) hb)
           have n1_ := Aside0.mk (blk_below (g := gb275) (o := .cells #[.int .i64 0, .int .i64 0, .int .i64 0, .int .i64 0] 48 (0, 0)) (by exact BK275.out) hb)
           have n2_ := Aside0.mk (below_step qn2 hb)
           clear BK274 BK275 HB
           have BK274 := n0_
           have BK275 := n1_
           have HB := n2_
           clear n0_ n1_ n2_
           (try clear hb)
           refine hK.out _ _ ⟨(blk_cell BK274.out 0).trans rfl, (blk_cell BK274.out 1).trans rfl⟩ (fun hHeld => ?_)
           clear hK K
           refine norm_ (a' := ?_) ?_ ?_
           rotate_left
           ·show Act.put _ (some 36) _ = _
            simp only [Act.put, List.setIfInBounds_toArray, List.set_cons_zero, List.set_cons_succ, i64_w, i32_w]
            rfl
           exact norm_ qn4 (hJ2_5 () _ ⟨hHeld, (by exact BK274.out), (by exact BK275.out), qn2⟩)
          ·skip
           refine box_step ?hg (N := 8) ?hd (cs := #[.int .i64 0, .int .i64 0]) (t := 43) ?hr ?_; (case hd => rfl); (case hg => rfl); (case hr => first | (go_simp; done) | (go_simp; rfl))
           intro gb282 hg w17 hbox hb
           have n0_ := Aside0.mk (blk_below (g := gb274) (o := .cells #[.slice A0_0 l0_0.length c0_0, .int .i64 a0_1] 24 (0, 0)) (by exact BK274.out) hb)
           have n1_ := Aside0.mk (blk_below (g := gb275) (o := .cells #[.int .i64 0, .int .i64 0, .int .i64 0, .int .i64 0] 48 (0, 0)) (by exact BK275.out) hb)
           have n2_ := Aside0.mk (below_step qn2 hb)
           have n3_ := Aside0.mk (hbox)
           have n4_ := Aside0.mk ((by rw [hg]; exact (below_size qn2) : w.heap.size ≤ gb282))
           have n5_ := Aside0.mk ((by rw [hg]; exact (below_size qn2) : w.heap.size ≤ gb282))
           have n6_ := Aside0.mk ((by rw [hg]; exact Nat.ne_of_lt (blk_lt (g := gb274) (o := .cells #[.slice A0_0 l0_0.length c0_0, .int .i64 a0_1] 24 (0, 0)) (by exact BK274.out)) : gb274 ≠ gb282))
           have n7_ := Aside0.mk ((by rw [hg]; exact Nat.ne_of_gt (blk_lt (g := gb274) (o := .cells #[.slice A0_0 l0_0.length c0_0, .int .i64 a0_1] 24 (0, 0)) (by exact BK274.out)) : gb282 ≠ gb274))
           have n8_ := Aside0.mk ((by rw [hg]; exact Nat.ne_of_lt (blk_lt (g := gb275) (o := .cells #[.int .i64 0, .int .i64 0, .int .i64 0, .int .i64 0] 48 (0, 0)) (by exact BK275.out)) : gb275 ≠ gb282))
           have n9_ := Aside0.mk ((by rw [hg]; exact Nat.ne_of_gt (blk_lt (g := gb275) (o := .cells #[.int .i64 0, .int .i64 0, .int .i64 0, .int .i64 0] 48 (0, 0)) (by exact BK275.out)) : gb282 ≠ gb275))
           clear BK274 BK275 HB
           have BK274 := n0_
           have BK275 := n1_
           have HB := n2_
           have BK282 := n3_
           have GW282 := n4_
           have GE282 := n5_
           have NB274_282 := n6_
           have NB282_274 := n7_
           have NB275_282 := n8_
           have NB282_275 := n9_
           clear n0_ n1_ n2_ n3_ n4_ n5_ n6_ n7_ n8_ n9_ hb hbox hg
           refine hK.out _ _ ⟨(blk_cell BK274.out 0).trans rfl, (blk_cell BK274.out 1).trans rfl⟩ (fun hHeld => ?_)
           clear hK K
           refine norm_ (a' := ?_) ?_ ?_
           rotate_left
           ·show Act.put _ (some 8) _ = _
            simp only [Act.put, List.setIfInBounds_toArray, List.set_cons_zero, List.set_cons_succ, i64_w, i32_w]
            rfl
           exact norm_ qn4 (hJ2_6 (gb282) _ ⟨hHeld, (by exact BK274.out), (by exact BK275.out), (by exact BK282.out), GW282.out, GE282.out, NB274_282.out, NB282_274.out, NB275_282.out, NB282_275.out, qn2⟩)
          skip
          refine box_step ?hg (N := 9) ?hd (cs := #[.int .i64 0, .int .i64 0]) (t := 43) ?hr ?_; (case hd => rfl); (case hg => rfl); (case hr => first | (go_simp; done) | (go_simp; rfl))
          intro gb283 hg w17 hbox hb
          have n0_ := Aside0.mk (blk_below (g := gb274) (o := .cells #[.slice A0_0 l0_0.length c0_0, .int .i64 a0_1] 24 (0, 0)) (by exact BK274.out) hb)
          have n1_ := Aside0.mk (blk_below (g := gb275) (o := .cells #[.int .i64 0, .int .i64 0, .int .i64 0, .int .i64 0] 48 (0, 0)) (by exact BK275.out) hb)
          have n2_ := Aside0.mk (below_step qn2 hb)
          have n3_ := Aside0.mk (hbox)
          have n4_ := Aside0.mk ((by rw [hg]; exact (below_size qn2) : w.heap.size ≤ gb283))
          have n5_ := Aside0.mk ((by rw [hg]; exact (below_size qn2) : w.heap.size ≤ gb283))
          have n6_ := Aside0.mk ((by rw [hg]; exact Nat.ne_of_lt (blk_lt (g := gb274) (o := .cells #[.slice A0_0 l0_0.length c0_0, .int .i64 a0_1] 24 (0, 0)) (by exact BK274.out)) : gb274 ≠ gb283))
          have n7_ := Aside0.mk ((by rw [hg]; exact Nat.ne_of_gt (blk_lt (g := gb274) (o := .cells #[.slice A0_0 l0_0.length c0_0, .int .i64 a0_1] 24 (0, 0)) (by exact BK274.out)) : gb283 ≠ gb274))
          have n8_ := Aside0.mk ((by rw [hg]; exact Nat.ne_of_lt (blk_lt (g := gb275) (o := .cells #[.int .i64 0, .int .i64 0, .int .i64 0, .int .i64 0] 48 (0, 0)) (by exact BK275.out)) : gb275 ≠ gb283))
          have n9_ := Aside0.mk ((by rw [hg]; exact Nat.ne_of_gt (blk_lt (g := gb275) (o := .cells #[.int .i64 0, .int .i64 0, .int .i64 0, .int .i64 0] 48 (0, 0)) (by exact BK275.out)) : gb283 ≠ gb275))
          clear BK274 BK275 HB
          have BK274 := n0_
          have BK275 := n1_
          have HB := n2_
          have BK283 := n3_
          have GW283 := n4_
          have GE283 := n5_
          have NB274_283 := n6_
          have NB283_274 := n7_
          have NB275_283 := n8_
          have NB283_275 := n9_
          clear n0_ n1_ n2_ n3_ n4_ n5_ n6_ n7_ n8_ n9_ hb hbox hg
          refine hK.out _ _ ⟨(blk_cell BK274.out 0).trans rfl, (blk_cell BK274.out 1).trans rfl⟩ (fun hHeld => ?_)
          clear hK K
          refine norm_ (a' := ?_) ?_ ?_
          rotate_left
          ·show Act.put _ (some 9) _ = _
           simp only [Act.put, List.setIfInBounds_toArray, List.set_cons_zero, List.set_cons_succ, i64_w, i32_w]
           rfl
          exact norm_ qn4 (hJ2_7 (gb283) _ ⟨hHeld, (by exact BK274.out), (by exact BK275.out), (by exact BK283.out), GW283.out, GE283.out, NB274_283.out, NB283_274.out, NB275_283.out, NB283_275.out, qn2⟩)
         skip
         rintro ⟨gb282, gb283⟩ w17 ⟨hS_, h0_, h1_, h2_, h3_, h4_, h5_, h6_, h7_, h8_, h9_, h10_, h11_, h12_, h13_, h14_, h15_, h16_, h17_, h18_⟩
         have n0_ : Aside0 (w17.heap[gb274]? = some (.cells #[.slice A0_0 l0_0.length c0_0, .int .i64 a0_1] 24 (0, 0))) := ⟨h0_⟩
         have n1_ : Aside0 (w17.heap[gb275]? = some (.cells #[.int .i64 0, .int .i64 0, .int .i64 0, .int .i64 0] 48 (0, 0))) := ⟨h1_⟩
         have n2_ : Aside0 (w17.heap[gb282]? = some (.cells #[.int .i64 0, .int .i64 0] 43 (0, 0))) := ⟨h2_⟩
         have n3_ : Aside0 (w17.heap[gb283]? = some (.cells #[.int .i64 0, .int .i64 0] 43 (0, 0))) := ⟨h3_⟩
         have n4_ : Aside0 (w.heap.size ≤ gb282) := ⟨h4_⟩
         have n5_ : Aside0 (w.heap.size ≤ gb282) := ⟨h5_⟩
         have n6_ : Aside0 (gb274 ≠ gb282) := ⟨h6_⟩
         have n7_ : Aside0 (gb282 ≠ gb274) := ⟨h7_⟩
         have n8_ : Aside0 (gb275 ≠ gb282) := ⟨h8_⟩
         have n9_ : Aside0 (gb282 ≠ gb275) := ⟨h9_⟩
         have n10_ : Aside0 (gb283 ≠ gb282) := ⟨h10_⟩
         have n11_ : Aside0 (gb282 ≠ gb283) := ⟨h11_⟩
         have n12_ : Aside0 (w.heap.size ≤ gb283) := ⟨h12_⟩
         have n13_ : Aside0 (w.heap.size ≤ gb283) := ⟨h13_⟩
         have n14_ : Aside0 (gb274 ≠ gb283) := ⟨h14_⟩
         have n15_ : Aside0 (gb283 ≠ gb274) := ⟨h15_⟩
         have n16_ : Aside0 (gb275 ≠ gb283) := ⟨h16_⟩
         have n17_ : Aside0 (gb283 ≠ gb275) := ⟨h17_⟩
         have n18_ : Aside0 (Below w.heap.size w w17) := ⟨h18_⟩
         clear BK274 BK275 HB h0_ h1_ h2_ h3_ h4_ h5_ h6_ h7_ h8_ h9_ h10_ h11_ h12_ h13_ h14_ h15_ h16_ h17_ h18_
         have BK274 := n0_
         have BK275 := n1_
         have BK282 := n2_
         have BK283 := n3_
         have GW282 := n4_
         have GE282 := n5_
         have NB274_282 := n6_
         have NB282_274 := n7_
         have NB275_282 := n8_
         have NB282_275 := n9_
         have NB283_282 := n10_
         have NB282_283 := n11_
         have GW283 := n12_
         have GE283 := n13_
         have NB274_283 := n14_
         have NB283_274 := n15_
         have NB275_283 := n16_
         have NB283_275 := n17_
         have HB := n18_
         clear n0_ n1_ n2_ n3_ n4_ n5_ n6_ n7_ n8_ n9_ n10_ n11_ n12_ n13_ n14_ n15_ n16_ n17_ n18_
         have hHeld : w17.cell? ⟨gb274, 0, none⟩ = some (.slice A0_0 l0_0.length c0_0) ∧ w17.cell? ⟨gb274, 1, none⟩ = some (.int .i64 a0_1) := hS_
         refine norm_ (a' := ?_) ?_ ?_
         rotate_left
         ·simp only [putAll, Act.put, List.setIfInBounds_toArray, List.set_cons_zero, List.set_cons_succ]
          rfl
         refine one_ (i := 2) (N := some 33) #[true, true, true, true, true, false, true, true, false, false] rfl rfl (one_of HT_.out (by kernel_rfl)) (by decide) (fun K hK => ?_)
         refine goes_ Try.func42 (by kernel_rfl) rfl #[.agg #[.slice A0_0 l0_0.length c0_0, .int .i64 a0_1], .int .i64 a1] (by rfl) rfl rfl qn1 ?_
         with_reducible refine (forecourtref01_True.calls _ _ l0_0 a0_1 a1 t278 t279 _ ?side1 ?side2 A6.out).mono ?_
         (case side1 => (exact (Kd.C_below HR0_0.out HB.out)))
         (case side2 => exact HC0_0.out)
         rintro e w18 ⟨rfl, hb⟩
         refine ⟨_, rfl, ?_⟩
         have n0_ := Aside0.mk (blk_below (g := gb274) (o := .cells #[.slice A0_0 l0_0.length c0_0, .int .i64 a0_1] 24 (0, 0)) (by exact BK274.out) hb)
         have n1_ := Aside0.mk (blk_below (g := gb275) (o := .cells #[.int .i64 0, .int .i64 0, .int .i64 0, .int .i64 0] 48 (0, 0)) (by exact BK275.out) hb)
         have n2_ := Aside0.mk (blk_below (g := gb282) (o := .cells #[.int .i64 0, .int .i64 0] 43 (0, 0)) (by exact BK282.out) hb)
         have n3_ := Aside0.mk (blk_below (g := gb283) (o := .cells #[.int .i64 0, .int .i64 0] 43 (0, 0)) (by exact BK283.out) hb)
         have n4_ := Aside0.mk (below_step qn2 hb)
         clear BK274 BK275 BK282 BK283 HB
         have BK274 := n0_
         have BK275 := n1_
         have BK282 := n2_
         have BK283 := n3_
         have HB := n4_
         clear n0_ n1_ n2_ n3_ n4_
         (try clear hb)
         refine hK.out _ _ ⟨(blk_cell BK274.out 0).trans rfl, (blk_cell BK274.out 1).trans rfl⟩ (fun hHeld => ?_)
         clear hK K
         refine norm_ (a' := ?_) ?_ ?_
         rotate_left
         ·show Act.put _ (some 33) _ = _
          simp only [Act.put, List.setIfInBounds_toArray, List.set_cons_zero, List.set_cons_succ, i64_w, i32_w]
          rfl
         exact norm_ qn4 (hJ2_6_7 (gb282, gb283) _ ⟨hHeld, (by exact BK274.out), (by exact BK275.out), (by exact BK282.out), (by exact BK283.out), GW282.out, GE282.out, NB274_282.out, NB282_274.out, NB275_282.out, NB282_275.out, NB283_282.out, NB282_283.out, GW283.out, GE283.out, NB274_283.out, NB283_274.out, NB275_283.out, NB283_275.out, qn2⟩)
        skip
        rintro gb283 w17 ⟨hS_, h0_, h1_, h2_, h3_, h4_, h5_, h6_, h7_, h8_, h9_⟩
        have n0_ : Aside0 (w17.heap[gb274]? = some (.cells #[.slice A0_0 l0_0.length c0_0, .int .i64 a0_1] 24 (0, 0))) := ⟨h0_⟩
        have n1_ : Aside0 (w17.heap[gb275]? = some (.cells #[.int .i64 0, .int .i64 0, .int .i64 0, .int .i64 0] 48 (0, 0))) := ⟨h1_⟩
        have n2_ : Aside0 (w17.heap[gb283]? = some (.cells #[.int .i64 0, .int .i64 0] 43 (0, 0))) := ⟨h2_⟩
        have n3_ : Aside0 (w.heap.size ≤ gb283) := ⟨h3_⟩
        have n4_ : Aside0 (w.heap.size ≤ gb283) := ⟨h4_⟩
        have n5_ : Aside0 (gb274 ≠ gb283) := ⟨h5_⟩
        have n6_ : Aside0 (gb283 ≠ gb274) := ⟨h6_⟩
        have n7_ : Aside0 (gb275 ≠ gb283) := ⟨h7_⟩
        have n8_ : Aside0 (gb283 ≠ gb275) := ⟨h8_⟩
        have n9_ : Aside0 (Below w.heap.size w w17) := ⟨h9_⟩
        clear BK274 BK275 HB h0_ h1_ h2_ h3_ h4_ h5_ h6_ h7_ h8_ h9_
        have BK274 := n0_
        have BK275 := n1_
        have BK283 := n2_
        have GW283 := n3_
        have GE283 := n4_
        have NB274_283 := n5_
        have NB283_274 := n6_
        have NB275_283 := n7_
        have NB283_275 := n8_
        have HB := n9_
        clear n0_ n1_ n2_ n3_ n4_ n5_ n6_ n7_ n8_ n9_
        have hHeld : w17.cell? ⟨gb274, 0, none⟩ = some (.slice A0_0 l0_0.length c0_0) ∧ w17.cell? ⟨gb274, 1, none⟩ = some (.int .i64 a0_1) := hS_
        refine norm_ (a' := ?_) ?_ ?_
        rotate_left
        ·simp only [putAll, Act.put, List.setIfInBounds_toArray, List.set_cons_zero, List.set_cons_succ]
         rfl
        refine two_ (i := 5) (j := 6) (Ni := some 36) (Nj := some 8) #[true, true, true, true, true, true, false, true, false, false] #[true, true, true, true, true, false, true, true, false, false] rfl rfl rfl rfl (two_of HT_.out (by kernel_rfl)) (by decide) (by decide) (fun K hK => ?_) (fun K hK => ?_)
        ·skip
         refine goes_ Try.func42 (by kernel_rfl) rfl #[.agg #[.slice A0_0 l0_0.length c0_0, .int .i64 a0_1], .int .i64 a2] (by rfl) rfl rfl qn1 ?_
         with_reducible refine (forecourtref01_True.calls _ _ l0_0 a0_1 a2 t280 t281 _ ?side1 ?side2 A7.out).mono ?_
         (case side1 => (exact (Kd.C_below HR0_0.out HB.out)))
         (case side2 => exact HC0_0.out)
         rintro e w18 ⟨rfl, hb⟩
         refine ⟨_, rfl, ?_⟩
         have n0_ := Aside0.mk (blk_below (g := gb274) (o := .cells #[.slice A0_0 l0_0.length c0_0, .int .i64 a0_1] 24 (0, 0)) (by exact BK274.out) hb)
         have n1_ := Aside0.mk (blk_below (g := gb275) (o := .cells #[.int .i64 0, .int .i64 0, .int .i64 0, .int .i64 0] 48 (0, 0)) (by exact BK275.out) hb)
         have n2_ := Aside0.mk (blk_below (g := gb283) (o := .cells #[.int .i64 0, .int .i64 0] 43 (0, 0)) (by exact BK283.out) hb)
         have n3_ := Aside0.mk (below_step qn2 hb)
         clear BK274 BK275 BK283 HB
         have BK274 := n0_
         have BK275 := n1_
         have BK283 := n2_
         have HB := n3_
         clear n0_ n1_ n2_ n3_
         (try clear hb)
         refine hK.out _ _ ⟨(blk_cell BK274.out 0).trans rfl, (blk_cell BK274.out 1).trans rfl⟩ (fun hHeld => ?_)
         clear hK K
         refine norm_ (a' := ?_) ?_ ?_
         rotate_left
         ·show Act.put _ (some 36) _ = _
          simp only [Act.put, List.setIfInBounds_toArray, List.set_cons_zero, List.set_cons_succ, i64_w, i32_w]
          rfl
         exact norm_ qn4 (hJ2_5_7 (gb283) _ ⟨hHeld, (by exact BK274.out), (by exact BK275.out), (by exact BK283.out), GW283.out, GE283.out, NB274_283.out, NB283_274.out, NB275_283.out, NB283_275.out, qn2⟩)
        skip
        refine box_step ?hg (N := 8) ?hd (cs := #[.int .i64 0, .int .i64 0]) (t := 43) ?hr ?_; (case hd => rfl); (case hg => rfl); (case hr => first | (go_simp; done) | (go_simp; rfl))
        intro gb282 hg w18 hbox hb
        have n0_ := Aside0.mk (blk_below (g := gb274) (o := .cells #[.slice A0_0 l0_0.length c0_0, .int .i64 a0_1] 24 (0, 0)) (by exact BK274.out) hb)
        have n1_ := Aside0.mk (blk_below (g := gb275) (o := .cells #[.int .i64 0, .int .i64 0, .int .i64 0, .int .i64 0] 48 (0, 0)) (by exact BK275.out) hb)
        have n2_ := Aside0.mk (blk_below (g := gb283) (o := .cells #[.int .i64 0, .int .i64 0] 43 (0, 0)) (by exact BK283.out) hb)
        have n3_ := Aside0.mk (below_step qn2 hb)
        have n4_ := Aside0.mk (hbox)
        have n5_ := Aside0.mk ((by rw [hg]; exact (below_size qn2) : w.heap.size ≤ gb282))
        have n6_ := Aside0.mk ((by rw [hg]; exact (below_size qn2) : w.heap.size ≤ gb282))
        have n7_ := Aside0.mk ((by rw [hg]; exact Nat.ne_of_lt (blk_lt (g := gb274) (o := .cells #[.slice A0_0 l0_0.length c0_0, .int .i64 a0_1] 24 (0, 0)) (by exact BK274.out)) : gb274 ≠ gb282))
        have n8_ := Aside0.mk ((by rw [hg]; exact Nat.ne_of_gt (blk_lt (g := gb274) (o := .cells #[.slice A0_0 l0_0.length c0_0, .int .i64 a0_1] 24 (0, 0)) (by exact BK274.out)) : gb282 ≠ gb274))
        have n9_ := Aside0.mk ((by rw [hg]; exact Nat.ne_of_lt (blk_lt (g := gb275) (o := .cells #[.int .i64 0, .int .i64 0, .int .i64 0, .int .i64 0] 48 (0, 0)) (by exact BK275.out)) : gb275 ≠ gb282))
        have n10_ := Aside0.mk ((by rw [hg]; exact Nat.ne_of_gt (blk_lt (g := gb275) (o := .cells #[.int .i64 0, .int .i64 0, .int .i64 0, .int .i64 0] 48 (0, 0)) (by exact BK275.out)) : gb282 ≠ gb275))
        have n11_ := Aside0.mk ((by rw [hg]; exact Nat.ne_of_lt (blk_lt (g := gb283) (o := .cells #[.int .i64 0, .int .i64 0] 43 (0, 0)) (by exact BK283.out)) : gb283 ≠ gb282))
        have n12_ := Aside0.mk ((by rw [hg]; exact Nat.ne_of_gt (blk_lt (g := gb283) (o := .cells #[.int .i64 0, .int .i64 0] 43 (0, 0)) (by exact BK283.out)) : gb282 ≠ gb283))
        clear BK274 BK275 BK283 HB
        have BK274 := n0_
        have BK275 := n1_
        have BK283 := n2_
        have HB := n3_
        have BK282 := n4_
        have GW282 := n5_
        have GE282 := n6_
        have NB274_282 := n7_
        have NB282_274 := n8_
        have NB275_282 := n9_
        have NB282_275 := n10_
        have NB283_282 := n11_
        have NB282_283 := n12_
        clear n0_ n1_ n2_ n3_ n4_ n5_ n6_ n7_ n8_ n9_ n10_ n11_ n12_ hb hbox hg
        refine hK.out _ _ ⟨(blk_cell BK274.out 0).trans rfl, (blk_cell BK274.out 1).trans rfl⟩ (fun hHeld => ?_)
        clear hK K
        refine norm_ (a' := ?_) ?_ ?_
        rotate_left
        ·show Act.put _ (some 8) _ = _
         simp only [Act.put, List.setIfInBounds_toArray, List.set_cons_zero, List.set_cons_succ, i64_w, i32_w]
         rfl
        exact norm_ qn4 (hJ2_6_7 (gb282, gb283) _ ⟨hHeld, (by exact BK274.out), (by exact BK275.out), (by exact BK282.out), (by exact BK283.out), GW282.out, GE282.out, NB274_282.out, NB282_274.out, NB275_282.out, NB282_275.out, NB283_282.out, NB282_283.out, GW283.out, GE283.out, NB274_283.out, NB283_274.out, NB275_283.out, NB283_275.out, qn2⟩)
       skip
       rintro gb282 w17 ⟨hS_, h0_, h1_, h2_, h3_, h4_, h5_, h6_, h7_, h8_, h9_⟩
       have n0_ : Aside0 (w17.heap[gb274]? = some (.cells #[.slice A0_0 l0_0.length c0_0, .int .i64 a0_1] 24 (0, 0))) := ⟨h0_⟩
       have n1_ : Aside0 (w17.heap[gb275]? = some (.cells #[.int .i64 0, .int .i64 0, .int .i64 0, .int .i64 0] 48 (0, 0))) := ⟨h1_⟩
       have n2_ : Aside0 (w17.heap[gb282]? = some (.cells #[.int .i64 0, .int .i64 0] 43 (0, 0))) := ⟨h2_⟩
       have n3_ : Aside0 (w.heap.size ≤ gb282) := ⟨h3_⟩
       have n4_ : Aside0 (w.heap.size ≤ gb282) := ⟨h4_⟩
       have n5_ : Aside0 (gb274 ≠ gb282) := ⟨h5_⟩
       have n6_ : Aside0 (gb282 ≠ gb274) := ⟨h6_⟩
       have n7_ : Aside0 (gb275 ≠ gb282) := ⟨h7_⟩
       have n8_ : Aside0 (gb282 ≠ gb275) := ⟨h8_⟩
       have n9_ : Aside0 (Below w.heap.size w w17) := ⟨h9_⟩
       clear BK274 BK275 HB h0_ h1_ h2_ h3_ h4_ h5_ h6_ h7_ h8_ h9_
       have BK274 := n0_
       have BK275 := n1_
       have BK282 := n2_
       have GW282 := n3_
       have GE282 := n4_
       have NB274_282 := n5_
       have NB282_274 := n6_
       have NB275_282 := n7_
       have NB282_275 := n8_
       have HB := n9_
       clear n0_ n1_ n2_ n3_ n4_ n5_ n6_ n7_ n8_ n9_
       have hHeld : w17.cell? ⟨gb274, 0, none⟩ = some (.slice A0_0 l0_0.length c0_0) ∧ w17.cell? ⟨gb274, 1, none⟩ = some (.int .i64 a0_1) := hS_
       refine norm_ (a' := ?_) ?_ ?_
       rotate_left
       ·simp only [putAll, Act.put, List.setIfInBounds_toArray, List.set_cons_zero, List.set_cons_succ]
        rfl
       refine two_ (i := 5) (j := 7) (Ni := some 36) (Nj := some 9) #[true, true, true, true, true, true, true, false, false, false] #[true, true, true, true, true, false, true, true, false, false] rfl rfl rfl rfl (two_of HT_.out (by kernel_rfl)) (by decide) (by decide) (fun K hK => ?_) (fun K hK => ?_)
       ·skip
        refine goes_ Try.func42 (by kernel_rfl) rfl #[.agg #[.slice A0_0 l0_0.length c0_0, .int .i64 a0_1], .int .i64 a2] (by rfl) rfl rfl qn1 ?_
        with_reducible refine (forecourtref01_True.calls _ _ l0_0 a0_1 a2 t280 t281 _ ?side1 ?side2 A7.out).mono ?_
        (case side1 => (exact (Kd.C_below HR0_0.out HB.out)))
        (case side2 => exact HC0_0.out)
        rintro e w18 ⟨rfl, hb⟩
        refine ⟨_, rfl, ?_⟩
        have n0_ := Aside0.mk (blk_below (g := gb274) (o := .cells #[.slice A0_0 l0_0.length c0_0, .int .i64 a0_1] 24 (0, 0)) (by exact BK274.out) hb)
        have n1_ := Aside0.mk (blk_below (g := gb275) (o := .cells #[.int .i64 0, .int .i64 0, .int .i64 0, .int .i64 0] 48 (0, 0)) (by exact BK275.out) hb)
        have n2_ := Aside0.mk (blk_below (g := gb282) (o := .cells #[.int .i64 0, .int .i64 0] 43 (0, 0)) (by exact BK282.out) hb)
        have n3_ := Aside0.mk (below_step qn2 hb)
        clear BK274 BK275 BK282 HB
        have BK274 := n0_
        have BK275 := n1_
        have BK282 := n2_
        have HB := n3_
        clear n0_ n1_ n2_ n3_
        (try clear hb)
        refine hK.out _ _ ⟨(blk_cell BK274.out 0).trans rfl, (blk_cell BK274.out 1).trans rfl⟩ (fun hHeld => ?_)
        clear hK K
        refine norm_ (a' := ?_) ?_ ?_
        rotate_left
        ·show Act.put _ (some 36) _ = _
         simp only [Act.put, List.setIfInBounds_toArray, List.set_cons_zero, List.set_cons_succ, i64_w, i32_w]
         rfl
        exact norm_ qn4 (hJ2_5_6 (gb282) _ ⟨hHeld, (by exact BK274.out), (by exact BK275.out), (by exact BK282.out), GW282.out, GE282.out, NB274_282.out, NB282_274.out, NB275_282.out, NB282_275.out, qn2⟩)
       skip
       refine box_step ?hg (N := 9) ?hd (cs := #[.int .i64 0, .int .i64 0]) (t := 43) ?hr ?_; (case hd => rfl); (case hg => rfl); (case hr => first | (go_simp; done) | (go_simp; rfl))
       intro gb283 hg w18 hbox hb
       have n0_ := Aside0.mk (blk_below (g := gb274) (o := .cells #[.slice A0_0 l0_0.length c0_0, .int .i64 a0_1] 24 (0, 0)) (by exact BK274.out) hb)
       have n1_ := Aside0.mk (blk_below (g := gb275) (o := .cells #[.int .i64 0, .int .i64 0, .int .i64 0, .int .i64 0] 48 (0, 0)) (by exact BK275.out) hb)
       have n2_ := Aside0.mk (blk_below (g := gb282) (o := .cells #[.int .i64 0, .int .i64 0] 43 (0, 0)) (by exact BK282.out) hb)
       have n3_ := Aside0.mk (below_step qn2 hb)
       have n4_ := Aside0.mk (hbox)
       have n5_ := Aside0.mk ((by rw [hg]; exact (below_size qn2) : w.heap.size ≤ gb283))
       have n6_ := Aside0.mk ((by rw [hg]; exact (below_size qn2) : w.heap.size ≤ gb283))
       have n7_ := Aside0.mk ((by rw [hg]; exact Nat.ne_of_lt (blk_lt (g := gb274) (o := .cells #[.slice A0_0 l0_0.length c0_0, .int .i64 a0_1] 24 (0, 0)) (by exact BK274.out)) : gb274 ≠ gb283))
       have n8_ := Aside0.mk ((by rw [hg]; exact Nat.ne_of_gt (blk_lt (g := gb274) (o := .cells #[.slice A0_0 l0_0.length c0_0, .int .i64 a0_1] 24 (0, 0)) (by exact BK274.out)) : gb283 ≠ gb274))
       have n9_ := Aside0.mk ((by rw [hg]; exact Nat.ne_of_lt (blk_lt (g := gb275) (o := .cells #[.int .i64 0, .int .i64 0, .int .i64 0, .int .i64 0] 48 (0, 0)) (by exact BK275.out)) : gb275 ≠ gb283))
       have n10_ := Aside0.mk ((by rw [hg]; exact Nat.ne_of_gt (blk_lt (g := gb275) (o := .cells #[.int .i64 0, .int .i64 0, .int .i64 0, .int .i64 0] 48 (0, 0)) (by exact BK275.out)) : gb283 ≠ gb275))
       have n11_ := Aside0.mk ((by rw [hg]; exact Nat.ne_of_lt (blk_lt (g := gb282) (o := .cells #[.int .i64 0, .int .i64 0] 43 (0, 0)) (by exact BK282.out)) : gb282 ≠ gb283))
       have n12_ := Aside0.mk ((by rw [hg]; exact Nat.ne_of_gt (blk_lt (g := gb282) (o := .cells #[.int .i64 0, .int .i64 0] 43 (0, 0)) (by exact BK282.out)) : gb283 ≠ gb282))
       clear BK274 BK275 BK282 HB
       have BK274 := n0_
       have BK275 := n1_
       have BK282 := n2_
       have HB := n3_
       have BK283 := n4_
       have GW283 := n5_
       have GE283 := n6_
       have NB274_283 := n7_
       have NB283_274 := n8_
       have NB275_283 := n9_
       have NB283_275 := n10_
       have NB282_283 := n11_
       have NB283_282 := n12_
       clear n0_ n1_ n2_ n3_ n4_ n5_ n6_ n7_ n8_ n9_ n10_ n11_ n12_ hb hbox hg
       refine hK.out _ _ ⟨(blk_cell BK274.out 0).trans rfl, (blk_cell BK274.out 1).trans rfl⟩ (fun hHeld => ?_)
       clear hK K
       refine norm_ (a' := ?_) ?_ ?_
       rotate_left
       ·show Act.put _ (some 9) _ = _
        simp only [Act.put, List.setIfInBounds_toArray, List.set_cons_zero, List.set_cons_succ, i64_w, i32_w]
        rfl
       exact norm_ qn4 (hJ2_6_7 (gb282, gb283) _ ⟨hHeld, (by exact BK274.out), (by exact BK275.out), (by exact BK282.out), (by exact BK283.out), GW282.out, GE282.out, NB274_282.out, NB282_274.out, NB275_282.out, NB282_275.out, NB283_282.out, NB282_283.out, GW283.out, GE283.out, NB274_283.out, NB283_274.out, NB275_283.out, NB283_275.out, qn2⟩)
      skip
      rintro _ w17 ⟨hS_, h0_, h1_, h2_⟩
      have n0_ : Aside0 (w17.heap[gb274]? = some (.cells #[.slice A0_0 l0_0.length c0_0, .int .i64 a0_1] 24 (0, 0))) := ⟨h0_⟩
      have n1_ : Aside0 (w17.heap[gb275]? = some (.cells #[.int .i64 0, .int .i64 0, .int .i64 0, .int .i64 0] 48 (0, 0))) := ⟨h1_⟩
      have n2_ : Aside0 (Below w.heap.size w w17) := ⟨h2_⟩
      clear BK274 BK275 HB h0_ h1_ h2_
      have BK274 := n0_
      have BK275 := n1_
      have HB := n2_
      clear n0_ n1_ n2_
      have hHeld : w17.cell? ⟨gb274, 0, none⟩ = some (.slice A0_0 l0_0.length c0_0) ∧ w17.cell? ⟨gb274, 1, none⟩ = some (.int .i64 a0_1) := hS_
      refine norm_ (a' := ?_) ?_ ?_
      rotate_left
      ·simp only [putAll, Act.put, List.setIfInBounds_toArray, List.set_cons_zero, List.set_cons_succ]
       rfl
      refine two_ (i := 6) (j := 7) (Ni := some 8) (Nj := some 9) #[true, true, true, true, true, true, true, false, false, false] #[true, true, true, true, true, true, false, true, false, false] rfl rfl rfl rfl (two_of HT_.out (by kernel_rfl)) (by decide) (by decide) (fun K hK => ?_) (fun K hK => ?_)
      ·skip
       refine box_step ?hg (N := 8) ?hd (cs := #[.int .i64 0, .int .i64 0]) (t := 43) ?hr ?_; (case hd => rfl); (case hg => rfl); (case hr => first | (go_simp; done) | (go_simp; rfl))
       intro gb282 hg w18 hbox hb
       have n0_ := Aside0.mk (blk_below (g := gb274) (o := .cells #[.slice A0_0 l0_0.length c0_0, .int .i64 a0_1] 24 (0, 0)) (by exact BK274.out) hb)
       have n1_ := Aside0.mk (blk_below (g := gb275) (o := .cells #[.int .i64 0, .int .i64 0, .int .i64 0, .int .i64 0] 48 (0, 0)) (by exact BK275.out) hb)
       have n2_ := Aside0.mk (below_step qn2 hb)
       have n3_ := Aside0.mk (hbox)
       have n4_ := Aside0.mk ((by rw [hg]; exact (below_size qn2) : w.heap.size ≤ gb282))
       have n5_ := Aside0.mk ((by rw [hg]; exact (below_size qn2) : w.heap.size ≤ gb282))
       have n6_ := Aside0.mk ((by rw [hg]; exact Nat.ne_of_lt (blk_lt (g := gb274) (o := .cells #[.slice A0_0 l0_0.length c0_0, .int .i64 a0_1] 24 (0, 0)) (by exact BK274.out)) : gb274 ≠ gb282))
       have n7_ := Aside0.mk ((by rw [hg]; exact Nat.ne_of_gt (blk_lt (g := gb274) (o := .cells #[.slice A0_0 l0_0.length c0_0, .int .i64 a0_1] 24 (0, 0)) (by exact BK274.out)) : gb282 ≠ gb274))
       have n8_ := Aside0.mk ((by rw [hg]; exact Nat.ne_of_lt (blk_lt (g := gb275) (o := .cells #[.int .i64 0, .int .i64 0, .int .i64 0, .int .i64 0] 48 (0, 0)) (by exact BK275.out)) : gb275 ≠ gb282))
       have n9_ := Aside0.mk ((by rw [hg]; exact Nat.ne_of_gt (blk_lt (g := gb275) (o := .cells #[.int .i64 0, .int .i64 0, .int .i64 0, .int .i64 0] 48 (0, 0)) (by exact BK275.out)) : gb282 ≠ gb275))
       clear BK274 BK275 HB
       have BK274 := n0_
       have BK275 := n1_
       have HB := n2_
       have BK282 := n3_
       have GW282 := n4_
       have GE282 := n5_
       have NB274_282 := n6_
       have NB282_274 := n7_
       have NB275_282 := n8_
       have NB282_275 := n9_
       clear n0_ n1_ n2_ n3_ n4_ n5_ n6_ n7_ n8_ n9_ hb hbox hg
       refine hK.out _ _ ⟨(blk_cell BK274.out 0).trans rfl, (blk_cell BK274.out 1).trans rfl⟩ (fun hHeld => ?_)
       clear hK K
       refine norm_ (a' := ?_) ?_ ?_
       rotate_left
       ·show Act.put _ (some 8) _ = _
        simp only [Act.put, List.setIfInBounds_toArray, List.set_cons_zero, List.set_cons_succ, i64_w, i32_w]
        rfl
       exact norm_ qn4 (hJ2_5_6 (gb282) _ ⟨hHeld, (by exact BK274.out), (by exact BK275.out), (by exact BK282.out), GW282.out, GE282.out, NB274_282.out, NB282_274.out, NB275_282.out, NB282_275.out, qn2⟩)
      skip
      refine box_step ?hg (N := 9) ?hd (cs := #[.int .i64 0, .int .i64 0]) (t := 43) ?hr ?_; (case hd => rfl); (case hg => rfl); (case hr => first | (go_simp; done) | (go_simp; rfl))
      intro gb283 hg w18 hbox hb
      have n0_ := Aside0.mk (blk_below (g := gb274) (o := .cells #[.slice A0_0 l0_0.length c0_0, .int .i64 a0_1] 24 (0, 0)) (by exact BK274.out) hb)
      have n1_ := Aside0.mk (blk_below (g := gb275) (o := .cells #[.int .i64 0, .int .i64 0, .int .i64 0, .int .i64 0] 48 (0, 0)) (by exact BK275.out) hb)
      have n2_ := Aside0.mk (below_step qn2 hb)
      have n3_ := Aside0.mk (hbox)
      have n4_ := Aside0.mk ((by rw [hg]; exact (below_size qn2) : w.heap.size ≤ gb283))
      have n5_ := Aside0.mk ((by rw [hg]; exact (below_size qn2) : w.heap.size ≤ gb283))
      have n6_ := Aside0.mk ((by rw [hg]; exact Nat.ne_of_lt (blk_lt (g := gb274) (o := .cells #[.slice A0_0 l0_0.length c0_0, .int .i64 a0_1] 24 (0, 0)) (by exact BK274.out)) : gb274 ≠ gb283))
      have n7_ := Aside0.mk ((by rw [hg]; exact Nat.ne_of_gt (blk_lt (g := gb274) (o := .cells #[.slice A0_0 l0_0.length c0_0, .int .i64 a0_1] 24 (0, 0)) (by exact BK274.out)) : gb283 ≠ gb274))
      have n8_ := Aside0.mk ((by rw [hg]; exact Nat.ne_of_lt (blk_lt (g := gb275) (o := .cells #[.int .i64 0, .int .i64 0, .int .i64 0, .int .i64 0] 48 (0, 0)) (by exact BK275.out)) : gb275 ≠ gb283))
      have n9_ := Aside0.mk ((by rw [hg]; exact Nat.ne_of_gt (blk_lt (g := gb275) (o := .cells #[.int .i64 0, .int .i64 0, .int .i64 0, .int .i64 0] 48 (0, 0)) (by exact BK275.out)) : gb283 ≠ gb275))
      clear BK274 BK275 HB
      have BK274 := n0_
      have BK275 := n1_
      have HB := n2_
      have BK283 := n3_
      have GW283 := n4_
      have GE283 := n5_
      have NB274_283 := n6_
      have NB283_274 := n7_
      have NB275_283 := n8_
      have NB283_275 := n9_
      clear n0_ n1_ n2_ n3_ n4_ n5_ n6_ n7_ n8_ n9_ hb hbox hg
      refine hK.out _ _ ⟨(blk_cell BK274.out 0).trans rfl, (blk_cell BK274.out 1).trans rfl⟩ (fun hHeld => ?_)
      clear hK K
      refine norm_ (a' := ?_) ?_ ?_
      rotate_left
      ·show Act.put _ (some 9) _ = _
       simp only [Act.put, List.setIfInBounds_toArray, List.set_cons_zero, List.set_cons_succ, i64_w, i32_w]
       rfl
      exact norm_ qn4 (hJ2_5_7 (gb283) _ ⟨hHeld, (by exact BK274.out), (by exact BK275.out), (by exact BK283.out), GW283.out, GE283.out, NB274_283.out, NB283_274.out, NB275_283.out, NB283_275.out, qn2⟩)
     skip
     rintro ⟨gb282, gb283⟩ w18 ⟨hS_, h0_, h1_, h2_, h3_, h4_, h5_, h6_, h7_, h8_, h9_, h10_, h11_, h12_, h13_, h14_, h15_, h16_, h17_, h18_⟩
     have n0_ : Aside0 (w18.heap[gb274]? = some (.cells #[.slice A0_0 l0_0.length c0_0, .int .i64 a0_1] 24 (0, 0))) := ⟨h0_⟩
     have n1_ : Aside0 (w18.heap[gb275]? = some (.cells #[.int .i64 0, .int .i64 0, .int .i64 0, .int .i64 0] 48 (0, 0))) := ⟨h1_⟩
     have n2_ : Aside0 (w18.heap[gb282]? = some (.cells #[.int .i64 0, .int .i64 0] 43 (0, 0))) := ⟨h2_⟩
     have n3_ : Aside0 (w18.heap[gb283]? = some (.cells #[.int .i64 0, .int .i64 0] 43 (0, 0))) := ⟨h3_⟩
     have n4_ : Aside0 (w.heap.size ≤ gb282) := ⟨h4_⟩
     have n5_ : Aside0 (w.heap.size ≤ gb282) := ⟨h5_⟩
     have n6_ : Aside0 (gb274 ≠ gb282) := ⟨h6_⟩
     have n7_ : Aside0 (gb282 ≠ gb274) := ⟨h7_⟩
     have n8_ : Aside0 (gb275 ≠ gb282) := ⟨h8_⟩
     have n9_ : Aside0 (gb282 ≠ gb275) := ⟨h9_⟩
     have n10_ : Aside0 (gb283 ≠ gb282) := ⟨h10_⟩
     have n11_ : Aside0 (gb282 ≠ gb283) := ⟨h11_⟩
     have n12_ : Aside0 (w.heap.size ≤ gb283) := ⟨h12_⟩
     have n13_ : Aside0 (w.heap.size ≤ gb283) := ⟨h13_⟩
     have n14_ : Aside0 (gb274 ≠ gb283) := ⟨h14_⟩
     have n15_ : Aside0 (gb283 ≠ gb274) := ⟨h15_⟩
     have n16_ : Aside0 (gb275 ≠ gb283) := ⟨h16_⟩
     have n17_ : Aside0 (gb283 ≠ gb275) := ⟨h17_⟩
     have n18_ : Aside0 (Below w.heap.size w w18) := ⟨h18_⟩
     clear BK274 BK275 HB h0_ h1_ h2_ h3_ h4_ h5_ h6_ h7_ h8_ h9_ h10_ h11_ h12_ h13_ h14_ h15_ h16_ h17_ h18_
     have BK274 := n0_
     have BK275 := n1_
     have BK282 := n2_
     have BK283 := n3_
     have GW282 := n4_
     have GE282 := n5_
     have NB274_282 := n6_
     have NB282_274 := n7_
     have NB275_282 := n8_
     have NB282_275 := n9_
     have NB283_282 := n10_
     have NB282_283 := n11_
     have GW283 := n12_
     have GE283 := n13_
     have NB274_283 := n14_
     have NB283_274 := n15_
     have NB275_283 := n16_
     have NB283_275 := n17_
     have HB := n18_
     clear n0_ n1_ n2_ n3_ n4_ n5_ n6_ n7_ n8_ n9_ n10_ n11_ n12_ n13_ n14_ n15_ n16_ n17_ n18_
     have hHeld : w18.cell? ⟨gb274, 0, none⟩ = some (.slice A0_0 l0_0.length c0_0) ∧ w18.cell? ⟨gb274, 1, none⟩ = some (.int .i64 a0_1) := hS_
     refine norm_ (a' := ?_) ?_ ?_
     rotate_left
     ·simp only [putAll, Act.put, List.setIfInBounds_toArray, List.set_cons_zero, List.set_cons_succ]
      rfl
     refine one_ (i := 5) (N := some 36) #[true, true, true, true, true, true, true, true, false, false] rfl rfl (one_of HT_.out (by kernel_rfl)) (by decide) (fun K hK => ?_)
     refine goes_ Try.func42 (by kernel_rfl) rfl #[.agg #[.slice A0_0 l0_0.length c0_0, .int .i64 a0_1], .int .i64 a2] (by rfl) rfl rfl qn1 ?_
     with_reducible refine (forecourtref01_True.calls _ _ l0_0 a0_1 a2 t280 t281 _ ?side1 ?side2 A7.out).mono ?_
     (case side1 => (exact (Kd.C_below HR0_0.out HB.out)))
     (case side2 => exact HC0_0.out)
     rintro e w19 ⟨rfl, hb⟩
     refine ⟨_, rfl, ?_⟩
     have n0_ := Aside0.mk (blk_below (g := gb274) (o := .cells #[.slice A0_0 l0_0.length c0_0, .int .i64 a0_1] 24 (0, 0)) (by exact BK274.out) hb)
     have n1_ := Aside0.mk (blk_below (g := gb275) (o := .cells #[.int .i64 0, .int .i64 0, .int .i64 0, .int .i64 0] 48 (0, 0)) (by exact BK275.out) hb)
     have n2_ := Aside0.mk (blk_below (g := gb282) (o := .cells #[.int .i64 0, .int .i64 0] 43 (0, 0)) (by exact BK282.out) hb)
     have n3_ := Aside0.mk (blk_below (g := gb283) (o := .cells #[.int .i64 0, .int .i64 0] 43 (0, 0)) (by exact BK283.out) hb)
     have n4_ := Aside0.mk (below_step qn2 hb)
     clear BK274 BK275 BK282 BK283 HB
     have BK274 := n0_
     have BK275 := n1_
     have BK282 := n2_
     have BK283 := n3_
     have HB := n4_
     clear n0_ n1_ n2_ n3_ n4_
     (try clear hb)
     refine hK.out _ _ ⟨(blk_cell BK274.out 0).trans rfl, (blk_cell BK274.out 1).trans rfl⟩ (fun hHeld => ?_)
     clear hK K
     refine norm_ (a' := ?_) ?_ ?_
     rotate_left
     ·show Act.put _ (some 36) _ = _
      simp only [Act.put, List.setIfInBounds_toArray, List.set_cons_zero, List.set_cons_succ, i64_w, i32_w]
      rfl
     exact norm_ qn4 (hJ2_5_6_7 (gb282, gb283) _ ⟨hHeld, (by exact BK274.out), (by exact BK275.out), (by exact BK282.out), (by exact BK283.out), GW282.out, GE282.out, NB274_282.out, NB282_274.out, NB275_282.out, NB282_275.out, NB283_282.out, NB282_283.out, GW283.out, GE283.out, NB274_283.out, NB283_274.out, NB275_283.out, NB283_275.out, qn2⟩)
    skip
    rintro gb283 w18 ⟨hS_, h0_, h1_, h2_, h3_, h4_, h5_, h6_, h7_, h8_, h9_⟩
    have n0_ : Aside0 (w18.heap[gb274]? = some (.cells #[.slice A0_0 l0_0.length c0_0, .int .i64 a0_1] 24 (0, 0))) := ⟨h0_⟩
    have n1_ : Aside0 (w18.heap[gb275]? = some (.cells #[.int .i64 0, .int .i64 0, .int .i64 0, .int .i64 0] 48 (0, 0))) := ⟨h1_⟩
    have n2_ : Aside0 (w18.heap[gb283]? = some (.cells #[.int .i64 0, .int .i64 0] 43 (0, 0))) := ⟨h2_⟩
    have n3_ : Aside0 (w.heap.size ≤ gb283) := ⟨h3_⟩
    have n4_ : Aside0 (w.heap.size ≤ gb283) := ⟨h4_⟩
    have n5_ : Aside0 (gb274 ≠ gb283) := ⟨h5_⟩
    have n6_ : Aside0 (gb283 ≠ gb274) := ⟨h6_⟩
    have n7_ : Aside0 (gb275 ≠ gb283) := ⟨h7_⟩
    have n8_ : Aside0 (gb283 ≠ gb275) := ⟨h8_⟩
    have n9_ : Aside0 (Below w.heap.size w w18) := ⟨h9_⟩
    clear BK274 BK275 HB h0_ h1_ h2_ h3_ h4_ h5_ h6_ h7_ h8_ h9_
    have BK274 := n0_
    have BK275 := n1_
    have BK283 := n2_
    have GW283 := n3_
    have GE283 := n4_
    have NB274_283 := n5_
    have NB283_274 := n6_
    have NB275_283 := n7_
    have NB283_275 := n8_
    have HB := n9_
    clear n0_ n1_ n2_ n3_ n4_ n5_ n6_ n7_ n8_ n9_
    have hHeld : w18.cell? ⟨gb274, 0, none⟩ = some (.slice A0_0 l0_0.length c0_0) ∧ w18.cell? ⟨gb274, 1, none⟩ = some (.int .i64 a0_1) := hS_
    refine norm_ (a' := ?_) ?_ ?_
    rotate_left
    ·simp only [putAll, Act.put, List.setIfInBounds_toArray, List.set_cons_zero, List.set_cons_succ]
     rfl
    refine one_ (i := 6) (N := some 8) #[true, true, true, true, true, true, true, true, false, false] rfl rfl (one_of HT_.out (by kernel_rfl)) (by decide) (fun K hK => ?_)
    refine box_step ?hg (N := 8) ?hd (cs := #[.int .i64 0, .int .i64 0]) (t := 43) ?hr ?_; (case hd => rfl); (case hg => rfl); (case hr => first | (go_simp; done) | (go_simp; rfl))
    intro gb282 hg w19 hbox hb
    have n0_ := Aside0.mk (blk_below (g := gb274) (o := .cells #[.slice A0_0 l0_0.length c0_0, .int .i64 a0_1] 24 (0, 0)) (by exact BK274.out) hb)
    have n1_ := Aside0.mk (blk_below (g := gb275) (o := .cells #[.int .i64 0, .int .i64 0, .int .i64 0, .int .i64 0] 48 (0, 0)) (by exact BK275.out) hb)
    have n2_ := Aside0.mk (blk_below (g := gb283) (o := .cells #[.int .i64 0, .int .i64 0] 43 (0, 0)) (by exact BK283.out) hb)
    have n3_ := Aside0.mk (below_step qn2 hb)
    have n4_ := Aside0.mk (hbox)
    have n5_ := Aside0.mk ((by rw [hg]; exact (below_size qn2) : w.heap.size ≤ gb282))
    have n6_ := Aside0.mk ((by rw [hg]; exact (below_size qn2) : w.heap.size ≤ gb282))
    have n7_ := Aside0.mk ((by rw [hg]; exact Nat.ne_of_lt (blk_lt (g := gb274) (o := .cells #[.slice A0_0 l0_0.length c0_0, .int .i64 a0_1] 24 (0, 0)) (by exact BK274.out)) : gb274 ≠ gb282))
    have n8_ := Aside0.mk ((by rw [hg]; exact Nat.ne_of_gt (blk_lt (g := gb274) (o := .cells #[.slice A0_0 l0_0.length c0_0, .int .i64 a0_1] 24 (0, 0)) (by exact BK274.out)) : gb282 ≠ gb274))
    have n9_ := Aside0.mk ((by rw [hg]; exact Nat.ne_of_lt (blk_lt (g := gb275) (o := .cells #[.int .i64 0, .int .i64 0, .int .i64 0, .int .i64 0] 48 (0, 0)) (by exact BK275.out)) : gb275 ≠ gb282))
    have n10_ := Aside0.mk ((by rw [hg]; exact Nat.ne_of_gt (blk_lt (g := gb275) (o := .cells #[.int .i64 0, .int .i64 0, .int .i64 0, .int .i64 0] 48 (0, 0)) (by exact BK275.out)) : gb282 ≠ gb275))
    have n11_ := Aside0.mk ((by rw [hg]; exact Nat.ne_of_lt (blk_lt (g := gb283) (o := .cells #[.int .i64 0, .int .i64 0] 43 (0, 0)) (by exact BK283.out)) : gb283 ≠ gb282))
    have n12_ := Aside0.mk ((by rw [hg]; exact Nat.ne_of_gt (blk_lt (g := gb283) (o := .cells #[.int .i64 0, .int .i64 0] 43 (0, 0)) (by exact BK283.out)) : gb282 ≠ gb283))
    clear BK274 BK275 BK283 HB
    have BK274 := n0_
    have BK275 := n1_
    have BK283 := n2_
    have HB := n3_
    have BK282 := n4_
    have GW282 := n5_
    have GE282 := n6_
    have NB274_282 := n7_
    have NB282_274 := n8_
    have NB275_282 := n9_
    have NB282_275 := n10_
    have NB283_282 := n11_
    have NB282_283 := n12_
    clear n0_ n1_ n2_ n3_ n4_ n5_ n6_ n7_ n8_ n9_ n10_ n11_ n12_ hb hbox hg
    refine hK.out _ _ ⟨(blk_cell BK274.out 0).trans rfl, (blk_cell BK274.out 1).trans rfl⟩ (fun hHeld => ?_)
    clear hK K
    refine norm_ (a' := ?_) ?_ ?_
    rotate_left
    ·show Act.put _ (some 8) _ = _
     simp only [Act.put, List.setIfInBounds_toArray, List.set_cons_zero, List.set_cons_succ, i64_w, i32_w]
     rfl
    exact norm_ qn4 (hJ2_5_6_7 (gb282, gb283) _ ⟨hHeld, (by exact BK274.out), (by exact BK275.out), (by exact BK282.out), (by exact BK283.out), GW282.out, GE282.out, NB274_282.out, NB282_274.out, NB275_282.out, NB282_275.out, NB283_282.out, NB282_283.out, GW283.out, GE283.out, NB274_283.out, NB283_274.out, NB275_283.out, NB283_275.out, qn2⟩)
   skip
   rintro gb282 w18 ⟨hS_, h0_, h1_, h2_, h3_, h4_, h5_, h6_, h7_, h8_, h9_⟩
   have n0_ : Aside0 (w18.heap[gb274]? = some (.cells #[.slice A0_0 l0_0.length c0_0, .int .i64 a0_1] 24 (0, 0))) := ⟨h0_⟩
   have n1_ : Aside0 (w18.heap[gb275]? = some (.cells #[.int .i64 0, .int .i64 0, .int .i64 0, .int .i64 0] 48 (0, 0))) := ⟨h1_⟩
   have n2_ : Aside0 (w18.heap[gb282]? = some (.cells #[.int .i64 0, .int .i64 0] 43 (0, 0))) := ⟨h2_⟩
   have n3_ : Aside0 (w.heap.size ≤ gb282) := ⟨h3_⟩
   have n4_ : Aside0 (w.heap.size ≤ gb282) := ⟨h4_⟩
   have n5_ : Aside0 (gb274 ≠ gb282) := ⟨h5_⟩
   have n6_ : Aside0 (gb282 ≠ gb274) := ⟨h6_⟩
   have n7_ : Aside0 (gb275 ≠ gb282) := ⟨h7_⟩
   have n8_ : Aside0 (gb282 ≠ gb275) := ⟨h8_⟩
   have n9_ : Aside0 (Below w.heap.size w w18) := ⟨h9_⟩
   clear BK274 BK275 HB h0_ h1_ h2_ h3_ h4_ h5_ h6_ h7_ h8_ h9_
   have BK274 := n0_
   have BK275 := n1_
   have BK282 := n2_
   have GW282 := n3_
   have GE282 := n4_
   have NB274_282 := n5_
   have NB282_274 := n6_
   have NB275_282 := n7_
   have NB282_275 := n8_
   have HB := n9_
   clear n0_ n1_ n2_ n3_ n4_ n5_ n6_ n7_ n8_ n9_
   have hHeld : w18.cell? ⟨gb274, 0, none⟩ = some (.slice A0_0 l0_0.length c0_0) ∧ w18.cell? ⟨gb274, 1, none⟩ = some (.int .i64 a0_1) := hS_
   refine norm_ (a' := ?_) ?_ ?_
   rotate_left
   ·simp only [putAll, Act.put, List.setIfInBounds_toArray, List.set_cons_zero, List.set_cons_succ]
    rfl
   refine one_ (i := 7) (N := some 9) #[true, true, true, true, true, true, true, true, false, false] rfl rfl (one_of HT_.out (by kernel_rfl)) (by decide) (fun K hK => ?_)
   refine box_step ?hg (N := 9) ?hd (cs := #[.int .i64 0, .int .i64 0]) (t := 43) ?hr ?_; (case hd => rfl); (case hg => rfl); (case hr => first | (go_simp; done) | (go_simp; rfl))
   intro gb283 hg w19 hbox hb
   have n0_ := Aside0.mk (blk_below (g := gb274) (o := .cells #[.slice A0_0 l0_0.length c0_0, .int .i64 a0_1] 24 (0, 0)) (by exact BK274.out) hb)
   have n1_ := Aside0.mk (blk_below (g := gb275) (o := .cells #[.int .i64 0, .int .i64 0, .int .i64 0, .int .i64 0] 48 (0, 0)) (by exact BK275.out) hb)
   have n2_ := Aside0.mk (blk_below (g := gb282) (o := .cells #[.int .i64 0, .int .i64 0] 43 (0, 0)) (by exact BK282.out) hb)
   have n3_ := Aside0.mk (below_step qn2 hb)
   have n4_ := Aside0.mk (hbox)
   have n5_ := Aside0.mk ((by rw [hg]; exact (below_size qn2) : w.heap.size ≤ gb283))
   have n6_ := Aside0.mk ((by rw [hg]; exact (below_size qn2) : w.heap.size ≤ gb283))
   have n7_ := Aside0.mk ((by rw [hg]; exact Nat.ne_of_lt (blk_lt (g := gb274) (o := .cells #[.slice A0_0 l0_0.length c0_0, .int .i64 a0_1] 24 (0, 0)) (by exact BK274.out)) : gb274 ≠ gb283))
   have n8_ := Aside0.mk ((by rw [hg]; exact Nat.ne_of_gt (blk_lt (g := gb274) (o := .cells #[.slice A0_0 l0_0.length c0_0, .int .i64 a0_1] 24 (0, 0)) (by exact BK274.out)) : gb283 ≠ gb274))
   have n9_ := Aside0.mk ((by rw [hg]; exact Nat.ne_of_lt (blk_lt (g := gb275) (o := .cells #[.int .i64 0, .int .i64 0, .int .i64 0, .int .i64 0] 48 (0, 0)) (by exact BK275.out)) : gb275 ≠ gb283))
   have n10_ := Aside0.mk ((by rw [hg]; exact Nat.ne_of_gt (blk_lt (g := gb275) (o := .cells #[.int .i64 0, .int .i64 0, .int .i64 0, .int .i64 0] 48 (0, 0)) (by exact BK275.out)) : gb283 ≠ gb275))
   have n11_ := Aside0.mk ((by rw [hg]; exact Nat.ne_of_lt (blk_lt (g := gb282) (o := .cells #[.int .i64 0, .int .i64 0] 43 (0, 0)) (by exact BK282.out)) : gb282 ≠ gb283))
   have n12_ := Aside0.mk ((by rw [hg]; exact Nat.ne_of_gt (blk_lt (g := gb282) (o := .cells #[.int .i64 0, .int .i64 0] 43 (0, 0)) (by exact BK282.out)) : gb283 ≠ gb282))
   clear BK274 BK275 BK282 HB
   have BK274 := n0_
   have BK275 := n1_
   have BK282 := n2_
   have HB := n3_
   have BK283 := n4_
   have GW283 := n5_
   have GE283 := n6_
   have NB274_283 := n7_
   have NB283_274 := n8_
   have NB275_283 := n9_
   have NB283_275 := n10_
   have NB282_283 := n11_
   have NB283_282 := n12_
   clear n0_ n1_ n2_ n3_ n4_ n5_ n6_ n7_ n8_ n9_ n10_ n11_ n12_ hb hbox hg
   refine hK.out _ _ ⟨(blk_cell BK274.out 0).trans rfl, (blk_cell BK274.out 1).trans rfl⟩ (fun hHeld => ?_)
   clear hK K
   refine norm_ (a' := ?_) ?_ ?_
   rotate_left
   ·show Act.put _ (some 9) _ = _
    simp only [Act.put, List.setIfInBounds_toArray, List.set_cons_zero, List.set_cons_succ, i64_w, i32_w]
    rfl
   exact norm_ qn4 (hJ2_5_6_7 (gb282, gb283) _ ⟨hHeld, (by exact BK274.out), (by exact BK275.out), (by exact BK282.out), (by exact BK283.out), GW282.out, GE282.out, NB274_282.out, NB282_274.out, NB275_282.out, NB282_275.out, NB283_282.out, NB282_283.out, GW283.out, GE283.out, NB274_283.out, NB283_274.out, NB275_283.out, NB283_275.out, qn2⟩)
  rintro ⟨gb282, gb283⟩ w19 ⟨hS_, h0_, h1_, h2_, h3_, h4_, h5_, h6_, h7_, h8_, h9_, h10_, h11_, h12_, h13_, h14_, h15_, h16_, h17_, h18_⟩
  have n0_ : Aside0 (w19.heap[gb274]? = some (.cells #[.slice A0_0 l0_0.length c0_0, .int .i64 a0_1] 24 (0, 0))) := ⟨h0_⟩
  have n1_ : Aside0 (w19.heap[gb275]? = some (.cells #[.int .i64 0, .int .i64 0, .int .i64 0, .int .i64 0] 48 (0, 0))) := ⟨h1_⟩
  have n2_ : Aside0 (w19.heap[gb282]? = some (.cells #[.int .i64 0, .int .i64 0] 43 (0, 0))) := ⟨h2_⟩
  have n3_ : Aside0 (w19.heap[gb283]? = some (.cells #[.int .i64 0, .int .i64 0] 43 (0, 0))) := ⟨h3_⟩
  have n4_ : Aside0 (w.heap.size ≤ gb282) := ⟨h4_⟩
  have n5_ : Aside0 (w.heap.size ≤ gb282) := ⟨h5_⟩
  have n6_ : Aside0 (gb274 ≠ gb282) := ⟨h6_⟩
  have n7_ : Aside0 (gb282 ≠ gb274) := ⟨h7_⟩
  have n8_ : Aside0 (gb275 ≠ gb282) := ⟨h8_⟩
  have n9_ : Aside0 (gb282 ≠ gb275) := ⟨h9_⟩
  have n10_ : Aside0 (gb283 ≠ gb282) := ⟨h10_⟩
  have n11_ : Aside0 (gb282 ≠ gb283) := ⟨h11_⟩
  have n12_ : Aside0 (w.heap.size ≤ gb283) := ⟨h12_⟩
  have n13_ : Aside0 (w.heap.size ≤ gb283) := ⟨h13_⟩
  have n14_ : Aside0 (gb274 ≠ gb283) := ⟨h14_⟩
  have n15_ : Aside0 (gb283 ≠ gb274) := ⟨h15_⟩
  have n16_ : Aside0 (gb275 ≠ gb283) := ⟨h16_⟩
  have n17_ : Aside0 (gb283 ≠ gb275) := ⟨h17_⟩
  have n18_ : Aside0 (Below w.heap.size w w19) := ⟨h18_⟩
  clear BK274 BK275 HB h0_ h1_ h2_ h3_ h4_ h5_ h6_ h7_ h8_ h9_ h10_ h11_ h12_ h13_ h14_ h15_ h16_ h17_ h18_
  have BK274 := n0_
  have BK275 := n1_
  have BK282 := n2_
  have BK283 := n3_
  have GW282 := n4_
  have GE282 := n5_
  have NB274_282 := n6_
  have NB282_274 := n7_
  have NB275_282 := n8_
  have NB282_275 := n9_
  have NB283_282 := n10_
  have NB282_283 := n11_
  have GW283 := n12_
  have GE283 := n13_
  have NB274_283 := n14_
  have NB283_274 := n15_
  have NB275_283 := n16_
  have NB283_275 := n17_
  have HB := n18_
  clear n0_ n1_ n2_ n3_ n4_ n5_ n6_ n7_ n8_ n9_ n10_ n11_ n12_ n13_ n14_ n15_ n16_ n17_ n18_
  have hHeld : w19.cell? ⟨gb274, 0, none⟩ = some (.slice A0_0 l0_0.length c0_0) ∧ w19.cell? ⟨gb274, 1, none⟩ = some (.int .i64 a0_1) := hS_
  refine norm_ (a' := ?_) ?_ ?_
  rotate_left
  ·simp only [putAll, Act.put, List.setIfInBounds_toArray, List.set_cons_zero, List.set_cons_succ]
   rfl
  refine one_ (i := 8) (N := none) #[true, true, true, true, true, true, true, true, true, false] rfl rfl (one_of HT_.out (by kernel_rfl)) (by decide) (fun K hK => ?_)
  have hs20 : w19.cell? ⟨gb282, 0, none⟩ = some (.int .i64 0) := (blk_cell BK282.out 0).trans rfl
  have hfs20 := blk_frozen BK282.out 0
  have hns20_0 := NB274_282.out
  have hns20_1 := NB275_282.out
  have hns20_3 := NB283_282.out
  have hms20_0 := NB282_274.out
  have hms20_1 := NB282_275.out
  have hms20_3 := NB282_283.out
  have hs21 : w19.cell? ⟨gb282, 1, none⟩ = some (.int .i64 0) := (blk_cell BK282.out 1).trans rfl
  have hfs21 := blk_frozen BK282.out 1
  have hns21_0 := NB274_282.out
  have hns21_1 := NB275_282.out
  have hns21_3 := NB283_282.out
  have hms21_0 := NB282_274.out
  have hms21_1 := NB282_275.out
  have hms21_3 := NB282_283.out
  refine skip_ (w1 := ?_) (by rfl) rfl ?_ ?_
  rotate_left
  ·go_simp
   rfl
  refine hK.out _ _ ⟨((cell_far (p := ⟨gb282, _, none⟩) NB274_282.out _).trans (((cell_far (p := ⟨gb282, _, none⟩) NB274_282.out _).trans (hHeld.1)))), ((cell_far (p := ⟨gb282, _, none⟩) NB274_282.out _).trans (((cell_far (p := ⟨gb282, _, none⟩) NB274_282.out _).trans (hHeld.2))))⟩ (fun hHeld => ?_)
  clear hK K
  refine one_ (i := 9) (N := none) #[true, true, true, true, true, true, true, true, true, true] rfl rfl (one_of HT_.out (by kernel_rfl)) (by decide) (fun K hK => ?_)
  have hs22 : w19.cell? ⟨gb283, 0, none⟩ = some (.int .i64 0) := (blk_cell BK283.out 0).trans rfl
  have hfs22 := blk_frozen BK283.out 0
  have hns22_0 := NB274_283.out
  have hns22_1 := NB275_283.out
  have hns22_2 := NB282_283.out
  have hms22_0 := NB283_274.out
  have hms22_1 := NB283_275.out
  have hms22_2 := NB283_282.out
  have hs23 : w19.cell? ⟨gb283, 1, none⟩ = some (.int .i64 0) := (blk_cell BK283.out 1).trans rfl
  have hfs23 := blk_frozen BK283.out 1
  have hns23_0 := NB274_283.out
  have hns23_1 := NB275_283.out
  have hns23_2 := NB282_283.out
  have hms23_0 := NB283_274.out
  have hms23_1 := NB283_275.out
  have hms23_2 := NB283_282.out
  refine skip_ (w1 := ?_) (by rfl) rfl ?_ ?_
  rotate_left
  ·go_simp
   rfl
  refine hK.out _ _ ⟨((cell_far (p := ⟨gb283, _, none⟩) NB274_283.out _).trans (((cell_far (p := ⟨gb283, _, none⟩) NB274_283.out _).trans (hHeld.1)))), ((cell_far (p := ⟨gb283, _, none⟩) NB274_283.out _).trans (((cell_far (p := ⟨gb283, _, none⟩) NB274_283.out _).trans (hHeld.2))))⟩ (fun hHeld => ?_)
  clear hK K
  refine done_ (done_of HT_.out (by kernel_rfl)) ?_
  have hnb24 := NB274_282.out
  have hnc24 := NB282_274.out
  have hnb25 := NB274_283.out
  have hnc25 := NB283_274.out
  have hcz26_0 : w19.cell? ⟨gb274, 0, none⟩ = some (.slice A0_0 l0_0.length c0_0) := (blk_cell BK274.out 0).trans rfl
  have hcz26_1 : w19.cell? ⟨gb274, 1, none⟩ = some (.int .i64 a0_1) := (blk_cell BK274.out 1).trans rfl
  have hfz26_0 := blk_frozen BK274.out 0
  have hfz26_1 := blk_frozen BK274.out 1
  try go_wp2_with (first | ((with_reducible refine gate_callee (f := 69) rfl ?_); refine goesL_ (some 38) rfl rfl Try.func69 (by kernel_rfl) rfl #[.agg #[.slice A0_0 l0_0.length c0_0, .int .i64 a0_1]] rfl qn1 ?_; (with_reducible refine (forecourtref01_extremes.calls k _ _ l0_0 a0_1 t284 _ ?side1 ?side2 A8.out).mono ?_); (case side1 => exact Kd.C_below HR0_0.out qn24); (case side2 => exact HC0_0.out); rintro e w27 ⟨v285, rfl, ho0, hb⟩; refine ⟨_, rfl, ?_⟩; have n0_ := Aside0.mk (Kd.S_lower ho0 (below_size qn24)); have n1_ := Aside0.mk (blk_below (g := gb274) (o := .cells #[.slice A0_0 l0_0.length c0_0, .int .i64 a0_1] 24 (0, 0)) (by (skip); refine blk_far ?_ NB274_283.out _; (skip); refine blk_far ?_ NB274_283.out _; (skip); refine blk_far ?_ NB274_282.out _; (skip); refine blk_far ?_ NB274_282.out _; (skip); exact BK274.out) hb); have n2_ := Aside0.mk (blk_below (g := gb275) (o := .cells #[.int .i64 0, .int .i64 0, .int .i64 0, .int .i64 0] 48 (0, 0)) (by (skip); refine blk_far ?_ NB275_283.out _; (skip); refine blk_far ?_ NB275_283.out _; (skip); refine blk_far ?_ NB275_282.out _; (skip); refine blk_far ?_ NB275_282.out _; (skip); exact BK275.out) hb); have n3_ := Aside0.mk (blk_below (g := gb282) (o := .cells #[.int .i64 t278, .int .i64 t279] 43 (0, 0)) (by (skip); refine blk_far ?_ NB282_283.out _; (skip); refine blk_far ?_ NB282_283.out _; (skip); refine blk_put (cs := #[.int .i64 t278, .int .i64 0]) ?_ 1 _ rfl; (skip); refine blk_put (cs := #[.int .i64 0, .int .i64 0]) ?_ 0 _ rfl; (skip); exact BK282.out) hb); have n4_ := Aside0.mk (blk_below (g := gb283) (o := .cells #[.int .i64 t280, .int .i64 t281] 43 (0, 0)) (by (skip); refine blk_put (cs := #[.int .i64 t280, .int .i64 0]) ?_ 1 _ rfl; (skip); refine blk_put (cs := #[.int .i64 0, .int .i64 0]) ?_ 0 _ rfl; (skip); refine blk_far ?_ NB283_282.out _; (skip); refine blk_far ?_ NB283_282.out _; (skip); exact BK283.out) hb); have n5_ := Aside0.mk (below_step qn24 hb); clear BK274; clear BK275; clear BK282; clear BK283; clear HB; have HO286 := n0_; have BK274 := n1_; have BK275 := n2_; have BK282 := n3_; have BK283 := n4_; have HB := n5_; clear n0_ n1_ n2_ n3_ n4_ n5_; (try clear hb); (try clear hb2); (try clear hk); (try clear hi); (try clear ho0)))
  go_loopg [11, 12, 13] k (fun kq v11 v12 v13 w' => ∃ (x11_1 : Int) (x12_1 : Int) (x13_1 : Int), v11 = .int .i64 x11_1 ∧ v12 = .int .i64 x12_1 ∧ v13 = .int .i64 x13_1 ∧ Aside0 (forecourtref01_Net.l0 kq t284 x11_1 x12_1 x13_1 l0_0 a0_1 t278 t279 t280 t281 = some (r1, r2, r3, r4, r5)) ∧ Aside0 (kq ≤ k) ∧ Aside0 (Kd.S (Kd.slice 2 (Kd.int .i64)) 25 w' w.heap.size (fun _ => True) v285 t284) ∧ Aside0 (w'.heap[gb274]? = some (.cells #[(.slice A0_0 l0_0.length c0_0), .int .i64 a0_1] 24 (0, 0))) ∧ Aside0 (w'.heap[gb275]? = some (.cells #[.int .i64 0, .int .i64 0, .int .i64 0, .int .i64 0] 48 (0, 0))) ∧ Aside0 (w'.heap[gb282]? = some (.cells #[.int .i64 t278, .int .i64 t279] 43 (0, 0))) ∧ Aside0 (w'.heap[gb283]? = some (.cells #[.int .i64 t280, .int .i64 t281] 43 (0, 0))) ∧ Aside0 (Below w.heap.size w w'))
  case atStart => exact ⟨(0), (1), (0), qn5, qn5, qn5, H', ⟨Nat.le_refl _⟩, ⟨by (skip); exact HO286.out⟩, ⟨by (skip); exact BK274.out⟩, ⟨by (skip); exact BK275.out⟩, ⟨by (skip); exact BK282.out⟩, ⟨by (skip); exact BK283.out⟩, ⟨by (with_reducible exact HB.out)⟩⟩
  case round =>
   clear H'
   try clear c2
   try clear p2
   try clear c4
   try clear c6
   try clear c24
   try clear c25
   try clear hcz26_0
   try clear hcz26_1
   try clear hfz26_0
   try clear hfz26_1
   obtain ⟨x11_1, x12_1, x13_1, rfl, rfl, rfl, HA, HK1, HO_10, BK274, BK275, BK282, BK283, HB⟩ := hrel
   cases gk with
   | zero => exact absurd HA.out (by simp [forecourtref01_Net.l0])
   | succ k1 =>
    have H := HA.out
    clear HA
    simp only [forecourtref01_Net.l0] at H
    by_cases c28 : x13_1 < (t284.length : Int)
    ·rw [if_pos c28] at H
     have c28b0 : decide (x13_1 < (t284.length : Int)) = true := decide_eq_true c28
     clear c28
     by_cases c29 : 0 ≤ x13_1
     ·rw [if_pos c29] at H
      have c29b0 : decide (0 ≤ x13_1) = true := decide_eq_true c29
      clear c29
      replace H := Option.bind_eq_some_iff.mp H
      obtain ⟨⟨t288, t289⟩, A300, H⟩ := H
      replace H : (forecourtref01_Net.l0 k1 t284 (mx x11_1 t288) t289 (wrap64 (x13_1 + 1)) l0_0 a0_1 t278 t279 t280 t281) = some (r1, r2, r3, r4, r5) := H
      have A30 := Aside0.mk A300
      clear A300
      obtain ⟨ji31, hji31⟩ : ∃ j_ : Int, (mx x11_1 t288) = j_ := ⟨_, rfl⟩
      replace H : (forecourtref01_Net.l0 k1 t284 ji31 t289 (wrap64 (x13_1 + 1)) l0_0 a0_1 t278 t279 t280 t281) = some (r1, r2, r3, r4, r5) := by first | (rw [hji31] at H; exact H) | (simp only [hji31] at H ⊢; exact H)
      (try rw [hji31] at A30)
      have hji31_ : (if x11_1 < t288 then t288 else x11_1) = ji31 := hji31
      have H' := Aside0.mk H
      clear H
      obtain ⟨Ao32, co32, eo32⟩ := Kd.S_slice HO_10.out
      subst eo32
      try go_wp2
      have n0_ := Aside0.mk (Kd.S_drew HO_10.out)
      have n1_ := Aside0.mk (blk_drew BK274.out)
      have n2_ := Aside0.mk (blk_drew BK275.out)
      have n3_ := Aside0.mk (blk_drew BK282.out)
      have n4_ := Aside0.mk (blk_drew BK283.out)
      have n5_ := Aside0.mk (below_drew1 HB.out)
      clear HO_10 BK274 BK275 BK282 BK283 HB
      have HO_10 := n0_
      have BK274 := n1_
      have BK275 := n2_
      have BK282 := n3_
      have BK283 := n4_
      have HB := n5_
      clear n0_ n1_ n2_ n3_ n4_ n5_
      have p287 : 0 ≤ (x13_1 : Int) := of_decide_eq_true qn0
      have q287 : x13_1 < (t284.length : Int) := of_decide_eq_true qn0
      obtain ⟨ad287, A287_0, c287_0, e287, hx287_0, hl287_0, hi287_0⟩ := at_L7 (Kd.S_reads' HO_10.out).2.2 x13_1 p287 q287
      cases e287
      obtain ⟨ce287, hce287, hMe287, hcc287⟩ := Kd.S_get HO_10.out [] x13_1 p287 (by first | exact q287 | exact of_decide_eq_true qn0 | (have e_ := (Kd.S_reads' HO_10.out).1; omega))
      obtain ⟨ve287_0, rfl, ge287_0⟩ := hMe287
      have hv287_0 := hcc287 0 _ rfl
      rw [Nat.add_zero, show ((Kd.slice 2 (Kd.int .i64))).sz = 1 from rfl, Nat.mul_one] at hv287_0
      replace hv287_0 := Option.some.inj (hv287_0.symm.trans hx287_0)
      rw [hv287_0] at ge287_0
      have HL287_0 := Aside0.mk (show Kd.R (Kd.int .i64) 2 _ _ _ _ (rd_L7 t284 x13_1) from ge287_0)
      clear hv287_0 ge287_0 hcc287 hce287
      have HR287_0 := Aside0.mk hi287_0
      have HC287_0 := Aside0.mk hl287_0
      clear hi287_0 hl287_0
      replace p287 := eq_true p287
      replace q287 := eq_true q287
      refine start_ (n := 15) (S := fun w' => w'.cell? ⟨gb274, 0, none⟩ = some (.slice A0_0 l0_0.length c0_0) ∧ w'.cell? ⟨gb274, 1, none⟩ = some (.int .i64 a0_1) ∧ w'.cell? ⟨gb282, 0, none⟩ = some (.int .i64 t278) ∧ w'.cell? ⟨gb282, 1, none⟩ = some (.int .i64 t279) ∧ w'.cell? ⟨gb283, 0, none⟩ = some (.int .i64 t280) ∧ w'.cell? ⟨gb283, 1, none⟩ = some (.int .i64 t281) ∧ w'.cell? (ad287.add (x13_1).toNat) = some (.slice A287_0 (rd_L7 t284 x13_1).length c287_0)) (ds := []) #[false, false, false, false, false, false, false, false, false, false, false, false, false, false, false] (by kernel_rfl) rfl rfl ⟨(blk_cell BK274.out 0).trans rfl, (blk_cell BK274.out 1).trans rfl, (blk_cell BK282.out 0).trans rfl, (blk_cell BK282.out 1).trans rfl, (blk_cell BK283.out 0).trans rfl, (blk_cell BK283.out 1).trans rfl, hx287_0⟩ (fun hHeld => ?_); refine with_tabW forecourtref01_Net.tab9 forecourtref01_Net.bits9 (fun HT_ HW_ => ?_)
      generalize wr.drew = w33 at HO_10 BK274 BK275 BK282 BK283 HB HL287_0 HR287_0 hx287_0 hHeld ⊢
      refine pureT (i := 1) (N := some 47) HT_.out ?_
      refine pureT (i := 2) (N := some 48) HT_.out ?_
      refine pureT (i := 3) (N := some 49) HT_.out ?_
      refine pureT (i := 5) (N := some 51) HT_.out ?_
      refine pureT (i := 7) (N := some 53) HT_.out ?_
      refine takeT (i := 0) (N := some 46) HT_.out HW_.out hHeld (hy := by (rintro w' ⟨s0, s1, s2, s3, s4, s5, s6⟩; go_simp; with_reducible rfl)) (h := ?_)
      refine takeT (i := 4) (N := some 50) HT_.out HW_.out hHeld (hy := by (rintro w' ⟨s0, s1, s2, s3, s4, s5, s6⟩; go_simp; with_reducible rfl)) (h := ?_)
      refine takeT (i := 6) (N := some 52) HT_.out HW_.out hHeld (hy := by (rintro w' ⟨s0, s1, s2, s3, s4, s5, s6⟩; go_simp; with_reducible rfl)) (h := ?_)
      refine takeT (i := 8) (N := some 54) HT_.out HW_.out hHeld (hy := by (rintro w' ⟨s0, s1, s2, s3, s4, s5, s6⟩; go_simp; with_reducible rfl)) (h := ?_)
      refine one_ (i := 9) (N := some 55) #[true, true, true, true, true, true, true, true, true, true, false, false, false, false, false] rfl rfl (one_of HT_.out (by kernel_rfl)) (by decide) (fun K hK => ?_)
      refine goes_ Try.func70 (by kernel_rfl) rfl #[.agg #[.slice A0_0 l0_0.length c0_0, .int .i64 a0_1], .slice A287_0 (rd_L7 t284 x13_1).length c287_0, .int .i64 t278, .int .i64 t281] (by rfl) rfl rfl qn1 ?_
      with_reducible refine (forecourtref01_between.calls k1 _ _ l0_0 a0_1 _ _ (rd_L7 t284 x13_1) t278 t281 t288 t289 _ ?side1 ?side2 ?side3 ?side4 A30.out).mono ?_
      (case side1 => (exact (Kd.C_below HR0_0.out HB.out)))
      (case side2 => exact HC0_0.out)
      (case side3 => (exact (by repeat (first | (with_reducible exact HR287_0.out) | (with_reducible refine Kd.C_alloc ?_ _) | (with_reducible refine Kd.C_drewN ?_ _) | (with_reducible refine Kd.C_drew ?_) | exact HR287_0.out))))
      (case side4 => exact HC287_0.out)
      rintro e w34 ⟨rfl, hb⟩
      have HS6_ := (hb.cell (World.block_lt_of_cell? _ _ (hHeld.2.2.2.2.2.2))).trans (hHeld.2.2.2.2.2.2)
      refine ⟨_, rfl, ?_⟩
      have n0_ := Aside0.mk (Kd.S_below (by exact HO_10.out) hb)
      have n1_ := Aside0.mk (Kd.R_below (by exact HL287_0.out) hb)
      have n2_ := Aside0.mk (blk_below (g := gb274) (o := .cells #[.slice A0_0 l0_0.length c0_0, .int .i64 a0_1] 24 (0, 0)) (by exact BK274.out) hb)
      have n3_ := Aside0.mk (blk_below (g := gb275) (o := .cells #[.int .i64 0, .int .i64 0, .int .i64 0, .int .i64 0] 48 (0, 0)) (by exact BK275.out) hb)
      have n4_ := Aside0.mk (blk_below (g := gb282) (o := .cells #[.int .i64 t278, .int .i64 t279] 43 (0, 0)) (by exact BK282.out) hb)
      have n5_ := Aside0.mk (blk_below (g := gb283) (o := .cells #[.int .i64 t280, .int .i64 t281] 43 (0, 0)) (by exact BK283.out) hb)
      have n6_ := Aside0.mk (Kd.C_below (by ((with_reducible exact HR287_0.out))) hb)
      have n7_ := Aside0.mk (below_step qn2 hb)
      clear HO_10 HL287_0 BK274 BK275 BK282 BK283 HR287_0 HB
      have HO_10 := n0_
      have HL287_0 := n1_
      have BK274 := n2_
      have BK275 := n3_
      have BK282 := n4_
      have BK283 := n5_
      have HR287_0 := n6_
      have HB := n7_
      clear n0_ n1_ n2_ n3_ n4_ n5_ n6_ n7_
      (try clear hb)
      refine hK.out _ _ ⟨(blk_cell BK274.out 0).trans rfl, (blk_cell BK274.out 1).trans rfl, (blk_cell BK282.out 0).trans rfl, (blk_cell BK282.out 1).trans rfl, (blk_cell BK283.out 0).trans rfl, (blk_cell BK283.out 1).trans rfl, HS6_⟩ (fun hHeld => ?_)
      clear hK K
      refine norm_ (a' := ?_) ?_ ?_
      rotate_left
      ·show Act.put _ (some 55) _ = _
       simp only [Act.put, List.setIfInBounds_toArray, List.set_cons_zero, List.set_cons_succ, i64_w, i32_w]
       rfl
      refine pureT (i := 10) (N := some 45) HT_.out ?_
      refine pureT (i := 11) (N := some 56) HT_.out ?_
      refine pureT (i := 12) (N := some 57) HT_.out ?_
      refine pureT (i := 13) (N := some 14) HT_.out ?_
      refine pureT (i := 14) (N := some 15) HT_.out ?_
      refine done_ (done_of HT_.out (by kernel_rfl)) ?_
      try go_wp2
      go_roundg k1
      case measure => have := HK1.out; omega
      case rel => exact ⟨(ji31), (t289), (wrap64 (x13_1 + 1)), (by first | rfl | (simp; done) | (simp only [← hji31] <;> (first | rfl | simp)) | (simp [*]; done)), qn5, qn5, H', ⟨by have := HK1.out; omega⟩, ⟨by (skip); exact HO_10.out⟩, ⟨by (skip); exact BK274.out⟩, ⟨by (skip); exact BK275.out⟩, ⟨by (skip); exact BK282.out⟩, ⟨by (skip); exact BK283.out⟩, ⟨by (with_reducible exact HB.out)⟩⟩
     rw [if_neg c29] at H
     exact absurd H (by simp)
    rw [if_neg c28] at H
    have c28b0 : decide (x13_1 < (t284.length : Int)) = false := decide_eq_false c28
    clear c28
    replace H := Option.bind_eq_some_iff.mp H
    obtain ⟨⟨t290, t291⟩, A350, H⟩ := H
    replace H : (if t279 < t280 then (forecourtref01_Net.l1 k1 t284 x12_1 (-1) 0 l0_0 a0_1 t278 t279 t280 t281 0 1 t290 t291) else (some (0, 1, t290, t291, 0))) = some (r1, r2, r3, r4, r5) := H
    have A35 := Aside0.mk A350
    clear A350
    by_cases c36 : t279 < t280
    ·rw [if_pos c36] at H
     have c36b0 : decide (t279 < t280) = true := decide_eq_true c36
     clear c36
     have H' := Aside0.mk H
     clear H
     obtain ⟨Ao37, co37, eo37⟩ := Kd.S_slice HO_10.out
     subst eo37
     go_wp2_with (first | ((with_reducible refine gate_callee (f := 50) rfl ?_); refine goesL_ (some 65) rfl rfl Try.func50 (by kernel_rfl) rfl #[.int .i64 x11_1, .int .i64 x12_1] rfl qn1 ?_; (with_reducible refine (forecourtref01_Fraction.calls k1 x11_1 x12_1 t290 t291 _ A35.out).mono ?_); rintro e w38 ⟨rfl, hb⟩; refine ⟨_, rfl, ?_⟩; have n0_ := Aside0.mk (Kd.S_below (by exact HO_10.out) hb); have n1_ := Aside0.mk (blk_below (g := gb274) (o := .cells #[.slice A0_0 l0_0.length c0_0, .int .i64 a0_1] 24 (0, 0)) (by exact BK274.out) hb); have n2_ := Aside0.mk (blk_below (g := gb275) (o := .cells #[.int .i64 0, .int .i64 0, .int .i64 0, .int .i64 0] 48 (0, 0)) (by exact BK275.out) hb); have n3_ := Aside0.mk (blk_below (g := gb282) (o := .cells #[.int .i64 t278, .int .i64 t279] 43 (0, 0)) (by exact BK282.out) hb); have n4_ := Aside0.mk (blk_below (g := gb283) (o := .cells #[.int .i64 t280, .int .i64 t281] 43 (0, 0)) (by exact BK283.out) hb); have n5_ := Aside0.mk (below_step qn2 hb); clear HO_10; clear BK274; clear BK275; clear BK282; clear BK283; clear HB; have HO_10 := n0_; have BK274 := n1_; have BK275 := n2_; have BK282 := n3_; have BK283 := n4_; have HB := n5_; clear n0_ n1_ n2_ n3_ n4_ n5_; (try clear hb); (try clear hb2); (try clear hk); (try clear hi)) | ((with_reducible refine gate_dst (N := 16) rfl ?_); refine box_event ?hg (N := 16) ?hd (cs := #[.int .i64 0, .int .i64 0, .int .i64 0, .int .i64 0]) (t := 48) ?hr ?_; (case hd => rfl); (case hg => rfl); (case hr => first | (go_simp; done) | (go_simp; rfl)); intro gb292 hg w39 hbox hb; have n0_ := Aside0.mk (Kd.S_below (by exact HO_10.out) hb); have n1_ := Aside0.mk (blk_below (g := gb274) (o := .cells #[.slice A0_0 l0_0.length c0_0, .int .i64 a0_1] 24 (0, 0)) (by exact BK274.out) hb); have n2_ := Aside0.mk (blk_below (g := gb275) (o := .cells #[.int .i64 0, .int .i64 0, .int .i64 0, .int .i64 0] 48 (0, 0)) (by exact BK275.out) hb); have n3_ := Aside0.mk (blk_below (g := gb282) (o := .cells #[.int .i64 t278, .int .i64 t279] 43 (0, 0)) (by exact BK282.out) hb); have n4_ := Aside0.mk (blk_below (g := gb283) (o := .cells #[.int .i64 t280, .int .i64 t281] 43 (0, 0)) (by exact BK283.out) hb); have n5_ := Aside0.mk (below_step qn2 hb); have n6_ := Aside0.mk (hbox); have n7_ := Aside0.mk ((by rw [hg]; exact (below_size qn2) : w.heap.size ≤ gb292)); have n8_ := Aside0.mk ((by rw [hg]; exact (below_size qn2) : w.heap.size ≤ gb292)); have n9_ := Aside0.mk ((by rw [hg]; exact Nat.ne_of_lt (blk_lt (g := gb274) (o := .cells #[.slice A0_0 l0_0.length c0_0, .int .i64 a0_1] 24 (0, 0)) (by exact BK274.out)) : gb274 ≠ gb292)); have n10_ := Aside0.mk ((by rw [hg]; exact Nat.ne_of_gt (blk_lt (g := gb274) (o := .cells #[.slice A0_0 l0_0.length c0_0, .int .i64 a0_1] 24 (0, 0)) (by exact BK274.out)) : gb292 ≠ gb274)); have n11_ := Aside0.mk ((by rw [hg]; exact Nat.ne_of_lt (blk_lt (g := gb275) (o := .cells #[.int .i64 0, .int .i64 0, .int .i64 0, .int .i64 0] 48 (0, 0)) (by exact BK275.out)) : gb275 ≠ gb292)); have n12_ := Aside0.mk ((by rw [hg]; exact Nat.ne_of_gt (blk_lt (g := gb275) (o := .cells #[.int .i64 0, .int .i64 0, .int .i64 0, .int .i64 0] 48 (0, 0)) (by exact BK275.out)) : gb292 ≠ gb275)); have n13_ := Aside0.mk ((by rw [hg]; exact Nat.ne_of_lt (blk_lt (g := gb282) (o := .cells #[.int .i64 t278, .int .i64 t279] 43 (0, 0)) (by exact BK282.out)) : gb282 ≠ gb292)); have n14_ := Aside0.mk ((by rw [hg]; exact Nat.ne_of_gt (blk_lt (g := gb282) (o := .cells #[.int .i64 t278, .int .i64 t279] 43 (0, 0)) (by exact BK282.out)) : gb292 ≠ gb282)); have n15_ := Aside0.mk ((by rw [hg]; exact Nat.ne_of_lt (blk_lt (g := gb283) (o := .cells #[.int .i64 t280, .int .i64 t281] 43 (0, 0)) (by exact BK283.out)) : gb283 ≠ gb292)); have n16_ := Aside0.mk ((by rw [hg]; exact Nat.ne_of_gt (blk_lt (g := gb283) (o := .cells #[.int .i64 t280, .int .i64 t281] 43 (0, 0)) (by exact BK283.out)) : gb292 ≠ gb283)); clear HO_10; clear BK274; clear BK275; clear BK282; clear BK283; clear HB; have HO_10 := n0_; have BK274 := n1_; have BK275 := n2_; have BK282 := n3_; have BK283 := n4_; have HB := n5_; have BK292 := n6_; have GW292 := n7_; have GE292 := n8_; have NB274_292 := n9_; have NB292_274 := n10_; have NB275_292 := n11_; have NB292_275 := n12_; have NB282_292 := n13_; have NB292_282 := n14_; have NB283_292 := n15_; have NB292_283 := n16_; clear n0_ n1_ n2_ n3_ n4_ n5_ n6_ n7_ n8_ n9_ n10_ n11_ n12_ n13_ n14_ n15_ n16_; clear hb hbox hg; have hnb40 := NB292_274.out; have hnc40 := NB274_292.out; have hnb41 := NB292_275.out; have hnc41 := NB275_292.out; have hnb42 := NB292_282.out; have hnc42 := NB282_292.out; have hnb43 := NB292_283.out; have hnc43 := NB283_292.out; have hcz44_0 : w39.cell? ⟨gb292, 0, none⟩ = some (.int .i64 0) := (blk_cell BK292.out 0).trans rfl; have hcz44_1 : w39.cell? ⟨gb292, 1, none⟩ = some (.int .i64 0) := (blk_cell BK292.out 1).trans rfl; have hcz44_2 : w39.cell? ⟨gb292, 2, none⟩ = some (.int .i64 0) := (blk_cell BK292.out 2).trans rfl; have hcz44_3 : w39.cell? ⟨gb292, 3, none⟩ = some (.int .i64 0) := (blk_cell BK292.out 3).trans rfl; have hfz44_0 := blk_frozen BK292.out 0; have hfz44_1 := blk_frozen BK292.out 1; have hfz44_2 := blk_frozen BK292.out 2; have hfz44_3 := blk_frozen BK292.out 3; have hnb45 := NB282_274.out; have hnc45 := NB274_282.out; have hnb46 := NB282_275.out; have hnc46 := NB275_282.out; have hnb47 := NB282_283.out; have hnc47 := NB283_282.out; have hcz48_0 : w39.cell? ⟨gb282, 0, none⟩ = some (.int .i64 t278) := (blk_cell BK282.out 0).trans rfl; have hcz48_1 : w39.cell? ⟨gb282, 1, none⟩ = some (.int .i64 t279) := (blk_cell BK282.out 1).trans rfl; have hfz48_0 := blk_frozen BK282.out 0; have hfz48_1 := blk_frozen BK282.out 1; have hnb49 := NB283_274.out; have hnc49 := NB274_283.out; have hnb50 := NB283_275.out; have hnc50 := NB275_283.out; have hcz51_0 : w39.cell? ⟨gb283, 0, none⟩ = some (.int .i64 t280) := (blk_cell BK283.out 0).trans rfl; have hcz51_1 : w39.cell? ⟨gb283, 1, none⟩ = some (.int .i64 t281) := (blk_cell BK283.out 1).trans rfl; have hfz51_0 := blk_frozen BK283.out 0; have hfz51_1 := blk_frozen BK283.out 1))
     go_loopg [12, 17, 18] k1 (fun kq v12 v17 v18 w' => ∃ (x12_2 : Int) (x17_2 : Int) (x18_2 : Int), v12 = .int .i64 x12_2 ∧ v17 = .int .i64 x17_2 ∧ v18 = .int .i64 x18_2 ∧ Aside0 (forecourtref01_Net.l1 kq t284 x12_2 x17_2 x18_2 l0_0 a0_1 t278 t279 t280 t281 0 1 t290 t291 = some (r1, r2, r3, r4, r5)) ∧ Aside0 (kq ≤ k1) ∧ Aside0 (Kd.S (Kd.slice 2 (Kd.int .i64)) 25 w' w.heap.size (fun _ => True) (.slice Ao37 t284.length co37) t284) ∧ Aside0 (w'.heap[gb274]? = some (.cells #[(.slice A0_0 l0_0.length c0_0), .int .i64 a0_1] 24 (0, 0))) ∧ Aside0 (w'.heap[gb275]? = some (.cells #[.int .i64 0, .int .i64 0, .int .i64 0, .int .i64 0] 48 (0, 0))) ∧ Aside0 (w'.heap[gb282]? = some (.cells #[.int .i64 t278, .int .i64 t279] 43 (0, 0))) ∧ Aside0 (w'.heap[gb283]? = some (.cells #[.int .i64 t280, .int .i64 t281] 43 (0, 0))) ∧ Aside0 (w'.heap[gb292]? = some (.cells #[.int .i64 0, .int .i64 1, .int .i64 t290, .int .i64 t291] 48 (0, 0))) ∧ Aside0 (Below w.heap.size w w'))
     case atStart => exact ⟨(x12_1), ((-1)), (0), qn5, qn5, qn5, H', ⟨Nat.le_refl _⟩, ⟨by (skip); exact Kd.S_mono (Kd.S_far (p := ⟨gb292, 3, none⟩) (Kd.S_far (p := ⟨gb292, 2, none⟩) (Kd.S_far (p := ⟨gb292, 1, none⟩) (Kd.S_far (p := ⟨gb292, 0, none⟩) (Kd.S_types HO_10.out BK292.out (by decide)) (fun _ hk => hk.2) (.int .i64 0)) (fun _ hk => hk.2) (.int .i64 1)) (fun _ hk => hk.2) (.int .i64 t290)) (fun _ hk => hk.2) (.int .i64 t291)) (fun _ hk => trivial)⟩, ⟨by (skip); refine blk_far ?_ NB274_292.out _; (skip); refine blk_far ?_ NB274_292.out _; (skip); refine blk_far ?_ NB274_292.out _; (skip); refine blk_far ?_ NB274_292.out _; (skip); exact BK274.out⟩, ⟨by (skip); refine blk_far ?_ NB275_292.out _; (skip); refine blk_far ?_ NB275_292.out _; (skip); refine blk_far ?_ NB275_292.out _; (skip); refine blk_far ?_ NB275_292.out _; (skip); exact BK275.out⟩, ⟨by (skip); refine blk_far ?_ NB282_292.out _; (skip); refine blk_far ?_ NB282_292.out _; (skip); refine blk_far ?_ NB282_292.out _; (skip); refine blk_far ?_ NB282_292.out _; (skip); exact BK282.out⟩, ⟨by (skip); refine blk_far ?_ NB283_292.out _; (skip); refine blk_far ?_ NB283_292.out _; (skip); refine blk_far ?_ NB283_292.out _; (skip); refine blk_far ?_ NB283_292.out _; (skip); exact BK283.out⟩, ⟨by (skip); refine blk_put (cs := #[.int .i64 0, .int .i64 1, .int .i64 t290, .int .i64 0]) ?_ 3 _ rfl; (skip); refine blk_put (cs := #[.int .i64 0, .int .i64 1, .int .i64 0, .int .i64 0]) ?_ 2 _ rfl; (skip); refine blk_put (cs := #[.int .i64 0, .int .i64 0, .int .i64 0, .int .i64 0]) ?_ 1 _ rfl; (skip); refine blk_put (cs := #[.int .i64 0, .int .i64 0, .int .i64 0, .int .i64 0]) ?_ 0 _ rfl; (skip); exact BK292.out⟩, ⟨by (with_reducible refine below_set ?_ GE292.out; with_reducible refine below_set ?_ GE292.out; with_reducible refine below_set ?_ GE292.out; with_reducible refine below_set ?_ GE292.out; with_reducible exact HB.out)⟩⟩
     case round =>
      clear H'
      try clear c2
      try clear p2
      try clear q2
      try clear hx2
      try clear c3
      try clear c4
      try clear c5
      try clear c6
      try clear p6
      try clear c7
      try clear c24
      try clear c25
      try clear c28
      try clear c28b0
      try clear p28
      try clear q28
      try clear hx28
      try clear c29
      try clear c29b0
      try clear c36
      try clear c36b0
      try clear c40
      try clear c41
      try clear c42
      try clear c43
      try clear c45
      try clear c46
      try clear c47
      try clear c49
      try clear c50
      try clear hcz26_0
      try clear hcz26_1
      try clear hcz44_0
      try clear hcz44_1
      try clear hcz44_2
      try clear hcz44_3
      try clear hcz48_0
      try clear hcz48_1
      try clear hcz51_0
      try clear hcz51_1
      try clear hfz26_0
      try clear hfz26_1
      try clear hfz44_0
      try clear hfz44_1
      try clear hfz44_2
      try clear hfz44_3
      try clear hfz48_0
      try clear hfz48_1
      try clear hfz51_0
      try clear hfz51_1
      try clear hx287_0
      try clear p2
      try clear p287
      try clear q287
      obtain ⟨x12_2, x17_2, x18_2, rfl, rfl, rfl, HA, HK2, HO_10, BK274, BK275, BK282, BK283, BK292, HB⟩ := hrel
      cases gk with
      | zero => exact absurd HA.out (by simp [forecourtref01_Net.l1])
      | succ k2 =>
       have H := HA.out
       clear HA
       simp only [forecourtref01_Net.l1] at H
       by_cases c52 : x18_2 < (t284.length : Int)
       ·rw [if_pos c52] at H
        have c52b0 : decide (x18_2 < (t284.length : Int)) = true := decide_eq_true c52
        clear c52
        by_cases c53 : 0 ≤ x18_2
        ·rw [if_pos c53] at H
         have c53b0 : decide (0 ≤ x18_2) = true := decide_eq_true c53
         clear c53
         replace H := Option.bind_eq_some_iff.mp H
         obtain ⟨⟨t294, t295⟩, A540, H⟩ := H
         replace H : (if x17_2 < 0 then (forecourtref01_Net.l1 k2 t284 t295 t294 (wrap64 (x18_2 + 1)) l0_0 a0_1 t278 t279 t280 t281 0 1 t290 t291) else (if t294 < x17_2 then (forecourtref01_Net.l1 k2 t284 t295 t294 (wrap64 (x18_2 + 1)) l0_0 a0_1 t278 t279 t280 t281 0 1 t290 t291) else (forecourtref01_Net.l1 k2 t284 x12_2 x17_2 (wrap64 (x18_2 + 1)) l0_0 a0_1 t278 t279 t280 t281 0 1 t290 t291))) = some (r1, r2, r3, r4, r5) := H
         have A54 := Aside0.mk A540
         clear A540
         by_cases c55 : x17_2 < 0
         ·rw [if_pos c55] at H
          have c55b0 : decide (x17_2 < 0) = true := decide_eq_true c55
          clear c55
          have H' := Aside0.mk H
          clear H
          try go_wp2
          have n0_ := Aside0.mk (Kd.S_drew HO_10.out)
          have n1_ := Aside0.mk (blk_drew BK274.out)
          have n2_ := Aside0.mk (blk_drew BK275.out)
          have n3_ := Aside0.mk (blk_drew BK282.out)
          have n4_ := Aside0.mk (blk_drew BK283.out)
          have n5_ := Aside0.mk (blk_drew BK292.out)
          have n6_ := Aside0.mk (below_drew1 HB.out)
          clear HO_10 BK274 BK275 BK282 BK283 BK292 HB
          have HO_10 := n0_
          have BK274 := n1_
          have BK275 := n2_
          have BK282 := n3_
          have BK283 := n4_
          have BK292 := n5_
          have HB := n6_
          clear n0_ n1_ n2_ n3_ n4_ n5_ n6_
          have p293 : 0 ≤ (x18_2 : Int) := of_decide_eq_true qn0
          have q293 : x18_2 < (t284.length : Int) := of_decide_eq_true qn0
          obtain ⟨ad293, A293_0, c293_0, e293, hx293_0, hl293_0, hi293_0⟩ := at_L7 (Kd.S_reads' HO_10.out).2.2 x18_2 p293 q293
          cases e293
          obtain ⟨ce293, hce293, hMe293, hcc293⟩ := Kd.S_get HO_10.out [] x18_2 p293 qn44
          obtain ⟨ve293_0, rfl, ge293_0⟩ := hMe293
          have hv293_0 := hcc293 0 _ rfl
          rw [Nat.add_zero, show ((Kd.slice 2 (Kd.int .i64))).sz = 1 from rfl, Nat.mul_one] at hv293_0
          replace hv293_0 := Option.some.inj (hv293_0.symm.trans hx293_0)
          rw [hv293_0] at ge293_0
          have HL293_0 := Aside0.mk (show Kd.R (Kd.int .i64) 2 _ _ _ _ (rd_L7 t284 x18_2) from ge293_0)
          clear hv293_0 ge293_0 hcc293 hce293
          have HR293_0 := Aside0.mk hi293_0
          have HC293_0 := Aside0.mk hl293_0
          clear hi293_0 hl293_0
          replace p293 := eq_true p293
          replace q293 := eq_true q293
          refine start_ (n := 15) (S := fun w' => w'.cell? ⟨gb274, 0, none⟩ = some (.slice A0_0 l0_0.length c0_0) ∧ w'.cell? ⟨gb274, 1, none⟩ = some (.int .i64 a0_1) ∧ w'.cell? ⟨gb282, 0, none⟩ = some (.int .i64 t278) ∧ w'.cell? ⟨gb282, 1, none⟩ = some (.int .i64 t279) ∧ w'.cell? ⟨gb283, 0, none⟩ = some (.int .i64 t280) ∧ w'.cell? ⟨gb283, 1, none⟩ = some (.int .i64 t281) ∧ w'.cell? (ad293.add (x18_2).toNat) = some (.slice A293_0 (rd_L7 t284 x18_2).length c293_0)) (ds := []) #[false, false, false, false, false, false, false, false, false, false, false, false, false, false, false] (by kernel_rfl) rfl rfl ⟨(blk_cell BK274.out 0).trans rfl, (blk_cell BK274.out 1).trans rfl, (blk_cell BK282.out 0).trans rfl, (blk_cell BK282.out 1).trans rfl, (blk_cell BK283.out 0).trans rfl, (blk_cell BK283.out 1).trans rfl, hx293_0⟩ (fun hHeld => ?_); refine with_tabW forecourtref01_Net.tab17 forecourtref01_Net.bits17 (fun HT_ HW_ => ?_)
          generalize wr.drew = w56 at HO_10 BK274 BK275 BK282 BK283 BK292 HB HL293_0 HR293_0 hx293_0 hHeld ⊢
          refine pureT (i := 1) (N := some 80) HT_.out ?_
          refine pureT (i := 2) (N := some 81) HT_.out ?_
          refine pureT (i := 3) (N := some 82) HT_.out ?_
          refine pureT (i := 5) (N := some 84) HT_.out ?_
          refine pureT (i := 7) (N := some 86) HT_.out ?_
          refine takeT (i := 0) (N := some 79) HT_.out HW_.out hHeld (hy := by (rintro w' ⟨s0, s1, s2, s3, s4, s5, s6⟩; go_simp; with_reducible rfl)) (h := ?_)
          refine takeT (i := 4) (N := some 83) HT_.out HW_.out hHeld (hy := by (rintro w' ⟨s0, s1, s2, s3, s4, s5, s6⟩; go_simp; with_reducible rfl)) (h := ?_)
          refine takeT (i := 6) (N := some 85) HT_.out HW_.out hHeld (hy := by (rintro w' ⟨s0, s1, s2, s3, s4, s5, s6⟩; go_simp; with_reducible rfl)) (h := ?_)
          refine takeT (i := 8) (N := some 87) HT_.out HW_.out hHeld (hy := by (rintro w' ⟨s0, s1, s2, s3, s4, s5, s6⟩; go_simp; with_reducible rfl)) (h := ?_)
          refine one_ (i := 9) (N := some 88) #[true, true, true, true, true, true, true, true, true, true, false, false, false, false, false] rfl rfl (one_of HT_.out (by kernel_rfl)) (by decide) (fun K hK => ?_)
          refine goes_ Try.func70 (by kernel_rfl) rfl #[.agg #[.slice A0_0 l0_0.length c0_0, .int .i64 a0_1], .slice A293_0 (rd_L7 t284 x18_2).length c293_0, .int .i64 t279, .int .i64 t280] (by rfl) rfl rfl qn1 ?_
          with_reducible refine (forecourtref01_between.calls k2 _ _ l0_0 a0_1 _ _ (rd_L7 t284 x18_2) t279 t280 t294 t295 _ ?side1 ?side2 ?side3 ?side4 A54.out).mono ?_
          (case side1 => (exact (Kd.C_below HR0_0.out HB.out)))
          (case side2 => exact HC0_0.out)
          (case side3 => (exact qn19))
          (case side4 => exact HC293_0.out)
          rintro e w57 ⟨rfl, hb⟩
          have HS6_ := (hb.cell (World.block_lt_of_cell? _ _ (hHeld.2.2.2.2.2.2))).trans (hHeld.2.2.2.2.2.2)
          refine ⟨_, rfl, ?_⟩
          have n0_ := Aside0.mk (Kd.S_below (by exact HO_10.out) hb)
          have n1_ := Aside0.mk (Kd.R_below (by exact HL293_0.out) hb)
          have n2_ := Aside0.mk (blk_below (g := gb274) (o := .cells #[.slice A0_0 l0_0.length c0_0, .int .i64 a0_1] 24 (0, 0)) (by exact BK274.out) hb)
          have n3_ := Aside0.mk (blk_below (g := gb275) (o := .cells #[.int .i64 0, .int .i64 0, .int .i64 0, .int .i64 0] 48 (0, 0)) (by exact BK275.out) hb)
          have n4_ := Aside0.mk (blk_below (g := gb282) (o := .cells #[.int .i64 t278, .int .i64 t279] 43 (0, 0)) (by exact BK282.out) hb)
          have n5_ := Aside0.mk (blk_below (g := gb283) (o := .cells #[.int .i64 t280, .int .i64 t281] 43 (0, 0)) (by exact BK283.out) hb)
          have n6_ := Aside0.mk (blk_below (g := gb292) (o := .cells #[.int .i64 0, .int .i64 1, .int .i64 t290, .int .i64 t291] 48 (0, 0)) (by exact BK292.out) hb)
          have n7_ := Aside0.mk (Kd.C_below (by ((with_reducible exact HR293_0.out))) hb)
          have n8_ := Aside0.mk (below_step qn2 hb)
          clear HO_10 HL293_0 BK274 BK275 BK282 BK283 BK292 HR293_0 HB
          have HO_10 := n0_
          have HL293_0 := n1_
          have BK274 := n2_
          have BK275 := n3_
          have BK282 := n4_
          have BK283 := n5_
          have BK292 := n6_
          have HR293_0 := n7_
          have HB := n8_
          clear n0_ n1_ n2_ n3_ n4_ n5_ n6_ n7_ n8_
          (try clear hb)
          refine hK.out _ _ ⟨(blk_cell BK274.out 0).trans rfl, (blk_cell BK274.out 1).trans rfl, (blk_cell BK282.out 0).trans rfl, (blk_cell BK282.out 1).trans rfl, (blk_cell BK283.out 0).trans rfl, (blk_cell BK283.out 1).trans rfl, HS6_⟩ (fun hHeld => ?_)
          clear hK K
          refine norm_ (a' := ?_) ?_ ?_
          rotate_left
          ·show Act.put _ (some 88) _ = _
           simp only [Act.put, List.setIfInBounds_toArray, List.set_cons_zero, List.set_cons_succ, i64_w, i32_w]
           rfl
          refine pureT (i := 10) (N := some 78) HT_.out ?_
          refine pureT (i := 11) (N := some 89) HT_.out ?_
          refine pureT (i := 12) (N := some 90) HT_.out ?_
          refine pureT (i := 13) (N := some 19) HT_.out ?_
          refine pureT (i := 14) (N := some 20) HT_.out ?_
          refine done_ (done_of HT_.out (by kernel_rfl)) ?_
          try go_wp2
          go_roundg k2
          case measure => have := HK1.out; have := HK2.out; omega
          case rel => exact ⟨(t295), (t294), (wrap64 (x18_2 + 1)), qn5, qn5, qn5, H', ⟨by have := HK1.out; have := HK2.out; omega⟩, ⟨by (skip); exact HO_10.out⟩, ⟨by (skip); exact BK274.out⟩, ⟨by (skip); exact BK275.out⟩, ⟨by (skip); exact BK282.out⟩, ⟨by (skip); exact BK283.out⟩, ⟨by (skip); exact BK292.out⟩, ⟨by (with_reducible exact HB.out)⟩⟩
         rw [if_neg c55] at H
         have c55b0 : decide (x17_2 < 0) = false := decide_eq_false c55
         clear c55
         by_cases c58 : t294 < x17_2
         ·rw [if_pos c58] at H
          have c58b0 : decide (t294 < x17_2) = true := decide_eq_true c58
          clear c58
          have H' := Aside0.mk H
          clear H
          try go_wp2
          have n0_ := Aside0.mk (Kd.S_drew HO_10.out)
          have n1_ := Aside0.mk (blk_drew BK274.out)
          have n2_ := Aside0.mk (blk_drew BK275.out)
          have n3_ := Aside0.mk (blk_drew BK282.out)
          have n4_ := Aside0.mk (blk_drew BK283.out)
          have n5_ := Aside0.mk (blk_drew BK292.out)
          have n6_ := Aside0.mk (below_drew1 HB.out)
          clear HO_10 BK274 BK275 BK282 BK283 BK292 HB
          have HO_10 := n0_
          have BK274 := n1_
          have BK275 := n2_
          have BK282 := n3_
          have BK283 := n4_
          have BK292 := n5_
          have HB := n6_
          clear n0_ n1_ n2_ n3_ n4_ n5_ n6_
          have p293 : 0 ≤ (x18_2 : Int) := of_decide_eq_true qn0
          have q293 : x18_2 < (t284.length : Int) := of_decide_eq_true qn0
          obtain ⟨ad293, A293_0, c293_0, e293, hx293_0, hl293_0, hi293_0⟩ := at_L7 (Kd.S_reads' HO_10.out).2.2 x18_2 p293 q293
          cases e293
          obtain ⟨ce293, hce293, hMe293, hcc293⟩ := Kd.S_get HO_10.out [] x18_2 p293 qn44
          obtain ⟨ve293_0, rfl, ge293_0⟩ := hMe293
          have hv293_0 := hcc293 0 _ rfl
          rw [Nat.add_zero, show ((Kd.slice 2 (Kd.int .i64))).sz = 1 from rfl, Nat.mul_one] at hv293_0
          replace hv293_0 := Option.some.inj (hv293_0.symm.trans hx293_0)
          rw [hv293_0] at ge293_0
          have HL293_0 := Aside0.mk (show Kd.R (Kd.int .i64) 2 _ _ _ _ (rd_L7 t284 x18_2) from ge293_0)
          clear hv293_0 ge293_0 hcc293 hce293
          have HR293_0 := Aside0.mk hi293_0
          have HC293_0 := Aside0.mk hl293_0
          clear hi293_0 hl293_0
          replace p293 := eq_true p293
          replace q293 := eq_true q293
          refine start_ (n := 15) (S := fun w' => w'.cell? ⟨gb274, 0, none⟩ = some (.slice A0_0 l0_0.length c0_0) ∧ w'.cell? ⟨gb274, 1, none⟩ = some (.int .i64 a0_1) ∧ w'.cell? ⟨gb282, 0, none⟩ = some (.int .i64 t278) ∧ w'.cell? ⟨gb282, 1, none⟩ = some (.int .i64 t279) ∧ w'.cell? ⟨gb283, 0, none⟩ = some (.int .i64 t280) ∧ w'.cell? ⟨gb283, 1, none⟩ = some (.int .i64 t281) ∧ w'.cell? (ad293.add (x18_2).toNat) = some (.slice A293_0 (rd_L7 t284 x18_2).length c293_0)) (ds := []) #[false, false, false, false, false, false, false, false, false, false, false, false, false, false, false] (by kernel_rfl) rfl rfl ⟨(blk_cell BK274.out 0).trans rfl, (blk_cell BK274.out 1).trans rfl, (blk_cell BK282.out 0).trans rfl, (blk_cell BK282.out 1).trans rfl, (blk_cell BK283.out 0).trans rfl, (blk_cell BK283.out 1).trans rfl, hx293_0⟩ (fun hHeld => ?_); refine with_tabW forecourtref01_Net.tab17 forecourtref01_Net.bits17 (fun HT_ HW_ => ?_)
          generalize wr.drew = w59 at HO_10 BK274 BK275 BK282 BK283 BK292 HB HL293_0 HR293_0 hx293_0 hHeld ⊢
          refine pureT (i := 1) (N := some 80) HT_.out ?_
          refine pureT (i := 2) (N := some 81) HT_.out ?_
          refine pureT (i := 3) (N := some 82) HT_.out ?_
          refine pureT (i := 5) (N := some 84) HT_.out ?_
          refine pureT (i := 7) (N := some 86) HT_.out ?_
          refine takeT (i := 0) (N := some 79) HT_.out HW_.out hHeld (hy := by (rintro w' ⟨s0, s1, s2, s3, s4, s5, s6⟩; go_simp; with_reducible rfl)) (h := ?_)
          refine takeT (i := 4) (N := some 83) HT_.out HW_.out hHeld (hy := by (rintro w' ⟨s0, s1, s2, s3, s4, s5, s6⟩; go_simp; with_reducible rfl)) (h := ?_)
          refine takeT (i := 6) (N := some 85) HT_.out HW_.out hHeld (hy := by (rintro w' ⟨s0, s1, s2, s3, s4, s5, s6⟩; go_simp; with_reducible rfl)) (h := ?_)
          refine takeT (i := 8) (N := some 87) HT_.out HW_.out hHeld (hy := by (rintro w' ⟨s0, s1, s2, s3, s4, s5, s6⟩; go_simp; with_reducible rfl)) (h := ?_)
          refine one_ (i := 9) (N := some 88) #[true, true, true, true, true, true, true, true, true, true, false, false, false, false, false] rfl rfl (one_of HT_.out (by kernel_rfl)) (by decide) (fun K hK => ?_)
          refine goes_ Try.func70 (by kernel_rfl) rfl #[.agg #[.slice A0_0 l0_0.length c0_0, .int .i64 a0_1], .slice A293_0 (rd_L7 t284 x18_2).length c293_0, .int .i64 t279, .int .i64 t280] (by rfl) rfl rfl qn1 ?_
          with_reducible refine (forecourtref01_between.calls k2 _ _ l0_0 a0_1 _ _ (rd_L7 t284 x18_2) t279 t280 t294 t295 _ ?side1 ?side2 ?side3 ?side4 A54.out).mono ?_
          (case side1 => (exact (Kd.C_below HR0_0.out HB.out)))
          (case side2 => exact HC0_0.out)
          (case side3 => (exact qn19))
          (case side4 => exact HC293_0.out)
          rintro e w60 ⟨rfl, hb⟩
          have HS6_ := (hb.cell (World.block_lt_of_cell? _ _ (hHeld.2.2.2.2.2.2))).trans (hHeld.2.2.2.2.2.2)
          refine ⟨_, rfl, ?_⟩
          have n0_ := Aside0.mk (Kd.S_below (by exact HO_10.out) hb)
          have n1_ := Aside0.mk (Kd.R_below (by exact HL293_0.out) hb)
          have n2_ := Aside0.mk (blk_below (g := gb274) (o := .cells #[.slice A0_0 l0_0.length c0_0, .int .i64 a0_1] 24 (0, 0)) (by exact BK274.out) hb)
          have n3_ := Aside0.mk (blk_below (g := gb275) (o := .cells #[.int .i64 0, .int .i64 0, .int .i64 0, .int .i64 0] 48 (0, 0)) (by exact BK275.out) hb)
          have n4_ := Aside0.mk (blk_below (g := gb282) (o := .cells #[.int .i64 t278, .int .i64 t279] 43 (0, 0)) (by exact BK282.out) hb)
          have n5_ := Aside0.mk (blk_below (g := gb283) (o := .cells #[.int .i64 t280, .int .i64 t281] 43 (0, 0)) (by exact BK283.out) hb)
          have n6_ := Aside0.mk (blk_below (g := gb292) (o := .cells #[.int .i64 0, .int .i64 1, .int .i64 t290, .int .i64 t291] 48 (0, 0)) (by exact BK292.out) hb)
          have n7_ := Aside0.mk (Kd.C_below (by ((with_reducible exact HR293_0.out))) hb)
          have n8_ := Aside0.mk (below_step qn2 hb)
          clear HO_10 HL293_0 BK274 BK275 BK282 BK283 BK292 HR293_0 HB
          have HO_10 := n0_
          have HL293_0 := n1_
          have BK274 := n2_
          have BK275 := n3_
          have BK282 := n4_
          have BK283 := n5_
          have BK292 := n6_
          have HR293_0 := n7_
          have HB := n8_
          clear n0_ n1_ n2_ n3_ n4_ n5_ n6_ n7_ n8_
          (try clear hb)
          refine hK.out _ _ ⟨(blk_cell BK274.out 0).trans rfl, (blk_cell BK274.out 1).trans rfl, (blk_cell BK282.out 0).trans rfl, (blk_cell BK282.out 1).trans rfl, (blk_cell BK283.out 0).trans rfl, (blk_cell BK283.out 1).trans rfl, HS6_⟩ (fun hHeld => ?_)
          clear hK K
          refine norm_ (a' := ?_) ?_ ?_
          rotate_left
          ·show Act.put _ (some 88) _ = _
           simp only [Act.put, List.setIfInBounds_toArray, List.set_cons_zero, List.set_cons_succ, i64_w, i32_w]
           rfl
          refine pureT (i := 10) (N := some 78) HT_.out ?_
          refine pureT (i := 11) (N := some 89) HT_.out ?_
          refine pureT (i := 12) (N := some 90) HT_.out ?_
          refine pureT (i := 13) (N := some 19) HT_.out ?_
          refine pureT (i := 14) (N := some 20) HT_.out ?_
          refine done_ (done_of HT_.out (by kernel_rfl)) ?_
          try go_wp2
          go_roundg k2
          case measure => have := HK1.out; have := HK2.out; omega
          case rel => exact ⟨(t295), (t294), (wrap64 (x18_2 + 1)), qn5, qn5, qn5, H', ⟨by have := HK1.out; have := HK2.out; omega⟩, ⟨by (skip); exact HO_10.out⟩, ⟨by (skip); exact BK274.out⟩, ⟨by (skip); exact BK275.out⟩, ⟨by (skip); exact BK282.out⟩, ⟨by (skip); exact BK283.out⟩, ⟨by (skip); exact BK292.out⟩, ⟨by (with_reducible exact HB.out)⟩⟩
         rw [if_neg c58] at H
         have c58b0 : decide (t294 < x17_2) = false := decide_eq_false c58
         clear c58
         have H' := Aside0.mk H
         clear H
         try go_wp2
         have n0_ := Aside0.mk (Kd.S_drew HO_10.out)
         have n1_ := Aside0.mk (blk_drew BK274.out)
         have n2_ := Aside0.mk (blk_drew BK275.out)
         have n3_ := Aside0.mk (blk_drew BK282.out)
         have n4_ := Aside0.mk (blk_drew BK283.out)
         have n5_ := Aside0.mk (blk_drew BK292.out)
         have n6_ := Aside0.mk (below_drew1 HB.out)
         clear HO_10 BK274 BK275 BK282 BK283 BK292 HB
         have HO_10 := n0_
         have BK274 := n1_
         have BK275 := n2_
         have BK282 := n3_
         have BK283 := n4_
         have BK292 := n5_
         have HB := n6_
         clear n0_ n1_ n2_ n3_ n4_ n5_ n6_
         have p293 : 0 ≤ (x18_2 : Int) := of_decide_eq_true qn0
         have q293 : x18_2 < (t284.length : Int) := of_decide_eq_true qn0
         obtain ⟨ad293, A293_0, c293_0, e293, hx293_0, hl293_0, hi293_0⟩ := at_L7 (Kd.S_reads' HO_10.out).2.2 x18_2 p293 q293
         cases e293
         obtain ⟨ce293, hce293, hMe293, hcc293⟩ := Kd.S_get HO_10.out [] x18_2 p293 qn44
         obtain ⟨ve293_0, rfl, ge293_0⟩ := hMe293
         have hv293_0 := hcc293 0 _ rfl
         rw [Nat.add_zero, show ((Kd.slice 2 (Kd.int .i64))).sz = 1 from rfl, Nat.mul_one] at hv293_0
         replace hv293_0 := Option.some.inj (hv293_0.symm.trans hx293_0)
         rw [hv293_0] at ge293_0
         have HL293_0 := Aside0.mk (show Kd.R (Kd.int .i64) 2 _ _ _ _ (rd_L7 t284 x18_2) from ge293_0)
         clear hv293_0 ge293_0 hcc293 hce293
         have HR293_0 := Aside0.mk hi293_0
         have HC293_0 := Aside0.mk hl293_0
         clear hi293_0 hl293_0
         replace p293 := eq_true p293
         replace q293 := eq_true q293
         refine start_ (n := 15) (S := fun w' => w'.cell? ⟨gb274, 0, none⟩ = some (.slice A0_0 l0_0.length c0_0) ∧ w'.cell? ⟨gb274, 1, none⟩ = some (.int .i64 a0_1) ∧ w'.cell? ⟨gb282, 0, none⟩ = some (.int .i64 t278) ∧ w'.cell? ⟨gb282, 1, none⟩ = some (.int .i64 t279) ∧ w'.cell? ⟨gb283, 0, none⟩ = some (.int .i64 t280) ∧ w'.cell? ⟨gb283, 1, none⟩ = some (.int .i64 t281) ∧ w'.cell? (ad293.add (x18_2).toNat) = some (.slice A293_0 (rd_L7 t284 x18_2).length c293_0)) (ds := []) #[false, false, false, false, false, false, false, false, false, false, false, false, false, false, false] (by kernel_rfl) rfl rfl ⟨(blk_cell BK274.out 0).trans rfl, (blk_cell BK274.out 1).trans rfl, (blk_cell BK282.out 0).trans rfl, (blk_cell BK282.out 1).trans rfl, (blk_cell BK283.out 0).trans rfl, (blk_cell BK283.out 1).trans rfl, hx293_0⟩ (fun hHeld => ?_); refine with_tabW forecourtref01_Net.tab17 forecourtref01_Net.bits17 (fun HT_ HW_ => ?_)
         generalize wr.drew = w61 at HO_10 BK274 BK275 BK282 BK283 BK292 HB HL293_0 HR293_0 hx293_0 hHeld ⊢
         refine pureT (i := 1) (N := some 80) HT_.out ?_
         refine pureT (i := 2) (N := some 81) HT_.out ?_
         refine pureT (i := 3) (N := some 82) HT_.out ?_
         refine pureT (i := 5) (N := some 84) HT_.out ?_
         refine pureT (i := 7) (N := some 86) HT_.out ?_
         refine takeT (i := 0) (N := some 79) HT_.out HW_.out hHeld (hy := by (rintro w' ⟨s0, s1, s2, s3, s4, s5, s6⟩; go_simp; with_reducible rfl)) (h := ?_)
         refine takeT (i := 4) (N := some 83) HT_.out HW_.out hHeld (hy := by (rintro w' ⟨s0, s1, s2, s3, s4, s5, s6⟩; go_simp; with_reducible rfl)) (h := ?_)
         refine takeT (i := 6) (N := some 85) HT_.out HW_.out hHeld (hy := by (rintro w' ⟨s0, s1, s2, s3, s4, s5, s6⟩; go_simp; with_reducible rfl)) (h := ?_)
         refine takeT (i := 8) (N := some 87) HT_.out HW_.out hHeld (hy := by (rintro w' ⟨s0, s1, s2, s3, s4, s5, s6⟩; go_simp; with_reducible rfl)) (h := ?_)
         refine one_ (i := 9) (N := some 88) #[true, true, true, true, true, true, true, true, true, true, false, false, false, false, false] rfl rfl (one_of HT_.out (by kernel_rfl)) (by decide) (fun K hK => ?_)
         refine goes_ Try.func70 (by kernel_rfl) rfl #[.agg #[.slice A0_0 l0_0.length c0_0, .int .i64 a0_1], .slice A293_0 (rd_L7 t284 x18_2).length c293_0, .int .i64 t279, .int .i64 t280] (by rfl) rfl rfl qn1 ?_
         with_reducible refine (forecourtref01_between.calls k2 _ _ l0_0 a0_1 _ _ (rd_L7 t284 x18_2) t279 t280 t294 t295 _ ?side1 ?side2 ?side3 ?side4 A54.out).mono ?_
         (case side1 => (exact (Kd.C_below HR0_0.out HB.out)))
         (case side2 => exact HC0_0.out)
         (case side3 => (exact qn19))
         (case side4 => exact HC293_0.out)
         rintro e w62 ⟨rfl, hb⟩
         have HS6_ := (hb.cell (World.block_lt_of_cell? _ _ (hHeld.2.2.2.2.2.2))).trans (hHeld.2.2.2.2.2.2)
         refine ⟨_, rfl, ?_⟩
         have n0_ := Aside0.mk (Kd.S_below (by exact HO_10.out) hb)
         have n1_ := Aside0.mk (Kd.R_below (by exact HL293_0.out) hb)
         have n2_ := Aside0.mk (blk_below (g := gb274) (o := .cells #[.slice A0_0 l0_0.length c0_0, .int .i64 a0_1] 24 (0, 0)) (by exact BK274.out) hb)
         have n3_ := Aside0.mk (blk_below (g := gb275) (o := .cells #[.int .i64 0, .int .i64 0, .int .i64 0, .int .i64 0] 48 (0, 0)) (by exact BK275.out) hb)
         have n4_ := Aside0.mk (blk_below (g := gb282) (o := .cells #[.int .i64 t278, .int .i64 t279] 43 (0, 0)) (by exact BK282.out) hb)
         have n5_ := Aside0.mk (blk_below (g := gb283) (o := .cells #[.int .i64 t280, .int .i64 t281] 43 (0, 0)) (by exact BK283.out) hb)
         have n6_ := Aside0.mk (blk_below (g := gb292) (o := .cells #[.int .i64 0, .int .i64 1, .int .i64 t290, .int .i64 t291] 48 (0, 0)) (by exact BK292.out) hb)
         have n7_ := Aside0.mk (Kd.C_below (by ((with_reducible exact HR293_0.out))) hb)
         have n8_ := Aside0.mk (below_step qn2 hb)
         clear HO_10 HL293_0 BK274 BK275 BK282 BK283 BK292 HR293_0 HB
         have HO_10 := n0_
         have HL293_0 := n1_
         have BK274 := n2_
         have BK275 := n3_
         have BK282 := n4_
         have BK283 := n5_
         have BK292 := n6_
         have HR293_0 := n7_
         have HB := n8_
         clear n0_ n1_ n2_ n3_ n4_ n5_ n6_ n7_ n8_
         (try clear hb)
         refine hK.out _ _ ⟨(blk_cell BK274.out 0).trans rfl, (blk_cell BK274.out 1).trans rfl, (blk_cell BK282.out 0).trans rfl, (blk_cell BK282.out 1).trans rfl, (blk_cell BK283.out 0).trans rfl, (blk_cell BK283.out 1).trans rfl, HS6_⟩ (fun hHeld => ?_)
         clear hK K
         refine norm_ (a' := ?_) ?_ ?_
         rotate_left
         ·show Act.put _ (some 88) _ = _
          simp only [Act.put, List.setIfInBounds_toArray, List.set_cons_zero, List.set_cons_succ, i64_w, i32_w]
          rfl
         refine pureT (i := 10) (N := some 78) HT_.out ?_
         refine pureT (i := 11) (N := some 89) HT_.out ?_
         refine pureT (i := 12) (N := some 90) HT_.out ?_
         refine pureT (i := 13) (N := some 19) HT_.out ?_
         refine pureT (i := 14) (N := some 20) HT_.out ?_
         refine done_ (done_of HT_.out (by kernel_rfl)) ?_
         try go_wp2
         go_roundg k2
         case measure => have := HK1.out; have := HK2.out; omega
         case rel => exact ⟨(x12_2), (x17_2), (wrap64 (x18_2 + 1)), qn5, qn5, qn5, H', ⟨by have := HK1.out; have := HK2.out; omega⟩, ⟨by (skip); exact HO_10.out⟩, ⟨by (skip); exact BK274.out⟩, ⟨by (skip); exact BK275.out⟩, ⟨by (skip); exact BK282.out⟩, ⟨by (skip); exact BK283.out⟩, ⟨by (skip); exact BK292.out⟩, ⟨by (with_reducible exact HB.out)⟩⟩
        rw [if_neg c53] at H
        exact absurd H (by simp)
       rw [if_neg c52] at H
       have c52b0 : decide (x18_2 < (t284.length : Int)) = false := decide_eq_false c52
       clear c52
       replace H := Option.bind_eq_some_iff.mp H
       obtain ⟨⟨t296, t297⟩, A630, H⟩ := H
       replace H : (some (t296, t297, t290, t291, 0)) = some (r1, r2, r3, r4, r5) := H
       have A63 := Aside0.mk A630
       clear A630
       simp only [Option.some.injEq, Prod.mk.injEq] at H
       obtain ⟨rfl, rfl, rfl, rfl, rfl⟩ := H
       go_wp2_with (first | ((with_reducible refine gate_callee (f := 50) rfl ?_); refine goesL_ (some 102) rfl rfl Try.func50 (by kernel_rfl) rfl #[.int .i64 x17_2, .int .i64 x12_2] rfl qn1 ?_; (with_reducible refine (forecourtref01_Fraction.calls k2 x17_2 x12_2 t296 t297 _ A63.out).mono ?_); rintro e w64 ⟨rfl, hb⟩; refine ⟨_, rfl, ?_⟩; have n0_ := Aside0.mk (Kd.S_below (by exact HO_10.out) hb); have n1_ := Aside0.mk (blk_below (g := gb274) (o := .cells #[.slice A0_0 l0_0.length c0_0, .int .i64 a0_1] 24 (0, 0)) (by exact BK274.out) hb); have n2_ := Aside0.mk (blk_below (g := gb275) (o := .cells #[.int .i64 0, .int .i64 0, .int .i64 0, .int .i64 0] 48 (0, 0)) (by exact BK275.out) hb); have n3_ := Aside0.mk (blk_below (g := gb282) (o := .cells #[.int .i64 t278, .int .i64 t279] 43 (0, 0)) (by exact BK282.out) hb); have n4_ := Aside0.mk (blk_below (g := gb283) (o := .cells #[.int .i64 t280, .int .i64 t281] 43 (0, 0)) (by exact BK283.out) hb); have n5_ := Aside0.mk (blk_below (g := gb292) (o := .cells #[.int .i64 0, .int .i64 1, .int .i64 t290, .int .i64 t291] 48 (0, 0)) (by exact BK292.out) hb); have n6_ := Aside0.mk (below_step qn2 hb); clear HO_10; clear BK274; clear BK275; clear BK282; clear BK283; clear BK292; clear HB; have HO_10 := n0_; have BK274 := n1_; have BK275 := n2_; have BK282 := n3_; have BK283 := n4_; have BK292 := n5_; have HB := n6_; clear n0_ n1_ n2_ n3_ n4_ n5_ n6_; (try clear hb); (try clear hb2); (try clear hk); (try clear hi); have hnb65 := NB292_274.out; have hnc65 := NB274_292.out; have hnb66 := NB292_275.out; have hnc66 := NB275_292.out; have hnb67 := NB292_282.out; have hnc67 := NB282_292.out; have hnb68 := NB292_283.out; have hnc68 := NB283_292.out; have hcz69_0 : w64.cell? ⟨gb292, 0, none⟩ = some (.int .i64 0) := (blk_cell BK292.out 0).trans rfl; have hcz69_1 : w64.cell? ⟨gb292, 1, none⟩ = some (.int .i64 1) := (blk_cell BK292.out 1).trans rfl; have hcz69_2 : w64.cell? ⟨gb292, 2, none⟩ = some (.int .i64 t290) := (blk_cell BK292.out 2).trans rfl; have hcz69_3 : w64.cell? ⟨gb292, 3, none⟩ = some (.int .i64 t291) := (blk_cell BK292.out 3).trans rfl; have hfz69_0 := blk_frozen BK292.out 0; have hfz69_1 := blk_frozen BK292.out 1; have hfz69_2 := blk_frozen BK292.out 2; have hfz69_3 := blk_frozen BK292.out 3; have hnb70 := NB275_274.out; have hnc70 := NB274_275.out; have hnb71 := NB275_282.out; have hnc71 := NB282_275.out; have hnb72 := NB275_283.out; have hnc72 := NB283_275.out; have hcz73_0 : w64.cell? ⟨gb275, 0, none⟩ = some (.int .i64 0) := (blk_cell BK275.out 0).trans rfl; have hcz73_1 : w64.cell? ⟨gb275, 1, none⟩ = some (.int .i64 0) := (blk_cell BK275.out 1).trans rfl; have hcz73_2 : w64.cell? ⟨gb275, 2, none⟩ = some (.int .i64 0) := (blk_cell BK275.out 2).trans rfl; have hcz73_3 : w64.cell? ⟨gb275, 3, none⟩ = some (.int .i64 0) := (blk_cell BK275.out 3).trans rfl; have hfz73_0 := blk_frozen BK275.out 0; have hfz73_1 := blk_frozen BK275.out 1; have hfz73_2 := blk_frozen BK275.out 2; have hfz73_3 := blk_frozen BK275.out 3))
       refine bodyPost_ret (results_ct rfl _ _ gb275 48 #[.int .i64 t296, .int .i64 t297, .int .i64 t290, .int .i64 t291] (0, 0) _ rfl (by (skip); refine blk_put (cs := #[.int .i64 t296, .int .i64 t297, .int .i64 t290, .int .i64 0]) ?_ 3 _ rfl; (skip); refine blk_put (cs := #[.int .i64 t296, .int .i64 t297, .int .i64 0, .int .i64 0]) ?_ 2 _ rfl; (skip); refine blk_put (cs := #[.int .i64 t296, .int .i64 0, .int .i64 0, .int .i64 0]) ?_ 1 _ rfl; (skip); refine blk_put (cs := #[.int .i64 0, .int .i64 0, .int .i64 0, .int .i64 0]) ?_ 0 _ rfl; (skip); refine blk_far ?_ NB275_292.out _; (skip); refine blk_far ?_ NB275_292.out _; (skip); exact BK275.out) Try.underlying48 rfl (by kernel_rfl)) rfl ?_
       exact ⟨by first | rfl | (simp [errW_none, errW_some] <;> rfl) | (simp [*, errW_none, errW_some] <;> rfl), by repeat (first | with_reducible exact HB.out | with_reducible refine below_set ?_ GE275.out | with_reducible refine below_set ?_ GE292.out)⟩
    rw [if_neg c36] at H
    have c36b0 : decide (t279 < t280) = false := decide_eq_false c36
    clear c36
    simp only [Option.some.injEq, Prod.mk.injEq] at H
    obtain ⟨rfl, rfl, rfl, rfl, rfl⟩ := H
    obtain ⟨Ao74, co74, eo74⟩ := Kd.S_slice HO_10.out
    subst eo74
    go_wp2_with (first | ((with_reducible refine gate_callee (f := 50) rfl ?_); refine goesL_ (some 65) rfl rfl Try.func50 (by kernel_rfl) rfl #[.int .i64 x11_1, .int .i64 x12_1] rfl qn1 ?_; (with_reducible refine (forecourtref01_Fraction.calls k1 x11_1 x12_1 t290 t291 _ A35.out).mono ?_); rintro e w75 ⟨rfl, hb⟩; refine ⟨_, rfl, ?_⟩; have n0_ := Aside0.mk (Kd.S_below (by exact HO_10.out) hb); have n1_ := Aside0.mk (blk_below (g := gb274) (o := .cells #[.slice A0_0 l0_0.length c0_0, .int .i64 a0_1] 24 (0, 0)) (by exact BK274.out) hb); have n2_ := Aside0.mk (blk_below (g := gb275) (o := .cells #[.int .i64 0, .int .i64 0, .int .i64 0, .int .i64 0] 48 (0, 0)) (by exact BK275.out) hb); have n3_ := Aside0.mk (blk_below (g := gb282) (o := .cells #[.int .i64 t278, .int .i64 t279] 43 (0, 0)) (by exact BK282.out) hb); have n4_ := Aside0.mk (blk_below (g := gb283) (o := .cells #[.int .i64 t280, .int .i64 t281] 43 (0, 0)) (by exact BK283.out) hb); have n5_ := Aside0.mk (below_step qn2 hb); clear HO_10; clear BK274; clear BK275; clear BK282; clear BK283; clear HB; have HO_10 := n0_; have BK274 := n1_; have BK275 := n2_; have BK282 := n3_; have BK283 := n4_; have HB := n5_; clear n0_ n1_ n2_ n3_ n4_ n5_; (try clear hb); (try clear hb2); (try clear hk); (try clear hi)) | ((with_reducible refine gate_dst (N := 16) rfl ?_); refine box_event ?hg (N := 16) ?hd (cs := #[.int .i64 0, .int .i64 0, .int .i64 0, .int .i64 0]) (t := 48) ?hr ?_; (case hd => rfl); (case hg => rfl); (case hr => first | (go_simp; done) | (go_simp; rfl)); intro gb292 hg w76 hbox hb; have n0_ := Aside0.mk (Kd.S_below (by exact HO_10.out) hb); have n1_ := Aside0.mk (blk_below (g := gb274) (o := .cells #[.slice A0_0 l0_0.length c0_0, .int .i64 a0_1] 24 (0, 0)) (by exact BK274.out) hb); have n2_ := Aside0.mk (blk_below (g := gb275) (o := .cells #[.int .i64 0, .int .i64 0, .int .i64 0, .int .i64 0] 48 (0, 0)) (by exact BK275.out) hb); have n3_ := Aside0.mk (blk_below (g := gb282) (o := .cells #[.int .i64 t278, .int .i64 t279] 43 (0, 0)) (by exact BK282.out) hb); have n4_ := Aside0.mk (blk_below (g := gb283) (o := .cells #[.int .i64 t280, .int .i64 t281] 43 (0, 0)) (by exact BK283.out) hb); have n5_ := Aside0.mk (below_step qn2 hb); have n6_ := Aside0.mk (hbox); have n7_ := Aside0.mk ((by rw [hg]; exact (below_size qn2) : w.heap.size ≤ gb292)); have n8_ := Aside0.mk ((by rw [hg]; exact (below_size qn2) : w.heap.size ≤ gb292)); have n9_ := Aside0.mk ((by rw [hg]; exact Nat.ne_of_lt (blk_lt (g := gb274) (o := .cells #[.slice A0_0 l0_0.length c0_0, .int .i64 a0_1] 24 (0, 0)) (by exact BK274.out)) : gb274 ≠ gb292)); have n10_ := Aside0.mk ((by rw [hg]; exact Nat.ne_of_gt (blk_lt (g := gb274) (o := .cells #[.slice A0_0 l0_0.length c0_0, .int .i64 a0_1] 24 (0, 0)) (by exact BK274.out)) : gb292 ≠ gb274)); have n11_ := Aside0.mk ((by rw [hg]; exact Nat.ne_of_lt (blk_lt (g := gb275) (o := .cells #[.int .i64 0, .int .i64 0, .int .i64 0, .int .i64 0] 48 (0, 0)) (by exact BK275.out)) : gb275 ≠ gb292)); have n12_ := Aside0.mk ((by rw [hg]; exact Nat.ne_of_gt (blk_lt (g := gb275) (o := .cells #[.int .i64 0, .int .i64 0, .int .i64 0, .int .i64 0] 48 (0, 0)) (by exact BK275.out)) : gb292 ≠ gb275)); have n13_ := Aside0.mk ((by rw [hg]; exact Nat.ne_of_lt (blk_lt (g := gb282) (o := .cells #[.int .i64 t278, .int .i64 t279] 43 (0, 0)) (by exact BK282.out)) : gb282 ≠ gb292)); have n14_ := Aside0.mk ((by rw [hg]; exact Nat.ne_of_gt (blk_lt (g := gb282) (o := .cells #[.int .i64 t278, .int .i64 t279] 43 (0, 0)) (by exact BK282.out)) : gb292 ≠ gb282)); have n15_ := Aside0.mk ((by rw [hg]; exact Nat.ne_of_lt (blk_lt (g := gb283) (o := .cells #[.int .i64 t280, .int .i64 t281] 43 (0, 0)) (by exact BK283.out)) : gb283 ≠ gb292)); have n16_ := Aside0.mk ((by rw [hg]; exact Nat.ne_of_gt (blk_lt (g := gb283) (o := .cells #[.int .i64 t280, .int .i64 t281] 43 (0, 0)) (by exact BK283.out)) : gb292 ≠ gb283)); clear HO_10; clear BK274; clear BK275; clear BK282; clear BK283; clear HB; have HO_10 := n0_; have BK274 := n1_; have BK275 := n2_; have BK282 := n3_; have BK283 := n4_; have HB := n5_; have BK292 := n6_; have GW292 := n7_; have GE292 := n8_; have NB274_292 := n9_; have NB292_274 := n10_; have NB275_292 := n11_; have NB292_275 := n12_; have NB282_292 := n13_; have NB292_282 := n14_; have NB283_292 := n15_; have NB292_283 := n16_; clear n0_ n1_ n2_ n3_ n4_ n5_ n6_ n7_ n8_ n9_ n10_ n11_ n12_ n13_ n14_ n15_ n16_; clear hb hbox hg; have hnb77 := NB292_274.out; have hnc77 := NB274_292.out; have hnb78 := NB292_275.out; have hnc78 := NB275_292.out; have hnb79 := NB292_282.out; have hnc79 := NB282_292.out; have hnb80 := NB292_283.out; have hnc80 := NB283_292.out; have hcz81_0 : w76.cell? ⟨gb292, 0, none⟩ = some (.int .i64 0) := (blk_cell BK292.out 0).trans rfl; have hcz81_1 : w76.cell? ⟨gb292, 1, none⟩ = some (.int .i64 0) := (blk_cell BK292.out 1).trans rfl; have hcz81_2 : w76.cell? ⟨gb292, 2, none⟩ = some (.int .i64 0) := (blk_cell BK292.out 2).trans rfl; have hcz81_3 : w76.cell? ⟨gb292, 3, none⟩ = some (.int .i64 0) := (blk_cell BK292.out 3).trans rfl; have hfz81_0 := blk_frozen BK292.out 0; have hfz81_1 := blk_frozen BK292.out 1; have hfz81_2 := blk_frozen BK292.out 2; have hfz81_3 := blk_frozen BK292.out 3; have hnb82 := NB282_274.out; have hnc82 := NB274_282.out; have hnb83 := NB282_275.out; have hnc83 := NB275_282.out; have hnb84 := NB282_283.out; have hnc84 := NB283_282.out; have hcz85_0 : w76.cell? ⟨gb282, 0, none⟩ = some (.int .i64 t278) := (blk_cell BK282.out 0).trans rfl; have hcz85_1 : w76.cell? ⟨gb282, 1, none⟩ = some (.int .i64 t279) := (blk_cell BK282.out 1).trans rfl; have hfz85_0 := blk_frozen BK282.out 0; have hfz85_1 := blk_frozen BK282.out 1; have hnb86 := NB283_274.out; have hnc86 := NB274_283.out; have hnb87 := NB283_275.out; have hnc87 := NB275_283.out; have hcz88_0 : w76.cell? ⟨gb283, 0, none⟩ = some (.int .i64 t280) := (blk_cell BK283.out 0).trans rfl; have hcz88_1 : w76.cell? ⟨gb283, 1, none⟩ = some (.int .i64 t281) := (blk_cell BK283.out 1).trans rfl; have hfz88_0 := blk_frozen BK283.out 0; have hfz88_1 := blk_frozen BK283.out 1; have hnb89 := NB275_274.out; have hnc89 := NB274_275.out; have hcz90_0 : w76.cell? ⟨gb275, 0, none⟩ = some (.int .i64 0) := (blk_cell BK275.out 0).trans rfl; have hcz90_1 : w76.cell? ⟨gb275, 1, none⟩ = some (.int .i64 0) := (blk_cell BK275.out 1).trans rfl; have hcz90_2 : w76.cell? ⟨gb275, 2, none⟩ = some (.int .i64 0) := (blk_cell BK275.out 2).trans rfl; have hcz90_3 : w76.cell? ⟨gb275, 3, none⟩ = some (.int .i64 0) := (blk_cell BK275.out 3).trans rfl; have hfz90_0 := blk_frozen BK275.out 0; have hfz90_1 := blk_frozen BK275.out 1; have hfz90_2 := blk_frozen BK275.out 2; have hfz90_3 := blk_frozen BK275.out 3))
    refine bodyPost_ret (results_ct rfl _ _ gb275 48 #[.int .i64 0, .int .i64 1, .int .i64 t290, .int .i64 t291] (0, 0) _ rfl (by (skip); refine blk_put (cs := #[.int .i64 0, .int .i64 1, .int .i64 t290, .int .i64 0]) ?_ 3 _ rfl; (skip); refine blk_put (cs := #[.int .i64 0, .int .i64 1, .int .i64 0, .int .i64 0]) ?_ 2 _ rfl; (skip); refine blk_put (cs := #[.int .i64 0, .int .i64 0, .int .i64 0, .int .i64 0]) ?_ 1 _ rfl; (skip); refine blk_put (cs := #[.int .i64 0, .int .i64 0, .int .i64 0, .int .i64 0]) ?_ 0 _ rfl; (skip); refine blk_far ?_ NB275_292.out _; (skip); refine blk_far ?_ NB275_292.out _; (skip); refine blk_far ?_ NB275_292.out _; (skip); refine blk_far ?_ NB275_292.out _; (skip); exact BK275.out) Try.underlying48 rfl (by kernel_rfl)) rfl ?_
    exact ⟨by first | rfl | (simp [errW_none, errW_some] <;> rfl) | (simp [*, errW_none, errW_some] <;> rfl), by repeat (first | with_reducible exact HB.out | with_reducible refine below_set ?_ GE275.out | with_reducible refine below_set ?_ GE292.out)⟩
 rw [if_neg c5] at H
 have c5b0 : (t276 == 0) = false := beq_eq_false_iff_ne.mpr c5
 have c5b1 : (t276 != 0) = true := bne_iff_ne.mpr c5
 replace H := Option.bind_eq_some_iff.mp H
 obtain ⟨t277, A910, H⟩ := H
 replace H : (some (0, 0, 0, 0, t277)) = some (r1, r2, r3, r4, r5) := H
 have A91 := Aside0.mk A910
 clear A910
 have EA91 := Aside0.mk (Option.some.inj (A4.out.symm.trans A91.out))
 simp only [Option.some.injEq, Prod.mk.injEq] at H
 obtain ⟨rfl, rfl, rfl, rfl, rfl⟩ := H
 go_enter Try.func31, Try.ntmps31
 go_wp2_with (first | ((with_reducible refine gate_dst (N := 3) rfl ?_); refine box_event ?hg (N := 3) ?hd (cs := #[.slice A0_0 l0_0.length c0_0, .int .i64 a0_1]) (t := 24) ?hr ?_; (case hd => rfl); (case hg => rfl); (case hr => first | (go_simp; done) | (go_simp; rfl)); intro gb274 hg w92 hbox hb; have n0_ := Aside0.mk (below_step qn2 hb); have n1_ := Aside0.mk (hbox); have n2_ := Aside0.mk ((by rw [hg]; exact (below_size qn2) : w.heap.size ≤ gb274)); have n3_ := Aside0.mk ((by rw [hg]; exact (below_size qn2) : w.heap.size ≤ gb274)); clear HB; have HB := n0_; have BK274 := n1_; have GW274 := n2_; have GE274 := n3_; clear n0_ n1_ n2_ n3_; clear hb hbox hg) | ((with_reducible refine gate_dst (N := 6) rfl ?_); refine box_event ?hg (N := 6) ?hd (cs := #[.int .i64 0, .int .i64 0, .int .i64 0, .int .i64 0]) (t := 48) ?hr ?_; (case hd => rfl); (case hg => rfl); (case hr => first | (go_simp; done) | (go_simp; rfl)); intro gb275 hg w93 hbox hb; have n0_ := Aside0.mk (blk_below (g := gb274) (o := .cells #[.slice A0_0 l0_0.length c0_0, .int .i64 a0_1] 24 (0, 0)) (by exact BK274.out) hb); have n1_ := Aside0.mk (below_step qn2 hb); have n2_ := Aside0.mk (hbox); have n3_ := Aside0.mk ((by rw [hg]; exact (below_size qn2) : w.heap.size ≤ gb275)); have n4_ := Aside0.mk ((by rw [hg]; exact (below_size qn2) : w.heap.size ≤ gb275)); have n5_ := Aside0.mk ((by rw [hg]; exact Nat.ne_of_lt (blk_lt (g := gb274) (o := .cells #[.slice A0_0 l0_0.length c0_0, .int .i64 a0_1] 24 (0, 0)) (by exact BK274.out)) : gb274 ≠ gb275)); have n6_ := Aside0.mk ((by rw [hg]; exact Nat.ne_of_gt (blk_lt (g := gb274) (o := .cells #[.slice A0_0 l0_0.length c0_0, .int .i64 a0_1] 24 (0, 0)) (by exact BK274.out)) : gb275 ≠ gb274)); clear BK274; clear HB; have BK274 := n0_; have HB := n1_; have BK275 := n2_; have GW275 := n3_; have GE275 := n4_; have NB274_275 := n5_; have NB275_274 := n6_; clear n0_ n1_ n2_ n3_ n4_ n5_ n6_; clear hb hbox hg; have hnb94 := NB274_275.out; have hnc94 := NB275_274.out; have hcz95_0 : w93.cell? ⟨gb274, 0, none⟩ = some (.slice A0_0 l0_0.length c0_0) := (blk_cell BK274.out 0).trans rfl; have hcz95_1 : w93.cell? ⟨gb274, 1, none⟩ = some (.int .i64 a0_1) := (blk_cell BK274.out 1).trans rfl; have hfz95_0 := blk_frozen BK274.out 0; have hfz95_1 := blk_frozen BK274.out 1) | ((with_reducible refine gate_callee (f := 41) rfl ?_); refine goesL_ (some 24) rfl rfl Try.func41 (by kernel_rfl) rfl #[.agg #[.slice A0_0 l0_0.length c0_0, .int .i64 a0_1], .int .i64 a1, .int .i64 a2] rfl qn1 ?_; (with_reducible refine (forecourtref01_NetError.calls k _ _ l0_0 a0_1 a1 a2 t276 _ ?side1 ?side2 A4.out).mono ?_); (case side1 => (exact (Kd.C_below HR0_0.out HB.out))); (case side2 => exact HC0_0.out); rintro e w96 ⟨rfl, hb⟩; refine ⟨_, rfl, ?_⟩; have n0_ := Aside0.mk (blk_below (g := gb274) (o := .cells #[.slice A0_0 l0_0.length c0_0, .int .i64 a0_1] 24 (0, 0)) (by exact BK274.out) hb); have n1_ := Aside0.mk (blk_below (g := gb275) (o := .cells #[.int .i64 0, .int .i64 0, .int .i64 0, .int .i64 0] 48 (0, 0)) (by exact BK275.out) hb); have n2_ := Aside0.mk (below_step qn2 hb); clear BK274; clear BK275; clear HB; have BK274 := n0_; have BK275 := n1_; have HB := n2_; clear n0_ n1_ n2_; (try clear hb); (try clear hb2); (try clear hk); (try clear hi); have hcz97_0 : w96.cell? ⟨gb274, 0, none⟩ = some (.slice A0_0 l0_0.length c0_0) := (blk_cell BK274.out 0).trans rfl; have hcz97_1 : w96.cell? ⟨gb274, 1, none⟩ = some (.int .i64 a0_1) := (blk_cell BK274.out 1).trans rfl; have hfz97_0 := blk_frozen BK274.out 0; have hfz97_1 := blk_frozen BK274.out 1) | ((with_reducible refine gate_callee (f := 41) rfl ?_); refine goesL_ (some 30) rfl rfl Try.func41 (by kernel_rfl) rfl #[.agg #[.slice A0_0 l0_0.length c0_0, .int .i64 a0_1], .int .i64 a1, .int .i64 a2] rfl qn1 ?_; (with_reducible refine (forecourtref01_NetError.calls k _ _ l0_0 a0_1 a1 a2 t277 _ ?side1 ?side2 A91.out).mono ?_); (case side1 => (exact (Kd.C_below HR0_0.out HB.out))); (case side2 => exact HC0_0.out); rintro e w98 ⟨rfl, hb⟩; refine ⟨_, rfl, ?_⟩; have n0_ := Aside0.mk (blk_below (g := gb274) (o := .cells #[.slice A0_0 l0_0.length c0_0, .int .i64 a0_1] 24 (0, 0)) (by exact BK274.out) hb); have n1_ := Aside0.mk (blk_below (g := gb275) (o := .cells #[.int .i64 0, .int .i64 0, .int .i64 0, .int .i64 0] 48 (0, 0)) (by exact BK275.out) hb); have n2_ := Aside0.mk (below_step qn2 hb); clear BK274; clear BK275; clear HB; have BK274 := n0_; have BK275 := n1_; have HB := n2_; clear n0_ n1_ n2_; (try clear hb); (try clear hb2); (try clear hk); (try clear hi); have hcz99_0 : w98.cell? ⟨gb275, 0, none⟩ = some (.int .i64 0) := (blk_cell BK275.out 0).trans rfl; have hcz99_1 : w98.cell? ⟨gb275, 1, none⟩ = some (.int .i64 0) := (blk_cell BK275.out 1).trans rfl; have hcz99_2 : w98.cell? ⟨gb275, 2, none⟩ = some (.int .i64 0) := (blk_cell BK275.out 2).trans rfl; have hcz99_3 : w98.cell? ⟨gb275, 3, none⟩ = some (.int .i64 0) := (blk_cell BK275.out 3).trans rfl; have hfz99_0 := blk_frozen BK275.out 0; have hfz99_1 := blk_frozen BK275.out 1; have hfz99_2 := blk_frozen BK275.out 2; have hfz99_3 := blk_frozen BK275.out 3))
 refine bodyPost_ret (results_ct rfl _ _ gb275 48 #[.int .i64 0, .int .i64 0, .int .i64 0, .int .i64 0] (0, 0) _ rfl (by (skip); refine blk_put (cs := #[.int .i64 0, .int .i64 0, .int .i64 0, .int .i64 0]) ?_ 3 _ rfl; (skip); refine blk_put (cs := #[.int .i64 0, .int .i64 0, .int .i64 0, .int .i64 0]) ?_ 2 _ rfl; (skip); refine blk_put (cs := #[.int .i64 0, .int .i64 0, .int .i64 0, .int .i64 0]) ?_ 1 _ rfl; (skip); refine blk_put (cs := #[.int .i64 0, .int .i64 0, .int .i64 0, .int .i64 0]) ?_ 0 _ rfl; (skip); exact BK275.out) Try.underlying48 rfl (by kernel_rfl)) rfl ?_
 try (have d_ := EA91.out; clear EA91; subst d_)
 exact ⟨by first | rfl | (simp [errW_none, errW_some] <;> rfl) | (simp [*, errW_none, errW_some] <;> rfl), by (with_reducible refine below_set ?_ GE275.out; with_reducible refine below_set ?_ GE275.out; with_reducible refine below_set ?_ GE275.out; with_reducible refine below_set ?_ GE275.out; with_reducible exact HB.out)⟩
end Go.Proofs.Ytpkajhmchcbbhaa.P
end
