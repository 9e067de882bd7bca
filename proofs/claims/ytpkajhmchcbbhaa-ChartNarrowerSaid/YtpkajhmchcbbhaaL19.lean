/- Part 19 of 44. -/
import Derived.Test.YtpkajhmchcbbhaaL10
import Derived.Test.YtpkajhmchcbbhaaL8
import Derived.Test.YtpkajhmchcbbhaaL11
import Derived.Test.YtpkajhmchcbbhaaL17
import Derived.Test.YtpkajhmchcbbhaaL13
set_option linter.unusedSimpArgs false
set_option linter.unusedVariables false
section
namespace Go.Proofs.Ytpkajhmchcbbhaa.P
open Go.RowKit Go.Proofs.YtpkajhmchcbbhaaW.PrintWords Go.Proofs.YtpkajhmchcbbhaaW.PrintLast Go.Proofs.YtpkajhmchcbbhaaW.PrintMore
attribute [local go_sem high] eqA39
theorem below_dr1 {V W : World} (h : Below V.drew.heap.size V.drew W) : Below V.heap.size V W := ((Below.refl _ V).drew).trans h
theorem below_own (W : World) (o : Obj) : Below W.heap.size W (W.alloc o) := (Below.refl _ _).alloc (Nat.le_refl _) _
theorem blk_call {W W1 : World} {b : Nat} {o : Obj} (hb : Below W.heap.size W W1) (h : W.heap[b]? = some o) : W1.heap[b]? = some o := below_blk hb h (blk_lt h)
set_option maxRecDepth 100000 in
set_option maxHeartbeats 80000000 in
theorem reached_calls (k : Nat) (A : Option Addr) (c : Nat) (l : List SRow) (p : Int) (a1 a2 : Int) (A3 : Option Addr) (c3 : Nat) (l3 : List Int) (d0 d1 n d : Int) (w : World) (t0 t1 u0 u1 : Int)
  (hr : Kd.C kRow w A l.length l) (hc : l.length ≤ c) (hr3 : Kd.C (Kd.int .i64) w A3 l3.length l3) (hc3 : l3.length ≤ c3)
  (hT : forecourtref01_True.f l p a1 = some (t0, t1)) (hU : forecourtref01_True.f l p a2 = some (u0, u1)) (hCC : forecourtref01_CheckChart.f k l p l3 = some 0) (hB : forecourtref01_Between.f k l p l3 d0 d1 = some (n, d))
  (g1 : ¬ d0 < t0) (g2 : ¬ t1 < d0) (g3 : ¬ d1 < u0) (g4 : ¬ u1 < d1) (g5 : ¬ d1 < d0) :
  Calls Try.prog 33 #[.agg #[.slice A l.length c, .int .i64 p], .int .i64 a1, .int .i64 a2, .slice A3 l3.length c3, .agg #[.int .i64 d0, .int .i64 d1], .agg #[.int .i64 n, .int .i64 d]] w fun e w' => e = .returned (.bool true) ∧ Below w.heap.size w w' := by
 have hu1 := Try.underlying24
 have hu2 := Try.underlying39
 have hu3 := Try.underlying43
 have hu5 := Try.underlying51
 have HT := Aside0.mk hT
 have HU := Aside0.mk hU
 have HCC := Aside0.mk hCC
 have HBT := Aside0.mk hB
 have HC := Lib.hid hc
 have HC3 := Lib.hid hc3
 clear hT hU hCC hB hc hc3
 go_enter Try.func33, Try.ntmps33
 go_wp2_with fail
 obtain ⟨V0, hV0⟩ : ∃ V, (((w.alloc (.cells #[.slice A l.length c, .int .i64 p] 24)).alloc (.cells #[.int .i64 d0, .int .i64 d1] 51)).alloc (.cells #[.int .i64 n, .int .i64 d] 39)) = V := ⟨_, rfl⟩
 have K0 : Aside0 (V0.heap[w.heap.size]? = some (.cells #[.slice A l.length c, .int .i64 p] 24 (0, 0))) := ⟨by rw [← hV0]; exact blk_old (blk_old (blk_new _ _))⟩
 have K1 : Aside0 (V0.heap[w.heap.size + 1]? = some (.cells #[.int .i64 d0, .int .i64 d1] 51 (0, 0))) := ⟨by rw [← hV0]; exact blk_old (blk_new' (by simp))⟩
 have K2 : Aside0 (V0.heap[w.heap.size + 2]? = some (.cells #[.int .i64 n, .int .i64 d] 39 (0, 0))) := ⟨by rw [← hV0]; exact blk_new' (by simp)⟩
 have KB : Aside0 (Below w.heap.size w V0) := ⟨by rw [← hV0]; exact (((Below.refl _ _).alloc (Nat.le_refl _) _).alloc (by simp) _).alloc (by simp; omega) _⟩
 rw [hV0]
 clear hV0
 have HR := Aside0.mk (Kd.C_below hr KB.out)
 have HR3 := Aside0.mk (Kd.C_below hr3 KB.out)
 clear hr hr3
 have c0 : V0.cell? ⟨w.heap.size, 0, none⟩ = some (.slice A l.length c) := (blk_cell K0.out 0).trans rfl
 have c1 : V0.cell? ⟨w.heap.size, 1, none⟩ = some (.int .i64 p) := (blk_cell K0.out 1).trans rfl
 have hlt : w.heap.size + 2 < V0.heap.size := blk_lt K2.out
 (refine start_ (n := 10) (S := fun w' => Below (World.heap _).size _ w') (ds := [8, 9]) (List.toArray (false :: false :: false :: false :: false :: false :: false :: false :: false :: false :: [])) (by kernel_rfl) rfl rfl (belowDrew _) (fun plS => ?_); refine pureY (i := 1) (N := (some 16)) ?_; refine pureY (i := 4) (N := (some 19)) ?_; refine takeF (i := 0) (N := (some 15)) (hS := plS) (hy := by (intro w' hw'; replace hw' : Below (World.heap V0).size V0 w' := hw'; have q0 := pw_cell_below hw' c0; have q1 := pw_cell_below hw' c1; exact yieldA)) (h := ?_); refine takeF (i := 3) (N := (some 18)) (hS := plS) (hy := by (intro w' hw'; replace hw' : Below (World.heap V0).size V0 w' := hw'; have q0 := pw_cell_below hw' c0; have q1 := pw_cell_below hw' c1; exact yieldA)) (h := ?_))
 obtain ⟨y0, hy0⟩ : ∃ Y, V0.drew = Y := ⟨_, rfl⟩
 have hB0 : Below V0.heap.size V0 y0 := by rw [← hy0]; exact (Below.refl _ V0).drew
 rw [hy0]
 clear hy0 plS
 refine join_ (σ := Nat × Nat) 2 (List.toArray (true :: true :: true :: true :: true :: true :: true :: true :: false :: false :: [])) (fun s => [(17, .agg #[.int .i64 t0, .int .i64 t1]), (20, .agg #[.int .i64 u0, .int .i64 u1]), (13, .pointer (some ⟨s.1, 0, none⟩)), (14, .pointer (some ⟨s.2, 0, none⟩))])
  (fun s W => Below V0.heap.size V0 W ∧ W.heap[s.1]? = some (.cells #[.int .i64 0, .int .i64 0] 43 (0, 0)) ∧ W.heap[s.2]? = some (.cells #[.int .i64 0, .int .i64 0] 43 (0, 0)) ∧ V0.heap.size ≤ s.1 ∧ V0.heap.size ≤ s.2 ∧ s.1 ≠ s.2) ?_ ?_
 rotate_left
 ·intro hJ
  (refine three_ (i := 2) (j := 6) (k := 7) (List.toArray (true :: true :: true :: true :: true :: false :: false :: false :: false :: false :: [])) (List.toArray (true :: true :: false :: true :: true :: false :: true :: false :: false :: false :: [])) (List.toArray (true :: true :: false :: true :: true :: false :: false :: true :: false :: false :: [])) rfl rfl rfl rfl rfl rfl (by kernel_rfl) (by decide) (by decide) (by decide) (fun plK plH => ?_) (fun plK plH => ?_) (fun plK plH => ?_))
  all_goals (try (rw [if_pos (by rfl)]; (first | gi_big_move | go_big_op | go_simp)))
  all_goals (first | (with_reducible refine (forecourtref01_True.calls A c l p a1 t0 t1 _ (Kd.C_below HR.out hB0) HC.out HT.out).mono ?_; rintro e y1 ⟨rfl, hx1⟩) | (with_reducible refine (forecourtref01_True.calls A c l p a2 u0 u1 _ (Kd.C_below HR.out hB0) HC.out HU.out).mono ?_; rintro e y1 ⟨rfl, hx1⟩) | (obtain ⟨y1, hy⟩ : ∃ Y, World.alloc y0 (.cells #[.int .i64 0, .int .i64 0] 43) = Y := ⟨_, rfl⟩; obtain ⟨b1, hb⟩ : ∃ b, b = y0.heap.size := ⟨_, rfl⟩; have hx1 : Below (World.heap y0).size y0 y1 := (by rw [← hy]; exact below_own _ _); have hM1 : y1.heap[b1]? = some (.cells #[.int .i64 0, .int .i64 0] 43 (0, 0)) := (by rw [← hy, hb]; exact blk_new _ _); have hE1 : Hid (b1 = y0.heap.size) := Lib.hid hb; have hL1 : V0.heap.size ≤ b1 := (by rw [hb]; exact hB0.size); rw [hy, ← hb]; clear hy hb))
  all_goals have hB1 : Below V0.heap.size V0 y1 := (below_then hB0 hx1)
  all_goals (  skip)
  all_goals (first | ((try simp only [Act.put, List.getElem_toArray, List.getElem_cons_succ, List.getElem_cons_zero, List.setIfInBounds_toArray, List.set_cons_succ, List.set_cons_zero]); refine plH _ _ hB1 (fun plS => ?_); clear plH plK; refine at_ #[true, true, true, true, true, false, false, false, false, false] rfl ?_; refine three_ (i := 5) (j := 6) (k := 7) (List.toArray (true :: true :: true :: true :: true :: true :: false :: false :: false :: false :: [])) (List.toArray (true :: true :: true :: true :: true :: false :: true :: false :: false :: false :: [])) (List.toArray (true :: true :: true :: true :: true :: false :: false :: true :: false :: false :: [])) rfl rfl rfl rfl rfl rfl (by kernel_rfl) (by decide) (by decide) (by decide) (fun plK plH => ?_) (fun plK plH => ?_) (fun plK plH => ?_)) | ((try simp only [Act.put, List.getElem_toArray, List.getElem_cons_succ, List.getElem_cons_zero, List.setIfInBounds_toArray, List.set_cons_succ, List.set_cons_zero]); refine plH _ _ hB1 (fun plS => ?_); clear plH plK; refine at_ #[true, true, false, true, true, false, true, false, false, false] rfl ?_; refine two_ (i := 2) (j := 7) (List.toArray (true :: true :: true :: true :: true :: false :: true :: false :: false :: false :: [])) (List.toArray (true :: true :: false :: true :: true :: false :: true :: true :: false :: false :: [])) rfl rfl rfl rfl (by kernel_rfl) (by decide) (by decide) (fun plK plH => ?_) (fun plK plH => ?_)) | ((try simp only [Act.put, List.getElem_toArray, List.getElem_cons_succ, List.getElem_cons_zero, List.setIfInBounds_toArray, List.set_cons_succ, List.set_cons_zero]); refine plH _ _ hB1 (fun plS => ?_); clear plH plK; refine at_ #[true, true, false, true, true, false, false, true, false, false] rfl ?_; refine two_ (i := 2) (j := 6) (List.toArray (true :: true :: true :: true :: true :: false :: false :: true :: false :: false :: [])) (List.toArray (true :: true :: false :: true :: true :: false :: true :: true :: false :: false :: [])) rfl rfl rfl rfl (by kernel_rfl) (by decide) (by decide) (fun plK plH => ?_) (fun plK plH => ?_)))
  all_goals (try (rw [if_pos (by rfl)]; (first | gi_big_move | go_big_op | go_simp)))
  all_goals (first | (with_reducible refine (forecourtref01_True.calls A c l p a1 t0 t1 _ (Kd.C_below HR.out hB1) HC.out HT.out).mono ?_; rintro e y2 ⟨rfl, hx2⟩) | (with_reducible refine (forecourtref01_True.calls A c l p a2 u0 u1 _ (Kd.C_below HR.out hB1) HC.out HU.out).mono ?_; rintro e y2 ⟨rfl, hx2⟩) | (obtain ⟨y2, hy⟩ : ∃ Y, World.alloc y1 (.cells #[.int .i64 0, .int .i64 0] 43) = Y := ⟨_, rfl⟩; obtain ⟨b2, hb⟩ : ∃ b, b = y1.heap.size := ⟨_, rfl⟩; have hx2 : Below (World.heap y1).size y1 y2 := (by rw [← hy]; exact below_own _ _); have hM2 : y2.heap[b2]? = some (.cells #[.int .i64 0, .int .i64 0] 43 (0, 0)) := (by rw [← hy, hb]; exact blk_new _ _); have hE2 : Hid (b2 = y1.heap.size) := Lib.hid hb; have hL2 : V0.heap.size ≤ b2 := (by rw [hb]; exact hB1.size); rw [hy, ← hb]; clear hy hb))
  all_goals have hB2 : Below V0.heap.size V0 y2 := (below_then hB1 hx2)
  all_goals ((try have hD12 : b1 ≠ b2 := (by rw [hE2.out]; exact Nat.ne_of_lt (blk_lt hM1))); (try replace hM1 := blk_call hx2 hM1); skip)
  all_goals (first | ((try simp only [Act.put, List.getElem_toArray, List.getElem_cons_succ, List.getElem_cons_zero, List.setIfInBounds_toArray, List.set_cons_succ, List.set_cons_zero]); refine plH _ _ hB2 (fun plS => ?_); clear plH plK; refine at_ #[true, true, true, true, true, true, false, false, false, false] rfl ?_; refine two_ (i := 6) (j := 7) (List.toArray (true :: true :: true :: true :: true :: true :: true :: false :: false :: false :: [])) (List.toArray (true :: true :: true :: true :: true :: true :: false :: true :: false :: false :: [])) rfl rfl rfl rfl (by kernel_rfl) (by decide) (by decide) (fun plK plH => ?_) (fun plK plH => ?_)) | ((try simp only [Act.put, List.getElem_toArray, List.getElem_cons_succ, List.getElem_cons_zero, List.setIfInBounds_toArray, List.set_cons_succ, List.set_cons_zero]); refine plH _ _ hB2 (fun plS => ?_); clear plH plK; refine at_ #[true, true, true, true, true, false, true, false, false, false] rfl ?_; refine two_ (i := 5) (j := 7) (List.toArray (true :: true :: true :: true :: true :: true :: true :: false :: false :: false :: [])) (List.toArray (true :: true :: true :: true :: true :: false :: true :: true :: false :: false :: [])) rfl rfl rfl rfl (by kernel_rfl) (by decide) (by decide) (fun plK plH => ?_) (fun plK plH => ?_)) | ((try simp only [Act.put, List.getElem_toArray, List.getElem_cons_succ, List.getElem_cons_zero, List.setIfInBounds_toArray, List.set_cons_succ, List.set_cons_zero]); refine plH _ _ hB2 (fun plS => ?_); clear plH plK; refine at_ #[true, true, true, true, true, false, false, true, false, false] rfl ?_; refine two_ (i := 5) (j := 6) (List.toArray (true :: true :: true :: true :: true :: true :: false :: true :: false :: false :: [])) (List.toArray (true :: true :: true :: true :: true :: false :: true :: true :: false :: false :: [])) rfl rfl rfl rfl (by kernel_rfl) (by decide) (by decide) (fun plK plH => ?_) (fun plK plH => ?_)) | ((try simp only [Act.put, List.getElem_toArray, List.getElem_cons_succ, List.getElem_cons_zero, List.setIfInBounds_toArray, List.set_cons_succ, List.set_cons_zero]); refine plH _ _ hB2 (fun plS => ?_); clear plH plK; refine at_ #[true, true, false, true, true, false, true, true, false, false] rfl ?_; refine oneY (i := 2) (fun plK plH => ?_); rw [if_pos (by rfl)]; (first | gi_big_move | go_big_op | go_simp)))
  all_goals (try (rw [if_pos (by rfl)]; (first | gi_big_move | go_big_op | go_simp)))
  all_goals (first | (with_reducible refine (forecourtref01_True.calls A c l p a1 t0 t1 _ (Kd.C_below HR.out hB2) HC.out HT.out).mono ?_; rintro e y3 ⟨rfl, hx3⟩) | (with_reducible refine (forecourtref01_True.calls A c l p a2 u0 u1 _ (Kd.C_below HR.out hB2) HC.out HU.out).mono ?_; rintro e y3 ⟨rfl, hx3⟩) | (obtain ⟨y3, hy⟩ : ∃ Y, World.alloc y2 (.cells #[.int .i64 0, .int .i64 0] 43) = Y := ⟨_, rfl⟩; obtain ⟨b3, hb⟩ : ∃ b, b = y2.heap.size := ⟨_, rfl⟩; have hx3 : Below (World.heap y2).size y2 y3 := (by rw [← hy]; exact below_own _ _); have hM3 : y3.heap[b3]? = some (.cells #[.int .i64 0, .int .i64 0] 43 (0, 0)) := (by rw [← hy, hb]; exact blk_new _ _); have hE3 : Hid (b3 = y2.heap.size) := Lib.hid hb; have hL3 : V0.heap.size ≤ b3 := (by rw [hb]; exact hB2.size); rw [hy, ← hb]; clear hy hb))
  all_goals have hB3 : Below V0.heap.size V0 y3 := (below_then hB2 hx3)
  all_goals ((try have hD13 : b1 ≠ b3 := (by rw [hE3.out]; exact Nat.ne_of_lt (blk_lt hM1))); (try have hD23 : b2 ≠ b3 := (by rw [hE3.out]; exact Nat.ne_of_lt (blk_lt hM2))); (try replace hM1 := blk_call hx3 hM1); (try replace hM2 := blk_call hx3 hM2); skip)
  all_goals (first | ((try simp only [Act.put, List.getElem_toArray, List.getElem_cons_succ, List.getElem_cons_zero, List.setIfInBounds_toArray, List.set_cons_succ, List.set_cons_zero]); refine plH _ _ hB3 (fun plS => ?_); clear plH plK; refine at_ #[true, true, true, true, true, true, true, false, false, false] rfl ?_; refine oneY (i := 7) (fun plK plH => ?_); rw [if_pos (by rfl)]; (first | gi_big_move | go_big_op | go_simp)) | ((try simp only [Act.put, List.getElem_toArray, List.getElem_cons_succ, List.getElem_cons_zero, List.setIfInBounds_toArray, List.set_cons_succ, List.set_cons_zero]); refine plH _ _ hB3 (fun plS => ?_); clear plH plK; refine at_ #[true, true, true, true, true, true, false, true, false, false] rfl ?_; refine oneY (i := 6) (fun plK plH => ?_); rw [if_pos (by rfl)]; (first | gi_big_move | go_big_op | go_simp)) | ((try simp only [Act.put, List.getElem_toArray, List.getElem_cons_succ, List.getElem_cons_zero, List.setIfInBounds_toArray, List.set_cons_succ, List.set_cons_zero]); refine plH _ _ hB3 (fun plS => ?_); clear plH plK; refine at_ #[true, true, true, true, true, false, true, true, false, false] rfl ?_; refine oneY (i := 5) (fun plK plH => ?_); rw [if_pos (by rfl)]; (first | gi_big_move | go_big_op | go_simp)))
  all_goals (try (rw [if_pos (by rfl)]; (first | gi_big_move | go_big_op | go_simp)))
  all_goals (first | (with_reducible refine (forecourtref01_True.calls A c l p a1 t0 t1 _ (Kd.C_below HR.out hB3) HC.out HT.out).mono ?_; rintro e y4 ⟨rfl, hx4⟩) | (with_reducible refine (forecourtref01_True.calls A c l p a2 u0 u1 _ (Kd.C_below HR.out hB3) HC.out HU.out).mono ?_; rintro e y4 ⟨rfl, hx4⟩) | (obtain ⟨y4, hy⟩ : ∃ Y, World.alloc y3 (.cells #[.int .i64 0, .int .i64 0] 43) = Y := ⟨_, rfl⟩; obtain ⟨b4, hb⟩ : ∃ b, b = y3.heap.size := ⟨_, rfl⟩; have hx4 : Below (World.heap y3).size y3 y4 := (by rw [← hy]; exact below_own _ _); have hM4 : y4.heap[b4]? = some (.cells #[.int .i64 0, .int .i64 0] 43 (0, 0)) := (by rw [← hy, hb]; exact blk_new _ _); have hE4 : Hid (b4 = y3.heap.size) := Lib.hid hb; have hL4 : V0.heap.size ≤ b4 := (by rw [hb]; exact hB3.size); rw [hy, ← hb]; clear hy hb))
  all_goals have hB4 : Below V0.heap.size V0 y4 := (below_then hB3 hx4)
  all_goals ((try have hD14 : b1 ≠ b4 := (by rw [hE4.out]; exact Nat.ne_of_lt (blk_lt hM1))); (try have hD24 : b2 ≠ b4 := (by rw [hE4.out]; exact Nat.ne_of_lt (blk_lt hM2))); (try have hD34 : b3 ≠ b4 := (by rw [hE4.out]; exact Nat.ne_of_lt (blk_lt hM3))); (try replace hM1 := blk_call hx4 hM1); (try replace hM2 := blk_call hx4 hM2); (try replace hM3 := blk_call hx4 hM3); skip)
  all_goals (refine plH _ _ hB4 (fun plS => ?_); clear plH plK plS; (try simp only [Act.put, List.getElem_toArray, List.getElem_cons_succ, List.getElem_cons_zero, List.setIfInBounds_toArray, List.set_cons_succ, List.set_cons_zero]); first | exact hJ (b1, b2) y4 ⟨hB4, hM1, hM2, hL1, hL2, hD12⟩ | exact hJ (b1, b3) y4 ⟨hB4, hM1, hM3, hL1, hL3, hD13⟩ | exact hJ (b1, b4) y4 ⟨hB4, hM1, hM4, hL1, hL4, hD14⟩ | exact hJ (b2, b1) y4 ⟨hB4, hM2, hM1, hL2, hL1, hD12.symm⟩ | exact hJ (b2, b3) y4 ⟨hB4, hM2, hM3, hL2, hL3, hD23⟩ | exact hJ (b2, b4) y4 ⟨hB4, hM2, hM4, hL2, hL4, hD24⟩ | exact hJ (b3, b1) y4 ⟨hB4, hM3, hM1, hL3, hL1, hD13.symm⟩ | exact hJ (b3, b2) y4 ⟨hB4, hM3, hM2, hL3, hL2, hD23.symm⟩ | exact hJ (b3, b4) y4 ⟨hB4, hM3, hM4, hL3, hL4, hD34⟩ | exact hJ (b4, b1) y4 ⟨hB4, hM4, hM1, hL4, hL1, hD14.symm⟩ | exact hJ (b4, b2) y4 ⟨hB4, hM4, hM2, hL4, hL2, hD24.symm⟩ | exact hJ (b4, b3) y4 ⟨hB4, hM4, hM3, hL4, hL3, hD34.symm⟩)
 rintro ⟨g, g'⟩ W ⟨hBW, hG1, hG2, hL1, hL2, hne⟩
 refine norm_ (a' := ?_) (by (simp only [putAll, Act.put, List.setIfInBounds_toArray, List.set_cons_zero, List.set_cons_succ]; rfl)) ?_
 simp only at hG1 hG2 hL1 hL2 hne
 have x0 := blk_cell hG1 0
 have x1 := blk_cell hG1 1
 have xf0 := blk_frozen hG1 0
 have xf1 := blk_frozen hG1 1
 have hlt1 := blk_lt hG1
 (refine lastY (i := 8) (fun plK plH => ?_); rw [if_pos (by rfl)]; (first | gi_big_move | go_big_op | go_simp))
 obtain ⟨W2, hW2⟩ : ∃ Z, ((W.setCell ⟨g, 0, none⟩ (.int .i64 t0)).setCell ⟨g, 1, none⟩ (.int .i64 t1)) = Z := ⟨_, rfl⟩
 have hB2 : Below V0.heap.size V0 W2 := by rw [← hW2]; exact put2_below _ _ hBW hL1
 have hA1 : W2.heap[g]? = some (.cells #[.int .i64 t0, .int .i64 t1] 43 (0, 0)) := by rw [← hW2]; exact put2 _ _ hG1
 have hA2 : W2.heap[g']? = some (.cells #[.int .i64 0, .int .i64 0] 43 (0, 0)) := by rw [← hW2]; exact (Below.heap_setCell _ _ _ _ hne.symm).trans ((Below.heap_setCell _ _ _ _ hne.symm).trans hG2)
 rw [hW2]
 clear hW2 x0 x1 xf0 xf1 hlt1 hG1 hG2 hBW
 have x0 := blk_cell hA2 0
 have x1 := blk_cell hA2 1
 have xf0 := blk_frozen hA2 0
 have xf1 := blk_frozen hA2 1
 have hlt1 := blk_lt hA2
 ((try simp only [Act.put, List.getElem_toArray, List.getElem_cons_succ, List.getElem_cons_zero, List.setIfInBounds_toArray, List.set_cons_succ, List.set_cons_zero]); refine plH _ _ ?_; clear plH plK; refine lastY (i := 9) (fun plK plH => ?_); rw [if_pos (by rfl)]; (first | gi_big_move | go_big_op | go_simp))
 obtain ⟨W3, hW3⟩ : ∃ Z, ((W2.setCell ⟨g', 0, none⟩ (.int .i64 u0)).setCell ⟨g', 1, none⟩ (.int .i64 u1)) = Z := ⟨_, rfl⟩
 have hB3 : Below V0.heap.size V0 W3 := by rw [← hW3]; exact put2_below _ _ hB2 hL2
 have hC1 : W3.heap[g]? = some (.cells #[.int .i64 t0, .int .i64 t1] 43 (0, 0)) := by rw [← hW3]; exact (Below.heap_setCell _ _ _ _ hne).trans ((Below.heap_setCell _ _ _ _ hne).trans hA1)
 have hC2 : W3.heap[g']? = some (.cells #[.int .i64 u0, .int .i64 u1] 43 (0, 0)) := by rw [← hW3]; exact put2 _ _ hA2
 rw [hW3]
 clear hW3 x0 x1 xf0 xf1 hlt1 hA1 hA2 hB2
 ((try simp only [Act.put, List.getElem_toArray, List.getElem_cons_succ, List.getElem_cons_zero, List.setIfInBounds_toArray, List.set_cons_succ, List.set_cons_zero]); refine plH _ _ ?_; clear plH plK; refine done_ (by kernel_rfl) ?_)
 have HC1 := Aside0.mk hC1
 have HC2 := Aside0.mk hC2
 replace c0 := pw_cell_below hB3 c0
 replace c1 := pw_cell_below hB3 c1
 clear hC1 hC2
 go_wp2_with fail
 refine (forecourtref01_CheckChart.calls k A c l p A3 c3 l3 0 W3 (Kd.C_below HR.out hB3) HC.out (Kd.C_below HR3.out hB3) HC3.out HCC.out).mono ?_
 rintro e W4 ⟨rfl, hb⟩
 have hB4 := below_then hB3 hb
 have hD1 := blk_call hb HC1.out
 have hD2 := blk_call hb HC2.out
 have hD3 := blk_call hB4 K0.out
 have hD4 := blk_call hB4 K1.out
 have hD5 := blk_call hB4 K2.out
 clear hb hB3 c0 c1
 have f0 : W4.cell? ⟨w.heap.size, 0, none⟩ = some (.slice A l.length c) := (blk_cell hD3 0).trans rfl
 have f1 : W4.cell? ⟨w.heap.size, 1, none⟩ = some (.int .i64 p) := (blk_cell hD3 1).trans rfl
 have f2 : W4.cell? ⟨w.heap.size + 1, 0, none⟩ = some (.int .i64 d0) := (blk_cell hD4 0).trans rfl
 have f3 : W4.cell? ⟨w.heap.size + 1, 1, none⟩ = some (.int .i64 d1) := (blk_cell hD4 1).trans rfl
 have f4 : W4.cell? ⟨w.heap.size + 1 + 1, 0, none⟩ = some (.int .i64 n) := (blk_cell hD5 0).trans rfl
 have f5 : W4.cell? ⟨w.heap.size + 1 + 1, 1, none⟩ = some (.int .i64 d) := (blk_cell hD5 1).trans rfl
 have f6 : W4.cell? ⟨g, 0, none⟩ = some (.int .i64 t0) := (blk_cell hD1 0).trans rfl
 have f7 : W4.cell? ⟨g, 1, none⟩ = some (.int .i64 t1) := (blk_cell hD1 1).trans rfl
 have f8 : W4.cell? ⟨g', 0, none⟩ = some (.int .i64 u0) := (blk_cell hD2 0).trans rfl
 have f9 : W4.cell? ⟨g', 1, none⟩ = some (.int .i64 u1) := (blk_cell hD2 1).trans rfl
 clear hD1 hD2 hD3 hD4 hD5
 have b1 : decide (d0 < t0) = false := decide_eq_false (by omega)
 have b2 : decide (t1 < d0) = false := decide_eq_false (by omega)
 have b3 : decide (d1 < u0) = false := decide_eq_false (by omega)
 have b4 : decide (u1 < d1) = false := decide_eq_false (by omega)
 have b5 : decide (d1 < d0) = false := decide_eq_false (by omega)
 go_wp2_with fail
 (refine start_ (n := 10) (S := fun w' => Below (World.heap _).size _ w') (ds := []) (List.toArray (false :: false :: false :: false :: false :: false :: false :: false :: false :: false :: [])) (by kernel_rfl) rfl rfl (belowDrew _) (fun plS => ?_); refine pureY (i := 1) (N := (some 61)) ?_; refine pureY (i := 2) (N := (some 62)) ?_; refine pureY (i := 4) (N := (some 64)) ?_; refine takeF (i := 0) (N := (some 60)) (hS := plS) (hy := by (intro w' hw'; replace hw' : Below (World.heap W4).size W4 w' := hw'; have q0 := pw_cell_below hw' f0; have q1 := pw_cell_below hw' f1; have q2 := pw_cell_below hw' f2; have q3 := pw_cell_below hw' f3; have q4 := pw_cell_below hw' f4; have q5 := pw_cell_below hw' f5; have q6 := pw_cell_below hw' f6; have q7 := pw_cell_below hw' f7; have q8 := pw_cell_below hw' f8; have q9 := pw_cell_below hw' f9; exact yieldA)) (h := ?_); refine takeF (i := 3) (N := (some 63)) (hS := plS) (hy := by (intro w' hw'; replace hw' : Below (World.heap W4).size W4 w' := hw'; have q0 := pw_cell_below hw' f0; have q1 := pw_cell_below hw' f1; have q2 := pw_cell_below hw' f2; have q3 := pw_cell_below hw' f3; have q4 := pw_cell_below hw' f4; have q5 := pw_cell_below hw' f5; have q6 := pw_cell_below hw' f6; have q7 := pw_cell_below hw' f7; have q8 := pw_cell_below hw' f8; have q9 := pw_cell_below hw' f9; exact yieldA)) (h := ?_); refine takeF (i := 5) (N := (some 65)) (hS := plS) (hy := by (intro w' hw'; replace hw' : Below (World.heap W4).size W4 w' := hw'; have q0 := pw_cell_below hw' f0; have q1 := pw_cell_below hw' f1; have q2 := pw_cell_below hw' f2; have q3 := pw_cell_below hw' f3; have q4 := pw_cell_below hw' f4; have q5 := pw_cell_below hw' f5; have q6 := pw_cell_below hw' f6; have q7 := pw_cell_below hw' f7; have q8 := pw_cell_below hw' f8; have q9 := pw_cell_below hw' f9; exact yieldA)) (h := ?_); refine takeF (i := 7) (N := (some 67)) (hS := plS) (hy := by (intro w' hw'; replace hw' : Below (World.heap W4).size W4 w' := hw'; have q0 := pw_cell_below hw' f0; have q1 := pw_cell_below hw' f1; have q2 := pw_cell_below hw' f2; have q3 := pw_cell_below hw' f3; have q4 := pw_cell_below hw' f4; have q5 := pw_cell_below hw' f5; have q6 := pw_cell_below hw' f6; have q7 := pw_cell_below hw' f7; have q8 := pw_cell_below hw' f8; have q9 := pw_cell_below hw' f9; exact yieldA)) (h := ?_); refine oneY (i := 6) (fun plK plH => ?_); rw [if_pos (by rfl)]; (first | gi_big_move | go_big_op | go_simp))
 refine (forecourtref01_Between.calls k A c l p A3 c3 l3 d0 d1 n d _ (Kd.C_below HR.out hB4.drew) HC.out (Kd.C_below HR3.out hB4.drew) HC3.out HBT.out).mono ?_
 rintro e W5 ⟨rfl, hb⟩
 have hB6 : Below W4.heap.size W4 W5 := below_dr1 hb
 clear hb
 ((try simp only [Act.put, List.getElem_toArray, List.getElem_cons_succ, List.getElem_cons_zero, List.setIfInBounds_toArray, List.set_cons_succ, List.set_cons_zero]); refine plH _ _ hB6 (fun plS => ?_); clear plH plK; refine pureY (i := 8) (N := (some 68)) ?_; refine pureY (i := 9) (N := (some 12)) ?_; refine done_ (by kernel_rfl) ?_)
 clear plS
 go_wp2_with fail
 go_ret
 exact ⟨rfl, below_then KB.out (below_then hB4 hB6)⟩
theorem reached_parts {k : Nat} {l : List SRow} {p a1 a2 : Int} {l3 : List Int} {d0 d1 n d : Int} (h : forecourtlaw01_reached.f k l p a1 a2 l3 d0 d1 n d = some true) :
  ∃ t0 t1 u0 u1, forecourtref01_True.f l p a1 = some (t0, t1) ∧ forecourtref01_True.f l p a2 = some (u0, u1) ∧ forecourtref01_CheckChart.f k l p l3 = some 0 ∧ forecourtref01_Between.f k l p l3 d0 d1 = some (n, d) ∧ ¬ d0 < t0 ∧ ¬ t1 < d0 ∧ ¬ d1 < u0 ∧ ¬ u1 < d1 ∧ ¬ d1 < d0 := by
 unfold forecourtlaw01_reached.f at h
 obtain ⟨⟨t0, t1⟩, e1, h⟩ := Option.bind_eq_some_iff.1 h
 obtain ⟨⟨u0, u1⟩, e2, h⟩ := Option.bind_eq_some_iff.1 h
 obtain ⟨z, e3, h⟩ := Option.bind_eq_some_iff.1 h
 by_cases hz : z = 0
 ·rw [if_pos hz] at h
  subst hz
  simp only at h
  split at h
  ·cases h
  split at h
  ·cases h
  split at h
  ·cases h
  split at h
  ·cases h
  split at h
  ·cases h
  obtain ⟨⟨x, y⟩, e4, h⟩ := Option.bind_eq_some_iff.1 h
  have h := Option.some.inj h
  simp only [Bool.and_eq_true, beq_iff_eq] at h
  obtain ⟨rfl, rfl⟩ := h
  exact ⟨t0, t1, u0, u1, e1, e2, e3, e4, by assumption, by omega, by assumption, by omega, by omega⟩
 rw [if_neg hz] at h; cases h
end Go.Proofs.Ytpkajhmchcbbhaa.P
end
section
namespace Go.Proofs.Ytpkajhmchcbbhaa.P
open Go.RowKit Go.Proofs.YtpkajhmchcbbhaaW.PrintWords Go.Proofs.YtpkajhmchcbbhaaW.PrintLast Go.Proofs.YtpkajhmchcbbhaaW.PrintMore
theorem forecourtlaw01_reached.calls (k : Nat) (A0_0 : Option Addr) (c0_0 : Nat) (l0_0 : List (S70)) (a0_1 : Int) (a1 : Int) (a2 : Int) (A3 : Option Addr) (c3 : Nat) (l3 : List Int) (a4_0 : Int) (a4_1 : Int) (a5_0 : Int) (a5_1 : Int) (r : Bool) (w : World) (hr0_0 : Kd.C k70 w A0_0 l0_0.length l0_0) (hc0_0 : l0_0.length ≤ c0_0) (hr3 : Kd.C (Kd.int .i64) w A3 l3.length l3) (hc3 : l3.length ≤ c3) (HRT : Aside0 (r = true)) (h : forecourtlaw01_reached.f k l0_0 a0_1 a1 a2 l3 a4_0 a4_1 a5_0 a5_1 = some r) :
  Calls Try.prog 33 #[.agg #[.slice A0_0 l0_0.length c0_0, .int .i64 a0_1], .int .i64 a1, .int .i64 a2, .slice A3 l3.length c3, .agg #[.int .i64 a4_0, .int .i64 a4_1], .agg #[.int .i64 a5_0, .int .i64 a5_1]] w fun e w' => e = .returned (.bool r) ∧ Below w.heap.size w w' := by
 obtain rfl := HRT.out
 obtain ⟨t0, t1, u0, u1, e1, e2, e3, e4, g1, g2, g3, g4, g5⟩ := reached_parts h
 exact reached_calls k A0_0 c0_0 l0_0 a0_1 a1 a2 A3 c3 l3 a4_0 a4_1 a5_0 a5_1 w t0 t1 u0 u1 hr0_0 hc0_0 hr3 hc3 e1 e2 e3 e4 g1 g2 g3 g4 g5
end Go.Proofs.Ytpkajhmchcbbhaa.P
end
section
namespace Go.Proofs.Ytpkajhmchcbbhaa.P
open Go.RowKit Go.Proofs.YtpkajhmchcbbhaaW.PrintWords Go.Proofs.YtpkajhmchcbbhaaW.PrintLast Go.Proofs.YtpkajhmchcbbhaaW.PrintMore
theorem halveF_yes (good : Int → Bool) (lo hi : Int) (h : lo ≤ hi) (hg : good (lo + (hi - lo) / 2) = true) : halveF good lo hi = halveF good lo (lo + (hi - lo) / 2 - 1) := by
 rw [halveF, dif_pos h, if_pos hg]
theorem halveF_no (good : Int → Bool) (lo hi : Int) (h : lo ≤ hi) (hg : good (lo + (hi - lo) / 2) = false) : halveF good lo hi = halveF good (lo + (hi - lo) / 2 + 1) hi := by
 rw [halveF, dif_pos h, if_neg (by rw [hg]; simp)]
theorem halveF_end (good : Int → Bool) (lo hi : Int) (h : ¬ lo ≤ hi) : halveF good lo hi = lo := by rw [halveF, dif_neg h]
def PredIn (w : World) (g : FuncId) (lb : Array Value) (p : Int → Bool) (lo hi : Int) : Prop :=
 ∀ W n, lo ≤ n → n ≤ hi → Below w.heap.size w W → Calls Try.prog g (#[.int .i64 n] ++ lb) W (fun e W' => e = .returned (.bool (p n)) ∧ Below W.heap.size W W')
set_option maxRecDepth 100000 in
set_option maxHeartbeats 1000000 in
theorem halve_calls (lo0 hi0 : Int) (hlo : 0 ≤ lo0) (hhi : hi0 ≤ 100000) (g : Nat) (lb : Array Value) (p : Int → Bool) (w : World) (hp : PredIn w g lb p lo0 hi0) (hle : lo0 ≤ hi0)
  (eg : ∀ args w, (callFunc g args).run Try.prog w = .ok (.enter g args) w) :
  Calls Try.prog 72 #[.int .i64 lo0, .int .i64 hi0, .func (.func g) #[] lb] w fun e w' => e = .returned (.int .i64 (halveF p lo0 hi0)) ∧ Below w.heap.size w w' := by
 have HP := Aside0.mk hp
 clear hp
 go_enter Try.func72, Try.ntmps72
 go_wp2_with fail
 go_loopw [0, 1] (fun v0 v1 w' => ∃ lo hi : Int, v0 = .int .i64 lo ∧ v1 = .int .i64 hi ∧ lo0 ≤ lo ∧ hi ≤ hi0 ∧ lo ≤ hi + 1 ∧ Aside0 (halveF p lo0 hi0 = halveF p lo hi) ∧ Below w.heap.size w w') (fun v0 v1 _ => (intOf v1 + 1 - intOf v0).toNat)
 case atStart => exact ⟨lo0, hi0, rfl, rfl, Int.le_refl _, Int.le_refl _, by omega, ⟨rfl⟩, Below.refl _ _⟩
 case round =>
  obtain ⟨lo, hi, rfl, rfl, h1, h2, h3, HE, hB⟩ := hrel
  by_cases hlt : lo ≤ hi
  ·have hq : (hi - lo) / 2 ≤ hi - lo := by omega
   have hq0 : 0 ≤ (hi - lo) / 2 := by omega
   have hq1 : 0 ≤ hi - lo := by omega
   cases hpm : p (lo + (hi - lo) / 2) with
   | true =>
    have HPM := Lib.hid hpm
    clear hpm
    go_wp2_with fail
    refine (HP.out _ (lo + (hi - lo) / 2) (by omega) (by omega) hB).mono ?_
    rintro e w2 ⟨rfl, hb2⟩
    rw [HPM.out]
    have hB2 := hB.trans (hb2.mono hB.size)
    go_wp2
    go_roundw
    case rel => exact ⟨lo, lo + (hi - lo) / 2 - 1, rfl, rfl, h1, by omega, by omega, ⟨by rw [HE.out, halveF_yes p lo hi hlt HPM.out]⟩, hB2⟩
    case measure => simp [intOf]; omega
   | false =>
    have HPM := Lib.hid hpm
    clear hpm
    go_wp2_with fail
    refine (HP.out _ (lo + (hi - lo) / 2) (by omega) (by omega) hB).mono ?_
    rintro e w2 ⟨rfl, hb2⟩
    rw [HPM.out]
    have hB2 := hB.trans (hb2.mono hB.size)
    go_wp2
    go_roundw
    case rel => exact ⟨lo + (hi - lo) / 2 + 1, hi, rfl, rfl, by omega, h2, by omega, ⟨by rw [HE.out, halveF_no p lo hi hlt HPM.out]⟩, hB2⟩
    case measure => simp [intOf]; omega
  have hd : decide (lo ≤ hi) = false := decide_eq_false hlt
  go_wp2
  go_ret
  exact ⟨ret_int (by rw [HE.out, halveF_end p lo hi (by omega)]), hB⟩
end Go.Proofs.Ytpkajhmchcbbhaa.P
end
