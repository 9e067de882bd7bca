/- Part 48 of 51. -/
import Derived.Test.YtpkajhmchcbbhaaD0
import Derived.Test.YtpkajhmchcbbhaaD47
set_option linter.unusedSimpArgs false
set_option linter.unusedVariables false
section
namespace Go.Proofs.Ytpkajhmchcbbhaa.P
open Go.RowKit Go.Proofs.YtpkajhmchcbbhaaW.PrintWords Go.Proofs.YtpkajhmchcbbhaaW.PrintLast Go.Proofs.YtpkajhmchcbbhaaW.PrintMore
attribute [local go_sem] max2_mx min2_mn max_two min_two
set_option maxRecDepth 100000 in
set_option maxHeartbeats 80000000 in
theorem bet_callsB (A : Option Addr) (c : Nat) (l : List SRow) (p : Int) (A1 : Option Addr) (c1 : Nat) (l1 : List Int) (a0 a1 x n1 n2 u v : Int) (k : Nat) (b : Bool) (q : List Int) (d r1 r2 e1 s1 s2 e2 v1 v2 t1 t2 : Int) (w w0 : World)
  (HR_0 : Aside0 (Kd.C k70 w0 A l.length l)) (HC : Hid (l.length ≤ c)) (HQ_0 : Aside0 (Kd.C (Kd.int .u32) w0 A1 l1.length l1)) (HC1 : Hid (l1.length ≤ c1)) (HB_0 : Aside0 (Below w.heap.size w w0))
  (ha0 : 0 ≤ a0 ∧ a0 ≤ 4294967295) (ha1 : 0 ≤ a1 ∧ a1 ≤ 4294967295) (g1 : a0.tmod 100001 = n1) (g2 : a1.tmod 100001 = n2) (hn1 : 0 ≤ n1 ∧ n1 ≤ 100000) (hn2 : 0 ≤ n2 ∧ n2 ≤ 100000) (g3 : mn n1 n2 = u) (g4 : mx n1 n2 = v)
  (he1 : e1 = 0) (he2 : e2 = 17) (HF : Hid (forecourtlaw01_fine.f k l p = some b)) (HE : Hid (b = true → l1.length ≤ 40 → BetFacts l p l1 k q x d u v r1 r2 e1 s1 s2 e2 v1 v2 t1 t2)) :
  Calls Try.prog 11 #[.agg #[.slice A l.length c, .int .i64 p], .int .u32 a0, .int .u32 a1, .slice A1 l1.length c1, .int .u16 x] w0 fun e w' => e = .returned (.bool true) ∧ Below w.heap.size w w' := by
 have hu1 := Try.underlying24
 have hu2 := Try.underlying39
 have hu3 := Try.underlying43
 have HF_0 : Aside0 (Held [] w0) := ⟨⟨fun b cs t hm => by simp at hm⟩⟩
 go_enter Try.func11, Try.ntmps11
 go_wp2_with fail
 obtain ⟨w0a, hZ⟩ : ∃ Z, w0.alloc (.cells #[.slice A l.length c, .int .i64 p] 24) = Z := ⟨_, rfl⟩
 obtain ⟨tb, hbk⟩ : ∃ b, b = w0.heap.size := ⟨_, rfl⟩
 have HF_0a : Aside0 (Held [(tb, #[.slice A l.length c, .int .i64 p], 24)] w0a) := ⟨by rw [← hZ, hbk]; exact HF_0.out.new _ _⟩
 have HR_0a : Aside0 (Kd.C k70 w0a A l.length l) := ⟨by rw [← hZ]; exact Kd.C_below HR_0.out ((Below.refl _ _).alloc (Nat.le_refl _) _)⟩
 have HQ_0a : Aside0 (Kd.C (Kd.int .u32) w0a A1 l1.length l1) := ⟨by rw [← hZ]; exact Kd.C_below HQ_0.out ((Below.refl _ _).alloc (Nat.le_refl _) _)⟩
 have HB_0a : Aside0 (Below w.heap.size w w0a) := ⟨by rw [← hZ]; exact HB_0.out.alloc HB_0.out.size _⟩
 rw [hZ, ← hbk]
 clear hZ hbk HF_0 HB_0 HR_0 HQ_0 w0
 refine (forecourtlaw01_fine.calls k A c l p b w0a HR_0a.out HC.out HF.out).mono ?_
 rintro e w1 ⟨rfl, hB⟩
 have HF_1 := Aside0.mk (HF_0a.out.below hB)
 have HB_1 := Aside0.mk (below_then HB_0a.out hB)
 have HR_1 := Aside0.mk (Kd.C_below HR_0a.out hB)
 have HQ_1 := Aside0.mk (Kd.C_below HQ_0a.out hB)
 clear hB HF_0a HB_0a HR_0a HQ_0a w0a
 cases b with
 | false =>
  go_wp2_with fail
  refine (forecourtlaw01_Works.calls true w1 ⟨rfl⟩ rfl).mono ?_
  rintro e wz ⟨rfl, hB⟩
  go_wp2_with fail
  go_ret
  exact ⟨rfl, below_then HB_1.out hB⟩
 | true =>
 by_cases h40 : (l1.length : Int) > 40
 ·have hb40 : decide ((l1.length : Int) > 40) = true := decide_eq_true h40
  go_wp2_with fail
  refine (forecourtlaw01_Works.calls true w1 ⟨rfl⟩ rfl).mono ?_
  rintro e wz ⟨rfl, hB⟩
  go_wp2_with fail
  go_ret
  exact ⟨rfl, below_then HB_1.out hB⟩
 have hb40 : decide ((l1.length : Int) > 40) = false := decide_eq_false h40
 have HM := Aside0.mk (HE.out rfl (by omega))
 clear HE
 have hltb := blk_lt (HF_1.out.get tb #[.slice A l.length c, .int .i64 p] 24 (by simp))
 have ctb0 : w1.cell? ⟨tb, 0, none⟩ = some (.slice A l.length c) := (blk_cell (HF_1.out.get tb #[.slice A l.length c, .int .i64 p] 24 (by simp)) 0).trans rfl
 have ctb1 : w1.cell? ⟨tb, 1, none⟩ = some (.int .i64 p) := (blk_cell (HF_1.out.get tb #[.slice A l.length c, .int .i64 p] 24 (by simp)) 1).trans rfl
 go_wp2_with fail
 clear hltb ctb0 ctb1 hb40 h40
 refine (chart_Dips.calls A c l p u r1 r2 e1 w1 HR_1.out HC.out HM.out.two.one).mono ?_
 rintro e w2 ⟨rfl, hB⟩
 have HF_2 := Aside0.mk (HF_1.out.below hB)
 have HB_2 := Aside0.mk (below_then HB_1.out hB)
 have HR_2 := Aside0.mk (Kd.C_below HR_1.out hB)
 have HQ_2 := Aside0.mk (Kd.C_below HQ_1.out hB)
 clear hB HF_1 HB_1 HR_1 HQ_1 w1
 have hltb := blk_lt (HF_2.out.get tb #[.slice A l.length c, .int .i64 p] 24 (by simp))
 have ctb0 : w2.cell? ⟨tb, 0, none⟩ = some (.slice A l.length c) := (blk_cell (HF_2.out.get tb #[.slice A l.length c, .int .i64 p] 24 (by simp)) 0).trans rfl
 have ctb1 : w2.cell? ⟨tb, 1, none⟩ = some (.int .i64 p) := (blk_cell (HF_2.out.get tb #[.slice A l.length c, .int .i64 p] 24 (by simp)) 1).trans rfl
 go_wp2_with fail
 clear hltb ctb0 ctb1
 obtain ⟨w2a, hZ⟩ : ∃ Z, w2.alloc (.cells #[.int .i64 r1, .int .i64 r2] 43) = Z := ⟨_, rfl⟩
 obtain ⟨rb, hbk⟩ : ∃ b, b = w2.heap.size := ⟨_, rfl⟩
 have HF_2a : Aside0 (Held [(rb, #[.int .i64 r1, .int .i64 r2], 43), (tb, #[.slice A l.length c, .int .i64 p], 24)] w2a) := ⟨by rw [← hZ, hbk]; exact HF_2.out.new _ _⟩
 have HR_2a : Aside0 (Kd.C k70 w2a A l.length l) := ⟨by rw [← hZ]; exact Kd.C_below HR_2.out ((Below.refl _ _).alloc (Nat.le_refl _) _)⟩
 have HQ_2a : Aside0 (Kd.C (Kd.int .u32) w2a A1 l1.length l1) := ⟨by rw [← hZ]; exact Kd.C_below HQ_2.out ((Below.refl _ _).alloc (Nat.le_refl _) _)⟩
 have HB_2a : Aside0 (Below w.heap.size w w2a) := ⟨by rw [← hZ]; exact HB_2.out.alloc HB_2.out.size _⟩
 rw [hZ, ← hbk]
 clear hZ hbk HF_2 HB_2 HR_2 HQ_2 w2
 refine (chart_Dips.calls A c l p v s1 s2 e2 w2a HR_2a.out HC.out HM.out.two.two).mono ?_
 rintro e w3 ⟨rfl, hB⟩
 have HF_3 := Aside0.mk (HF_2a.out.below hB)
 have HB_3 := Aside0.mk (below_then HB_2a.out hB)
 have HR_3 := Aside0.mk (Kd.C_below HR_2a.out hB)
 have HQ_3 := Aside0.mk (Kd.C_below HQ_2a.out hB)
 clear hB HF_2a HB_2a HR_2a HQ_2a w2a g1 g2 g3 g4 ha0 ha1 hn1 hn2
 subst he1
 subst he2
 have g5 := (HM.out.two.inn rfl).1
 have HI1 := Aside0.mk (HM.out.two.inn rfl).2.1
 have HI2 := Aside0.mk (HM.out.two.inn rfl).2.2
 have b3 : decide (r2 < r1) = false := decide_eq_false (by omega)
 clear g5
 have hltb := blk_lt (HF_3.out.get tb #[.slice A l.length c, .int .i64 p] 24 (by simp))
 have ctb0 : w3.cell? ⟨tb, 0, none⟩ = some (.slice A l.length c) := (blk_cell (HF_3.out.get tb #[.slice A l.length c, .int .i64 p] 24 (by simp)) 0).trans rfl
 have ctb1 : w3.cell? ⟨tb, 1, none⟩ = some (.int .i64 p) := (blk_cell (HF_3.out.get tb #[.slice A l.length c, .int .i64 p] 24 (by simp)) 1).trans rfl
 have hlrb := blk_lt (HF_3.out.get rb #[.int .i64 r1, .int .i64 r2] 43 (by simp))
 have crb0 : w3.cell? ⟨rb, 0, none⟩ = some (.int .i64 r1) := (blk_cell (HF_3.out.get rb #[.int .i64 r1, .int .i64 r2] 43 (by simp)) 0).trans rfl
 have crb1 : w3.cell? ⟨rb, 1, none⟩ = some (.int .i64 r2) := (blk_cell (HF_3.out.get rb #[.int .i64 r1, .int .i64 r2] 43 (by simp)) 1).trans rfl
 go_wp2_with fail
 clear hltb ctb0 ctb1 hlrb crb0 crb1 b3
 obtain ⟨w3a, hZ⟩ : ∃ Z, w3.alloc (.cells #[.int .i64 s1, .int .i64 s2] 43) = Z := ⟨_, rfl⟩
 obtain ⟨sb, hbk⟩ : ∃ b, b = w3.heap.size := ⟨_, rfl⟩
 have HF_3a : Aside0 (Held [(sb, #[.int .i64 s1, .int .i64 s2], 43), (rb, #[.int .i64 r1, .int .i64 r2], 43), (tb, #[.slice A l.length c, .int .i64 p], 24)] w3a) := ⟨by rw [← hZ, hbk]; exact HF_3.out.new _ _⟩
 have HR_3a : Aside0 (Kd.C k70 w3a A l.length l) := ⟨by rw [← hZ]; exact Kd.C_below HR_3.out ((Below.refl _ _).alloc (Nat.le_refl _) _)⟩
 have HQ_3a : Aside0 (Kd.C (Kd.int .u32) w3a A1 l1.length l1) := ⟨by rw [← hZ]; exact Kd.C_below HQ_3.out ((Below.refl _ _).alloc (Nat.le_refl _) _)⟩
 have HB_3a : Aside0 (Below w.heap.size w w3a) := ⟨by rw [← hZ]; exact HB_3.out.alloc HB_3.out.size _⟩
 rw [hZ, ← hbk]
 clear hZ hbk HF_3 HB_3 HR_3 HQ_3 w3
 refine (forecourtref01_Inside.calls A c l p r1 true w3a HR_3a.out HC.out HI1.out).mono ?_
 rintro e w4 ⟨rfl, hB⟩
 have HF_4 := Aside0.mk (HF_3a.out.below hB)
 have HB_4 := Aside0.mk (below_then HB_3a.out hB)
 have HR_4 := Aside0.mk (Kd.C_below HR_3a.out hB)
 have HQ_4 := Aside0.mk (Kd.C_below HQ_3a.out hB)
 clear hB HF_3a HB_3a HR_3a HQ_3a w3a
 have hltb := blk_lt (HF_4.out.get tb #[.slice A l.length c, .int .i64 p] 24 (by simp))
 have ctb0 : w4.cell? ⟨tb, 0, none⟩ = some (.slice A l.length c) := (blk_cell (HF_4.out.get tb #[.slice A l.length c, .int .i64 p] 24 (by simp)) 0).trans rfl
 have ctb1 : w4.cell? ⟨tb, 1, none⟩ = some (.int .i64 p) := (blk_cell (HF_4.out.get tb #[.slice A l.length c, .int .i64 p] 24 (by simp)) 1).trans rfl
 have hlrb := blk_lt (HF_4.out.get rb #[.int .i64 r1, .int .i64 r2] 43 (by simp))
 have crb0 : w4.cell? ⟨rb, 0, none⟩ = some (.int .i64 r1) := (blk_cell (HF_4.out.get rb #[.int .i64 r1, .int .i64 r2] 43 (by simp)) 0).trans rfl
 have crb1 : w4.cell? ⟨rb, 1, none⟩ = some (.int .i64 r2) := (blk_cell (HF_4.out.get rb #[.int .i64 r1, .int .i64 r2] 43 (by simp)) 1).trans rfl
 go_wp2_with fail
 clear hltb ctb0 ctb1 hlrb crb0 crb1
 refine (forecourtref01_Inside.calls A c l p r2 true w4 HR_4.out HC.out HI2.out).mono ?_
 rintro e w5 ⟨rfl, hB⟩
 have HF_5 := Aside0.mk (HF_4.out.below hB)
 have HB_5 := Aside0.mk (below_then HB_4.out hB)
 have HR_5 := Aside0.mk (Kd.C_below HR_4.out hB)
 have HQ_5 := Aside0.mk (Kd.C_below HQ_4.out hB)
 clear hB HF_4 HB_4 HR_4 HQ_4 w4
 have hltb := blk_lt (HF_5.out.get tb #[.slice A l.length c, .int .i64 p] 24 (by simp))
 have ctb0 : w5.cell? ⟨tb, 0, none⟩ = some (.slice A l.length c) := (blk_cell (HF_5.out.get tb #[.slice A l.length c, .int .i64 p] 24 (by simp)) 0).trans rfl
 have ctb1 : w5.cell? ⟨tb, 1, none⟩ = some (.int .i64 p) := (blk_cell (HF_5.out.get tb #[.slice A l.length c, .int .i64 p] 24 (by simp)) 1).trans rfl
 go_wp2_with fail
 clear hltb ctb0 ctb1 HI1 HI2
 refine (forecourtlaw01_Read.calls A c l p x d w5 HR_5.out HC.out HM.out.read).mono ?_
 rintro e w6 ⟨rfl, hB⟩
 have HF_6 := Aside0.mk (HF_5.out.below hB)
 have HB_6 := Aside0.mk (below_then HB_5.out hB)
 have HR_6 := Aside0.mk (Kd.C_below HR_5.out hB)
 have HQ_6 := Aside0.mk (Kd.C_below HQ_5.out hB)
 clear hB HF_5 HB_5 HR_5 HQ_5 w5
 have hltb := blk_lt (HF_6.out.get tb #[.slice A l.length c, .int .i64 p] 24 (by simp))
 have ctb0 : w6.cell? ⟨tb, 0, none⟩ = some (.slice A l.length c) := (blk_cell (HF_6.out.get tb #[.slice A l.length c, .int .i64 p] 24 (by simp)) 0).trans rfl
 have ctb1 : w6.cell? ⟨tb, 1, none⟩ = some (.int .i64 p) := (blk_cell (HF_6.out.get tb #[.slice A l.length c, .int .i64 p] 24 (by simp)) 1).trans rfl
 go_wp2_with fail
 (refine start_ (n := 12) (S := fun w' => Below (World.heap _).size _ w') (ds := [10]) (List.toArray (false :: false :: false :: false :: false :: false :: false :: false :: false :: false :: false :: false :: [])) (by kernel_rfl) rfl rfl (belowDrew _) (fun plS => ?_); refine pureY (i := 2) (N := (some 119)) ?_; refine pureY (i := 4) (N := (some 121)) ?_; refine takeF (i := 0) (N := (some 117)) (hS := plS) (hy := by (intro w' hw'; replace hw' : Below (World.heap w6).size w6 w' := hw'; have q0 := pw_cell_below hw' ctb0; have q1 := pw_cell_below hw' ctb1; exact yieldA)) (h := ?_); refine takeF (i := 1) (N := (some 118)) (hS := plS) (hy := by (intro w' hw'; replace hw' : Below (World.heap w6).size w6 w' := hw'; have q0 := pw_cell_below hw' ctb0; have q1 := pw_cell_below hw' ctb1; exact yieldA)) (h := ?_))
 obtain ⟨y0, hy0⟩ : ∃ Y, w6.drew = Y := ⟨_, rfl⟩
 have hB0 : Below w6.heap.size w6 y0 := by rw [← hy0]; exact (Below.refl _ w6).drew
 rw [hy0]
 clear hy0 plS
 refine join_ (σ := Nat × Option Addr × Nat) 2 (List.toArray (true :: true :: true :: true :: true :: true :: true :: true :: true :: true :: false :: false :: [])) (fun s => [(120, .slice s.2.1 q.length s.2.2), (122, .tuple #[.agg #[.int .i64 v1, .int .i64 v2], .int .i64 0]), (116, .tuple #[.agg #[.int .i64 v1, .int .i64 v2], .int .i64 0]), (123, .agg #[.int .i64 v1, .int .i64 v2]), (124, .int .i64 0), (18, .pointer (some ⟨s.1, 0, none⟩))])
  (fun s W => Below w6.heap.size w6 W ∧ W.heap[s.1]? = some (.cells #[.int .i64 0, .int .i64 0] 39 (0, 0)) ∧ w6.heap.size ≤ s.1) ?_ ?_
 rotate_left
 ·intro hJ
  (refine two_ (i := 3) (j := 9) (List.toArray (true :: true :: true :: true :: true :: false :: false :: false :: false :: false :: false :: false :: [])) (List.toArray (true :: true :: true :: false :: true :: false :: false :: false :: false :: true :: false :: false :: [])) rfl rfl rfl rfl (by kernel_rfl) (by decide) (by decide) (fun plK plH => ?_) (fun plK plH => ?_))
  all_goals (try (rw [if_pos (by rfl)]; (first | gi_big_move | go_big_op | go_simp)))
  all_goals (first | (with_reducible refine (forecourtlaw01_True.calls k A c l p A1 c1 l1 q y0 (Kd.C_below HR_6.out hB0) HC.out (Kd.C_below HQ_6.out hB0) HC1.out HM.out.true_).mono ?_; rintro e y1 ⟨vv, rfl, Hn, hx1⟩; obtain ⟨An, cn, rfl, Hl, Hr⟩ := Kd.R_reads Hn; clear Hn) | (with_reducible refine (chart_Below.calls A c l p An cn q d v1 v2 0 y0 (Kd.C_below HR_6.out hB0) HC.out Hr Hl HM.out.at_.below).mono ?_; rintro e y1 ⟨rfl, hx1⟩) | (obtain ⟨y1, hy⟩ : ∃ Y, World.alloc y0 (.cells #[.int .i64 0, .int .i64 0] 39) = Y := ⟨_, rfl⟩; obtain ⟨b1, hb⟩ : ∃ b, b = y0.heap.size := ⟨_, rfl⟩; have hx1 : Below (World.heap y0).size y0 y1 := (by rw [← hy]; exact below_own _ _); have hM1 : y1.heap[b1]? = some (.cells #[.int .i64 0, .int .i64 0] 39 (0, 0)) := (by rw [← hy, hb]; exact blk_new _ _); have hL1 : w6.heap.size ≤ b1 := (by rw [hb]; exact hB0.size); rw [hy, ← hb]; clear hy hb))
  all_goals have hB1 : Below w6.heap.size w6 y1 := (below_then hB0 hx1)
  all_goals (try replace Hr := Kd.C_below Hr hx1)
  all_goals (first | ((try simp only [Act.put, List.getElem_toArray, List.getElem_cons_succ, List.getElem_cons_zero, List.setIfInBounds_toArray, List.set_cons_succ, List.set_cons_zero]); refine plH _ _ hB1 (fun plS => ?_); clear plH plK; refine at_ #[true, true, true, true, true, false, false, false, false, false, false, false] rfl ?_; refine two_ (i := 5) (j := 9) (List.toArray (true :: true :: true :: true :: true :: true :: false :: false :: false :: false :: false :: false :: [])) (List.toArray (true :: true :: true :: true :: true :: false :: false :: false :: false :: true :: false :: false :: [])) rfl rfl rfl rfl (by kernel_rfl) (by decide) (by decide) (fun plK plH => ?_) (fun plK plH => ?_)) | ((try simp only [Act.put, List.getElem_toArray, List.getElem_cons_succ, List.getElem_cons_zero, List.setIfInBounds_toArray, List.set_cons_succ, List.set_cons_zero]); refine plH _ _ hB1 (fun plS => ?_); clear plH plK; refine at_ #[true, true, true, false, true, false, false, false, false, true, false, false] rfl ?_; refine oneY (i := 3) (fun plK plH => ?_); rw [if_pos (by rfl)]; (first | gi_big_move | go_big_op | go_simp)))
  all_goals (try (rw [if_pos (by rfl)]; (first | gi_big_move | go_big_op | go_simp)))
  all_goals (first | (with_reducible refine (forecourtlaw01_True.calls k A c l p A1 c1 l1 q y1 (Kd.C_below HR_6.out hB1) HC.out (Kd.C_below HQ_6.out hB1) HC1.out HM.out.true_).mono ?_; rintro e y2 ⟨vv, rfl, Hn, hx2⟩; obtain ⟨An, cn, rfl, Hl, Hr⟩ := Kd.R_reads Hn; clear Hn) | (with_reducible refine (chart_Below.calls A c l p An cn q d v1 v2 0 y1 (Kd.C_below HR_6.out hB1) HC.out Hr Hl HM.out.at_.below).mono ?_; rintro e y2 ⟨rfl, hx2⟩) | (obtain ⟨y2, hy⟩ : ∃ Y, World.alloc y1 (.cells #[.int .i64 0, .int .i64 0] 39) = Y := ⟨_, rfl⟩; obtain ⟨b2, hb⟩ : ∃ b, b = y1.heap.size := ⟨_, rfl⟩; have hx2 : Below (World.heap y1).size y1 y2 := (by rw [← hy]; exact below_own _ _); have hM2 : y2.heap[b2]? = some (.cells #[.int .i64 0, .int .i64 0] 39 (0, 0)) := (by rw [← hy, hb]; exact blk_new _ _); have hL2 : w6.heap.size ≤ b2 := (by rw [hb]; exact hB1.size); rw [hy, ← hb]; clear hy hb))
  all_goals have hB2 : Below w6.heap.size w6 y2 := (below_then hB1 hx2)
  all_goals (try replace hM1 := blk_call hx2 hM1)
  all_goals (try replace Hr := Kd.C_below Hr hx2)
  all_goals (first | ((try simp only [Act.put, List.getElem_toArray, List.getElem_cons_succ, List.getElem_cons_zero, List.setIfInBounds_toArray, List.set_cons_succ, List.set_cons_zero]); refine plH _ _ hB2 (fun plS => ?_); clear plH plK; refine at_ #[true, true, true, true, true, true, false, false, false, false, false, false] rfl ?_; refine pureY (i := 6) (N := (some 116)) ?_; refine pureY (i := 7) (N := (some 123)) ?_; refine pureY (i := 8) (N := (some 124)) ?_; refine oneY (i := 9) (fun plK plH => ?_); rw [if_pos (by rfl)]; (first | gi_big_move | go_big_op | go_simp)) | ((try simp only [Act.put, List.getElem_toArray, List.getElem_cons_succ, List.getElem_cons_zero, List.setIfInBounds_toArray, List.set_cons_succ, List.set_cons_zero]); refine plH _ _ hB2 (fun plS => ?_); clear plH plK; refine at_ #[true, true, true, true, true, false, false, false, false, true, false, false] rfl ?_; refine oneY (i := 5) (fun plK plH => ?_); rw [if_pos (by rfl)]; (first | gi_big_move | go_big_op | go_simp)))
  all_goals (try (rw [if_pos (by rfl)]; (first | gi_big_move | go_big_op | go_simp)))
  all_goals (first | (with_reducible refine (forecourtlaw01_True.calls k A c l p A1 c1 l1 q y2 (Kd.C_below HR_6.out hB2) HC.out (Kd.C_below HQ_6.out hB2) HC1.out HM.out.true_).mono ?_; rintro e y3 ⟨vv, rfl, Hn, hx3⟩; obtain ⟨An, cn, rfl, Hl, Hr⟩ := Kd.R_reads Hn; clear Hn) | (with_reducible refine (chart_Below.calls A c l p An cn q d v1 v2 0 y2 (Kd.C_below HR_6.out hB2) HC.out Hr Hl HM.out.at_.below).mono ?_; rintro e y3 ⟨rfl, hx3⟩) | (obtain ⟨y3, hy⟩ : ∃ Y, World.alloc y2 (.cells #[.int .i64 0, .int .i64 0] 39) = Y := ⟨_, rfl⟩; obtain ⟨b3, hb⟩ : ∃ b, b = y2.heap.size := ⟨_, rfl⟩; have hx3 : Below (World.heap y2).size y2 y3 := (by rw [← hy]; exact below_own _ _); have hM3 : y3.heap[b3]? = some (.cells #[.int .i64 0, .int .i64 0] 39 (0, 0)) := (by rw [← hy, hb]; exact blk_new _ _); have hL3 : w6.heap.size ≤ b3 := (by rw [hb]; exact hB2.size); rw [hy, ← hb]; clear hy hb))
  all_goals have hB3 : Below w6.heap.size w6 y3 := (below_then hB2 hx3)
  all_goals (try replace hM1 := blk_call hx3 hM1)
  all_goals (try replace hM2 := blk_call hx3 hM2)
  all_goals (try replace Hr := Kd.C_below Hr hx3)
  all_goals (first | ((try simp only [Act.put, List.getElem_toArray, List.getElem_cons_succ, List.getElem_cons_zero, List.setIfInBounds_toArray, List.set_cons_succ, List.set_cons_zero]); refine plH _ _ hB3 (fun plS => ?_); clear plH plK; refine at_ #[true, true, true, true, true, true, false, false, false, true, false, false] rfl ?_; refine pureY (i := 6) (N := (some 116)) ?_; refine pureY (i := 7) (N := (some 123)) ?_; refine pureY (i := 8) (N := (some 124)) ?_) | ((try simp only [Act.put, List.getElem_toArray, List.getElem_cons_succ, List.getElem_cons_zero, List.setIfInBounds_toArray, List.set_cons_succ, List.set_cons_zero]); refine plH _ _ hB3 (fun plS => ?_); clear plH plK))
  all_goals (clear plS; (try simp only [Act.put, List.getElem_toArray, List.getElem_cons_succ, List.getElem_cons_zero, List.setIfInBounds_toArray, List.set_cons_succ, List.set_cons_zero]); first | exact hJ (b1, An, cn) y3 ⟨hB3, hM1, hL1⟩ | exact hJ (b2, An, cn) y3 ⟨hB3, hM2, hL2⟩ | exact hJ (b3, An, cn) y3 ⟨hB3, hM3, hL3⟩)
 rintro ⟨vb, An, cn⟩ W ⟨hBW, hG, hL⟩
 simp only at hG hL
 refine norm_ (a' := ?_) qd24 ?_
 have x0 := blk_cell hG 0
 have xf0 := blk_frozen hG 0
 have x1 := blk_cell hG 1
 have xf1 := blk_frozen hG 1
 have hlt1 := blk_lt hG
 (refine lastY (i := 10) (fun plK plH => ?_); rw [if_pos (by rfl)]; (first | gi_big_move | go_big_op | go_simp))
 obtain ⟨w7, hW2⟩ : ∃ Z, ((W.setCell ⟨vb, 0, none⟩ (.int .i64 v1)).setCell ⟨vb, 1, none⟩ (.int .i64 v2)) = Z := ⟨_, rfl⟩
 have hB : Below w6.heap.size w6 w7 := by rw [← hW2]; exact ((hBW).setCell (p := ⟨vb, 0, none⟩) hL _).setCell (p := ⟨vb, 1, none⟩) hL _
 have hA1 : w7.heap[vb]? = some (.cells #[.int .i64 v1, .int .i64 v2] 39 (0, 0)) := by rw [← hW2]; exact (blk_set (blk_set hG 0 _) 1 _)
 rw [hW2]
 clear hW2 x0 xf0 x1 xf1 hlt1 hG hBW
 ((try simp only [Act.put, List.getElem_toArray, List.getElem_cons_succ, List.getElem_cons_zero, List.setIfInBounds_toArray, List.set_cons_succ, List.set_cons_zero]); refine plH _ _ ?_; clear plH plK; refine pureY (i := 11) (N := (some 19)) ?_; refine done_ (by kernel_rfl) ?_)
 have HF_7 : Aside0 (Held [(vb, #[.int .i64 v1, .int .i64 v2], 39), (sb, #[.int .i64 s1, .int .i64 s2], 43), (rb, #[.int .i64 r1, .int .i64 r2], 43), (tb, #[.slice A l.length c, .int .i64 p], 24)] w7) := ⟨Held.cons hA1 (HF_6.out.below hB)⟩
 have HB_7 := Aside0.mk (below_then HB_6.out hB)
 have HR_7 := Aside0.mk (Kd.C_below HR_6.out hB)
 have HQ_7 := Aside0.mk (Kd.C_below HQ_6.out hB)
 clear hB hA1 hL hB0 hltb ctb0 ctb1 HF_6 HB_6 HR_6 HQ_6 w6
 have b1 : decide (v2 < 1) = false := decide_eq_false qd31
 by_cases hv : v2 = 1
 rotate_left
 ·have b2 : decide (1 < v2) = true := decide_eq_true qd31
  have hlvb := blk_lt (HF_7.out.get vb #[.int .i64 v1, .int .i64 v2] 39 (by simp))
  have cvb0 : w7.cell? ⟨vb, 0, none⟩ = some (.int .i64 v1) := (blk_cell (HF_7.out.get vb #[.int .i64 v1, .int .i64 v2] 39 (by simp)) 0).trans rfl
  have cvb1 : w7.cell? ⟨vb, 1, none⟩ = some (.int .i64 v2) := (blk_cell (HF_7.out.get vb #[.int .i64 v1, .int .i64 v2] 39 (by simp)) 1).trans rfl
  go_wp2_with fail
  refine (forecourtlaw01_Works.calls true w7 ⟨rfl⟩ rfl).mono ?_
  rintro e wz ⟨rfl, hB⟩
  go_wp2_with fail
  go_ret
  exact ⟨rfl, below_then HB_7.out hB⟩
 subst hv
 have hs := HM.out.at_.small rfl
 have hd := HM.out.at_.dips rfl
 have HD := Aside0.mk hd.1
 have b2 : decide (v1 < 0) = false := decide_eq_false (by omega)
 have b3 : decide (100000 < v1) = false := decide_eq_false (by omega)
 have b4 : decide (t1 ≤ d) = true := decide_eq_true hd.2.1
 have b5 : decide (d ≤ t2) = true := decide_eq_true hd.2.2
 clear hs hd
 have hlvb := blk_lt (HF_7.out.get vb #[.int .i64 v1, .int .i64 1] 39 (by simp))
 have cvb0 : w7.cell? ⟨vb, 0, none⟩ = some (.int .i64 v1) := (blk_cell (HF_7.out.get vb #[.int .i64 v1, .int .i64 1] 39 (by simp)) 0).trans rfl
 have cvb1 : w7.cell? ⟨vb, 1, none⟩ = some (.int .i64 1) := (blk_cell (HF_7.out.get vb #[.int .i64 v1, .int .i64 1] 39 (by simp)) 1).trans rfl
 have hltb := blk_lt (HF_7.out.get tb #[.slice A l.length c, .int .i64 p] 24 (by simp))
 have ctb0 : w7.cell? ⟨tb, 0, none⟩ = some (.slice A l.length c) := (blk_cell (HF_7.out.get tb #[.slice A l.length c, .int .i64 p] 24 (by simp)) 0).trans rfl
 have ctb1 : w7.cell? ⟨tb, 1, none⟩ = some (.int .i64 p) := (blk_cell (HF_7.out.get tb #[.slice A l.length c, .int .i64 p] 24 (by simp)) 1).trans rfl
 go_wp2_with fail
 clear hlvb cvb0 cvb1 hltb ctb0 ctb1
 refine (chart_Dips.calls A c l p v1 t1 t2 0 w7 HR_7.out HC.out HD.out).mono ?_
 rintro e w8 ⟨rfl, hB⟩
 have HF_8 := Aside0.mk (HF_7.out.below hB)
 have HB_8 := Aside0.mk (below_then HB_7.out hB)
 have HR_8 := Aside0.mk (Kd.C_below HR_7.out hB)
 have HQ_8 := Aside0.mk (Kd.C_below HQ_7.out hB)
 clear hB HF_7 HB_7 HR_7 HQ_7 w7
 go_wp2_with fail
 refine (forecourtlaw01_Works.calls true _ ⟨rfl⟩ rfl).mono ?_
 rintro e wz ⟨rfl, hB⟩
 go_wp2_with fail
 go_ret
 exact ⟨rfl, below_then (HB_8.out.alloc HB_8.out.size _) hB⟩
end Go.Proofs.Ytpkajhmchcbbhaa.P
end
