/- Part 40 of 41. -/
import Derived.Test.YtpkajhmchcbbhaaK39
set_option linter.unusedSimpArgs false
set_option linter.unusedVariables false
section
namespace Go.Proofs.Ytpkajhmchcbbhaa.P
open Go.RowKit Go.Proofs.YtpkajhmchcbbhaaW.PrintWords Go.Proofs.YtpkajhmchcbbhaaW.PrintLast Go.Proofs.YtpkajhmchcbbhaaW.PrintMore
attribute [local go_sem high] eqA39 eqA43 eqA48
theorem kn_below : chart_Below.f exT 0 [0, 400, 800, 2000] 250 = some (1100, 1, 0) := by
  unfold chart_Below.f; simp only [leastN_fuel, leastD_fuel]; kernel_rfl
theorem kn_metered : chart_Metered.f exT 0 1 2 = some (0, 520, 0) := by kernel_rfl
theorem kn_net : chart_Net.f exT 0 0 150 = some (390, 1, 660, 1, 0) := by
  unfold chart_Net.f; simp only [leastN_fuel, leastD_fuel]; kernel_rfl
theorem kn_netP : chart_Net.f exT 10 150 100 = some (0, 0, 0, 0, 24) := by
  unfold chart_Net.f; simp only [leastN_fuel, leastD_fuel]; kernel_rfl
theorem kn_common : common5.f 1000 10 10 100 100 = some (1000000, 1001, 1000000, 1001, 0) := by
  unfold common5.f; simp only [leastN_fuel, leastD_fuel]; kernel_rfl
set_option maxRecDepth 100000 in
set_option maxHeartbeats 80000000 in
theorem known_calls (w : World) : Calls Try.prog 14 #[] w fun e w' => e = .returned (.bool true) ∧ Below w.heap.size w w' := by
  have hu1 := Try.underlying24
  have hu2 := Try.underlying39
  have hu3 := Try.underlying43
  have hu4 := Try.underlying48
  go_enter Try.func14, Try.ntmps14
  go_wp2_with fail
  refine (forecourtlaw01_Tank.calls exT 0 w ex_tank).mono ?_
  rintro e w1 ⟨v, rfl, hR1, hB1⟩
  obtain ⟨A, c, rfl, hc, hC1⟩ := Kd.R_reads hR1
  have HC := Lib.hid hc
  have HR_1 := Aside0.mk hC1
  have HB_1 := Aside0.mk hB1
  have HF_1 : Aside0 (Held [] w1) := ⟨⟨fun b cs t hm => by simp at hm⟩⟩
  clear hc hR1 hC1 hB1
  go_wp2_with fail
  obtain ⟨w1a, hZ⟩ : ∃ Z, w1.alloc (.cells #[.slice A exT.length c, .int .i64 0] 24) = Z := ⟨_, rfl⟩
  obtain ⟨tb, hbk⟩ : ∃ b, b = w1.heap.size := ⟨_, rfl⟩
  have HF_1a : Aside0 (Held [(tb, #[.slice A exT.length c, .int .i64 0], 24)] w1a) := ⟨by rw [← hZ, hbk]; exact HF_1.out.new _ _⟩
  have HSZ := Lib.hid (show w1a.heap.size = tb + 1 by rw [← hZ, hbk]; simp)
  have HR_1a : Aside0 (Kd.C k70 w1a A exT.length exT) := ⟨by rw [← hZ]; exact Kd.C_below HR_1.out ((Below.refl _ _).alloc (Nat.le_refl _) _)⟩
  have HB_1a : Aside0 (Below w.heap.size w w1a) := ⟨by rw [← hZ]; exact HB_1.out.alloc HB_1.out.size _⟩
  rw [hZ, ← hbk]
  clear hZ hbk HF_1 HB_1 HR_1 w1
  have hltb := blk_lt (HF_1a.out.get tb #[.slice A exT.length c, .int .i64 0] 24 (by simp))
  have ctb0 : w1a.cell? ⟨tb, 0, none⟩ = some (.slice A exT.length c) := (blk_cell (HF_1a.out.get tb #[.slice A exT.length c, .int .i64 0] 24 (by simp)) 0).trans rfl
  have ctb1 : w1a.cell? ⟨tb, 1, none⟩ = some (.int .i64 0) := (blk_cell (HF_1a.out.get tb #[.slice A exT.length c, .int .i64 0] 24 (by simp)) 1).trans rfl
  go_wp2_with fail
  clear hltb ctb0 ctb1
  obtain ⟨w1aa, hZ⟩ : ∃ Z, w1a.alloc (.cells #[.int .i64 0, .int .i64 400, .int .i64 800, .int .i64 2000] 2) = Z := ⟨_, rfl⟩
  obtain ⟨qb, hbk⟩ : ∃ b, b = tb + 1 := ⟨_, rfl⟩
  have HF_1aa : Aside0 (Held [(qb, #[.int .i64 0, .int .i64 400, .int .i64 800, .int .i64 2000], 2), (tb, #[.slice A exT.length c, .int .i64 0], 24)] w1aa) := ⟨by rw [← hZ, hbk, ← HSZ.out]; exact HF_1a.out.new _ _⟩
  have HR_1aa : Aside0 (Kd.C k70 w1aa A exT.length exT) := ⟨by rw [← hZ]; exact Kd.C_below HR_1a.out ((Below.refl _ _).alloc (Nat.le_refl _) _)⟩
  have HB_1aa : Aside0 (Below w.heap.size w w1aa) := ⟨by rw [← hZ]; exact HB_1a.out.alloc HB_1a.out.size _⟩
  rw [hZ, ← hbk]
  clear hZ hbk HSZ HF_1a HB_1a HR_1a w1a
  refine (chart_Below.calls A c exT 0 (some ⟨qb, 0, none⟩) 4 [0, 400, 800, 2000] 250 1100 1 0 w1aa HR_1aa.out HC.out (C_arr (l := [0, 400, 800, 2000]) (HF_1aa.out.get qb #[.int .i64 0, .int .i64 400, .int .i64 800, .int .i64 2000] 2 (by simp)) (by simp)) (by simp) kn_below).mono ?_
  rintro e w2 ⟨rfl, hB⟩
  have HF_2 := Aside0.mk (HF_1aa.out.below hB)
  have HB_2 := Aside0.mk (below_then HB_1aa.out hB)
  have HR_2 := Aside0.mk (Kd.C_below HR_1aa.out hB)
  clear hB HF_1aa HB_1aa HR_1aa w1aa
  replace HF_2 : Aside0 (Held [(tb, #[.slice A exT.length c, .int .i64 0], 24)] w2) := ⟨⟨fun b cs t hm => HF_2.out.get b cs t (List.mem_cons_of_mem _ hm)⟩⟩
  have hltb := blk_lt (HF_2.out.get tb #[.slice A exT.length c, .int .i64 0] 24 (by simp))
  have ctb0 : w2.cell? ⟨tb, 0, none⟩ = some (.slice A exT.length c) := (blk_cell (HF_2.out.get tb #[.slice A exT.length c, .int .i64 0] 24 (by simp)) 0).trans rfl
  have ctb1 : w2.cell? ⟨tb, 1, none⟩ = some (.int .i64 0) := (blk_cell (HF_2.out.get tb #[.slice A exT.length c, .int .i64 0] 24 (by simp)) 1).trans rfl
  go_wp2_with fail
  clear hltb ctb0 ctb1
  obtain ⟨w2a, hZ⟩ : ∃ Z, w2.alloc (.cells #[.int .i64 1100, .int .i64 1] 39) = Z := ⟨_, rfl⟩
  obtain ⟨vb, hbk⟩ : ∃ b, b = w2.heap.size := ⟨_, rfl⟩
  have HF_2a : Aside0 (Held [(vb, #[.int .i64 1100, .int .i64 1], 39), (tb, #[.slice A exT.length c, .int .i64 0], 24)] w2a) := ⟨by rw [← hZ, hbk]; exact HF_2.out.new _ _⟩
  have HR_2a : Aside0 (Kd.C k70 w2a A exT.length exT) := ⟨by rw [← hZ]; exact Kd.C_below HR_2.out ((Below.refl _ _).alloc (Nat.le_refl _) _)⟩
  have HB_2a : Aside0 (Below w.heap.size w w2a) := ⟨by rw [← hZ]; exact HB_2.out.alloc HB_2.out.size _⟩
  rw [hZ, ← hbk]
  clear hZ hbk HF_2 HB_2 HR_2 w2
  refine (chart_Metered.calls A c exT 0 1 2 0 520 0 w2a HR_2a.out HC.out kn_metered).mono ?_
  rintro e w3 ⟨rfl, hB⟩
  have HF_3 := Aside0.mk (HF_2a.out.below hB)
  have HB_3 := Aside0.mk (below_then HB_2a.out hB)
  have HR_3 := Aside0.mk (Kd.C_below HR_2a.out hB)
  clear hB HF_2a HB_2a HR_2a w2a
  have hltb := blk_lt (HF_3.out.get tb #[.slice A exT.length c, .int .i64 0] 24 (by simp))
  have ctb0 : w3.cell? ⟨tb, 0, none⟩ = some (.slice A exT.length c) := (blk_cell (HF_3.out.get tb #[.slice A exT.length c, .int .i64 0] 24 (by simp)) 0).trans rfl
  have ctb1 : w3.cell? ⟨tb, 1, none⟩ = some (.int .i64 0) := (blk_cell (HF_3.out.get tb #[.slice A exT.length c, .int .i64 0] 24 (by simp)) 1).trans rfl
  go_wp2_with fail
  clear hltb ctb0 ctb1
  obtain ⟨w3a, hZ⟩ : ∃ Z, w3.alloc (.cells #[.int .i64 0, .int .i64 520] 43) = Z := ⟨_, rfl⟩
  obtain ⟨mb, hbk⟩ : ∃ b, b = w3.heap.size := ⟨_, rfl⟩
  have HF_3a : Aside0 (Held [(mb, #[.int .i64 0, .int .i64 520], 43), (vb, #[.int .i64 1100, .int .i64 1], 39), (tb, #[.slice A exT.length c, .int .i64 0], 24)] w3a) := ⟨by rw [← hZ, hbk]; exact HF_3.out.new _ _⟩
  have HR_3a : Aside0 (Kd.C k70 w3a A exT.length exT) := ⟨by rw [← hZ]; exact Kd.C_below HR_3.out ((Below.refl _ _).alloc (Nat.le_refl _) _)⟩
  have HB_3a : Aside0 (Below w.heap.size w w3a) := ⟨by rw [← hZ]; exact HB_3.out.alloc HB_3.out.size _⟩
  rw [hZ, ← hbk]
  clear hZ hbk HF_3 HB_3 HR_3 w3
  refine (chart_Net.calls A c exT 0 0 150 390 1 660 1 0 w3a HR_3a.out HC.out kn_net).mono ?_
  rintro e w4 ⟨rfl, hB⟩
  have HF_4 := Aside0.mk (HF_3a.out.below hB)
  have HB_4 := Aside0.mk (below_then HB_3a.out hB)
  have HR_4 := Aside0.mk (Kd.C_below HR_3a.out hB)
  clear hB HF_3a HB_3a HR_3a w3a
  have hltb := blk_lt (HF_4.out.get tb #[.slice A exT.length c, .int .i64 0] 24 (by simp))
  have ctb0 : w4.cell? ⟨tb, 0, none⟩ = some (.slice A exT.length c) := (blk_cell (HF_4.out.get tb #[.slice A exT.length c, .int .i64 0] 24 (by simp)) 0).trans rfl
  have ctb1 : w4.cell? ⟨tb, 1, none⟩ = some (.int .i64 0) := (blk_cell (HF_4.out.get tb #[.slice A exT.length c, .int .i64 0] 24 (by simp)) 1).trans rfl
  go_wp2_with fail
  clear hltb ctb0 ctb1
  obtain ⟨w4a, hZ⟩ : ∃ Z, w4.alloc (.cells #[.int .i64 390, .int .i64 1, .int .i64 660, .int .i64 1] 48) = Z := ⟨_, rfl⟩
  obtain ⟨nb, hbk⟩ : ∃ b, b = w4.heap.size := ⟨_, rfl⟩
  have HF_4a : Aside0 (Held [(nb, #[.int .i64 390, .int .i64 1, .int .i64 660, .int .i64 1], 48), (mb, #[.int .i64 0, .int .i64 520], 43), (vb, #[.int .i64 1100, .int .i64 1], 39), (tb, #[.slice A exT.length c, .int .i64 0], 24)] w4a) := ⟨by rw [← hZ, hbk]; exact HF_4.out.new _ _⟩
  have HR_4a : Aside0 (Kd.C k70 w4a A exT.length exT) := ⟨by rw [← hZ]; exact Kd.C_below HR_4.out ((Below.refl _ _).alloc (Nat.le_refl _) _)⟩
  have HB_4a : Aside0 (Below w.heap.size w w4a) := ⟨by rw [← hZ]; exact HB_4.out.alloc HB_4.out.size _⟩
  rw [hZ, ← hbk]
  clear hZ hbk HF_4 HB_4 HR_4 w4
  refine (forecourtlaw01_probed.calls exT 10 w4a ex_probed).mono ?_
  rintro e w5 ⟨v, rfl, Hp, hB⟩
  obtain ⟨Ap, cp, rfl, Hpl, Hpr⟩ := Kd.R_reads Hp
  have Hp_L := Lib.hid Hpl
  have Hp_5 := Aside0.mk Hpr
  clear Hp Hpl Hpr
  have HF_5 := Aside0.mk (HF_4a.out.below hB)
  have HB_5 := Aside0.mk (below_then HB_4a.out hB)
  have HR_5 := Aside0.mk (Kd.C_below HR_4a.out hB)
  clear hB HF_4a HB_4a HR_4a w4a
  go_wp2_with fail
  refine (chart_Net.calls Ap cp exT 10 150 100 0 0 0 0 24 w5 Hp_5.out Hp_L.out kn_netP).mono ?_
  rintro e w6 ⟨rfl, hB⟩
  have HF_6 := Aside0.mk (HF_5.out.below hB)
  have HB_6 := Aside0.mk (below_then HB_5.out hB)
  have HR_6 := Aside0.mk (Kd.C_below HR_5.out hB)
  have Hp_6 := Aside0.mk (Kd.C_below Hp_5.out hB)
  clear hB HF_5 HB_5 HR_5 Hp_5 w5
  have hltb := blk_lt (HF_6.out.get tb #[.slice A exT.length c, .int .i64 0] 24 (by simp))
  have ctb0 : w6.cell? ⟨tb, 0, none⟩ = some (.slice A exT.length c) := (blk_cell (HF_6.out.get tb #[.slice A exT.length c, .int .i64 0] 24 (by simp)) 0).trans rfl
  have ctb1 : w6.cell? ⟨tb, 1, none⟩ = some (.int .i64 0) := (blk_cell (HF_6.out.get tb #[.slice A exT.length c, .int .i64 0] 24 (by simp)) 1).trans rfl
  go_wp2_with fail
  clear hltb ctb0 ctb1
  obtain ⟨w6a, hZ⟩ : ∃ Z, w6.alloc (.cells #[.int .i64 0, .int .i64 0, .int .i64 0, .int .i64 0] 48) = Z := ⟨_, rfl⟩
  obtain ⟨ub, hbk⟩ : ∃ b, b = w6.heap.size := ⟨_, rfl⟩
  have HF_6a : Aside0 (Held [(ub, #[.int .i64 0, .int .i64 0, .int .i64 0, .int .i64 0], 48), (nb, #[.int .i64 390, .int .i64 1, .int .i64 660, .int .i64 1], 48), (mb, #[.int .i64 0, .int .i64 520], 43), (vb, #[.int .i64 1100, .int .i64 1], 39), (tb, #[.slice A exT.length c, .int .i64 0], 24)] w6a) := ⟨by rw [← hZ, hbk]; exact HF_6.out.new _ _⟩
  have HR_6a : Aside0 (Kd.C k70 w6a A exT.length exT) := ⟨by rw [← hZ]; exact Kd.C_below HR_6.out ((Below.refl _ _).alloc (Nat.le_refl _) _)⟩
  have Hp_6a : Aside0 (Kd.C k70 w6a Ap exT.length exT) := ⟨by rw [← hZ]; exact Kd.C_below Hp_6.out ((Below.refl _ _).alloc (Nat.le_refl _) _)⟩
  have HB_6a : Aside0 (Below w.heap.size w w6a) := ⟨by rw [← hZ]; exact HB_6.out.alloc HB_6.out.size _⟩
  rw [hZ, ← hbk]
  clear hZ hbk HF_6 HB_6 HR_6 Hp_6 w6
  refine (forecourtlaw01_rg.calls 10 10 10 10 w6a (by kernel_rfl)).mono ?_
  rintro e w7 ⟨rfl, hB⟩
  have HF_7 := Aside0.mk (HF_6a.out.below hB)
  have HB_7 := Aside0.mk (below_then HB_6a.out hB)
  have HR_7 := Aside0.mk (Kd.C_below HR_6a.out hB)
  have Hp_7 := Aside0.mk (Kd.C_below Hp_6a.out hB)
  clear hB HF_6a HB_6a HR_6a Hp_6a w6a
  go_wp2_with fail
  refine (forecourtlaw01_rg.calls 100 100 100 100 w7 (by kernel_rfl)).mono ?_
  rintro e w8 ⟨rfl, hB⟩
  have HF_8 := Aside0.mk (HF_7.out.below hB)
  have HB_8 := Aside0.mk (below_then HB_7.out hB)
  have HR_8 := Aside0.mk (Kd.C_below HR_7.out hB)
  have Hp_8 := Aside0.mk (Kd.C_below Hp_7.out hB)
  clear hB HF_7 HB_7 HR_7 Hp_7 w7
  go_wp2_with fail
  refine (common5.calls 1000 10 10 100 100 1000000 1001 1000000 1001 0 w8 kn_common).mono ?_
  rintro e w9 ⟨rfl, hB⟩
  have HF_9 := Aside0.mk (HF_8.out.below hB)
  have HB_9 := Aside0.mk (below_then HB_8.out hB)
  have HR_9 := Aside0.mk (Kd.C_below HR_8.out hB)
  have Hp_9 := Aside0.mk (Kd.C_below Hp_8.out hB)
  clear hB HF_8 HB_8 HR_8 Hp_8 w8
  have hltb := blk_lt (HF_9.out.get tb #[.slice A exT.length c, .int .i64 0] 24 (by simp))
  have ctb0 : w9.cell? ⟨tb, 0, none⟩ = some (.slice A exT.length c) := (blk_cell (HF_9.out.get tb #[.slice A exT.length c, .int .i64 0] 24 (by simp)) 0).trans rfl
  have ctb1 : w9.cell? ⟨tb, 1, none⟩ = some (.int .i64 0) := (blk_cell (HF_9.out.get tb #[.slice A exT.length c, .int .i64 0] 24 (by simp)) 1).trans rfl
  go_wp2_with fail
  clear hltb ctb0 ctb1
  obtain ⟨w9a, hZ⟩ : ∃ Z, w9.alloc (.cells #[.int .i64 1000000, .int .i64 1001, .int .i64 1000000, .int .i64 1001] 48) = Z := ⟨_, rfl⟩
  obtain ⟨ob, hbk⟩ : ∃ b, b = w9.heap.size := ⟨_, rfl⟩
  have HF_9a : Aside0 (Held [(ob, #[.int .i64 1000000, .int .i64 1001, .int .i64 1000000, .int .i64 1001], 48), (ub, #[.int .i64 0, .int .i64 0, .int .i64 0, .int .i64 0], 48), (nb, #[.int .i64 390, .int .i64 1, .int .i64 660, .int .i64 1], 48), (mb, #[.int .i64 0, .int .i64 520], 43), (vb, #[.int .i64 1100, .int .i64 1], 39), (tb, #[.slice A exT.length c, .int .i64 0], 24)] w9a) := ⟨by rw [← hZ, hbk]; exact HF_9.out.new _ _⟩
  have HR_9a : Aside0 (Kd.C k70 w9a A exT.length exT) := ⟨by rw [← hZ]; exact Kd.C_below HR_9.out ((Below.refl _ _).alloc (Nat.le_refl _) _)⟩
  have Hp_9a : Aside0 (Kd.C k70 w9a Ap exT.length exT) := ⟨by rw [← hZ]; exact Kd.C_below Hp_9.out ((Below.refl _ _).alloc (Nat.le_refl _) _)⟩
  have HB_9a : Aside0 (Below w.heap.size w w9a) := ⟨by rw [← hZ]; exact HB_9.out.alloc HB_9.out.size _⟩
  rw [hZ, ← hbk]
  clear hZ hbk HF_9 HB_9 HR_9 Hp_9 w9
  have hlvb := blk_lt (HF_9a.out.get vb #[.int .i64 1100, .int .i64 1] 39 (by simp))
  have cvb0 : w9a.cell? ⟨vb, 0, none⟩ = some (.int .i64 1100) := (blk_cell (HF_9a.out.get vb #[.int .i64 1100, .int .i64 1] 39 (by simp)) 0).trans rfl
  have cvb1 : w9a.cell? ⟨vb, 1, none⟩ = some (.int .i64 1) := (blk_cell (HF_9a.out.get vb #[.int .i64 1100, .int .i64 1] 39 (by simp)) 1).trans rfl
  have hlmb := blk_lt (HF_9a.out.get mb #[.int .i64 0, .int .i64 520] 43 (by simp))
  have cmb0 : w9a.cell? ⟨mb, 0, none⟩ = some (.int .i64 0) := (blk_cell (HF_9a.out.get mb #[.int .i64 0, .int .i64 520] 43 (by simp)) 0).trans rfl
  have cmb1 : w9a.cell? ⟨mb, 1, none⟩ = some (.int .i64 520) := (blk_cell (HF_9a.out.get mb #[.int .i64 0, .int .i64 520] 43 (by simp)) 1).trans rfl
  have hlnb := blk_lt (HF_9a.out.get nb #[.int .i64 390, .int .i64 1, .int .i64 660, .int .i64 1] 48 (by simp))
  have cnb0 : w9a.cell? ⟨nb, 0, none⟩ = some (.int .i64 390) := (blk_cell (HF_9a.out.get nb #[.int .i64 390, .int .i64 1, .int .i64 660, .int .i64 1] 48 (by simp)) 0).trans rfl
  have cnb1 : w9a.cell? ⟨nb, 1, none⟩ = some (.int .i64 1) := (blk_cell (HF_9a.out.get nb #[.int .i64 390, .int .i64 1, .int .i64 660, .int .i64 1] 48 (by simp)) 1).trans rfl
  have cnb2 : w9a.cell? ⟨nb, 2, none⟩ = some (.int .i64 660) := (blk_cell (HF_9a.out.get nb #[.int .i64 390, .int .i64 1, .int .i64 660, .int .i64 1] 48 (by simp)) 2).trans rfl
  have cnb3 : w9a.cell? ⟨nb, 3, none⟩ = some (.int .i64 1) := (blk_cell (HF_9a.out.get nb #[.int .i64 390, .int .i64 1, .int .i64 660, .int .i64 1] 48 (by simp)) 3).trans rfl
  have hlob := blk_lt (HF_9a.out.get ob #[.int .i64 1000000, .int .i64 1001, .int .i64 1000000, .int .i64 1001] 48 (by simp))
  have cob0 : w9a.cell? ⟨ob, 0, none⟩ = some (.int .i64 1000000) := (blk_cell (HF_9a.out.get ob #[.int .i64 1000000, .int .i64 1001, .int .i64 1000000, .int .i64 1001] 48 (by simp)) 0).trans rfl
  have cob1 : w9a.cell? ⟨ob, 1, none⟩ = some (.int .i64 1001) := (blk_cell (HF_9a.out.get ob #[.int .i64 1000000, .int .i64 1001, .int .i64 1000000, .int .i64 1001] 48 (by simp)) 1).trans rfl
  have cob2 : w9a.cell? ⟨ob, 2, none⟩ = some (.int .i64 1000000) := (blk_cell (HF_9a.out.get ob #[.int .i64 1000000, .int .i64 1001, .int .i64 1000000, .int .i64 1001] 48 (by simp)) 2).trans rfl
  have cob3 : w9a.cell? ⟨ob, 3, none⟩ = some (.int .i64 1001) := (blk_cell (HF_9a.out.get ob #[.int .i64 1000000, .int .i64 1001, .int .i64 1000000, .int .i64 1001] 48 (by simp)) 3).trans rfl
  (refine start_ (n := 46) (S := fun w' => Below (World.heap _).size _ w') (ds := []) (List.toArray (false :: false :: false :: false :: false :: false :: false :: false :: false :: false :: false :: false :: false :: false :: false :: false :: false :: false :: false :: false :: false :: false :: false :: false :: false :: false :: false :: false :: false :: false :: false :: false :: false :: false :: false :: false :: false :: false :: false :: false :: false :: false :: false :: false :: false :: false :: [])) (by kernel_rfl) rfl rfl (belowDrew _) (fun plS => ?_); refine pureY (i := 0) (N := (some 40)) ?_; refine pureY (i := 1) (N := (some 41)) ?_; refine pureY (i := 2) (N := (some 42)) ?_; refine pureY (i := 3) (N := (some 43)) ?_; refine pureY (i := 4) (N := (some 44)) ?_; refine pureY (i := 5) (N := (some 45)) ?_; refine pureY (i := 6) (N := (some 46)) ?_; refine pureY (i := 7) (N := (some 47)) ?_; refine pureY (i := 8) (N := (some 48)) ?_; refine pureY (i := 9) (N := (some 49)) ?_; refine pureY (i := 10) (N := (some 50)) ?_; refine pureY (i := 11) (N := (some 51)) ?_; refine pureY (i := 12) (N := (some 52)) ?_; refine pureY (i := 13) (N := (some 53)) ?_; refine pureY (i := 14) (N := (some 54)) ?_; refine pureY (i := 15) (N := (some 55)) ?_; refine pureY (i := 16) (N := (some 56)) ?_; refine pureY (i := 17) (N := (some 57)) ?_; refine pureY (i := 18) (N := (some 58)) ?_; refine takeF (i := 19) (N := (some 59)) (hS := plS) (hy := by (intro w' hw'; replace hw' : Below (World.heap w9a).size w9a w' := hw'; have q0 := pw_cell_below hw' cvb0; have q1 := pw_cell_below hw' cvb1; have q2 := pw_cell_below hw' cmb0; have q3 := pw_cell_below hw' cmb1; have q4 := pw_cell_below hw' cnb0; have q5 := pw_cell_below hw' cnb1; have q6 := pw_cell_below hw' cnb2; have q7 := pw_cell_below hw' cnb3; have q8 := pw_cell_below hw' cob0; have q9 := pw_cell_below hw' cob1; have q10 := pw_cell_below hw' cob2; have q11 := pw_cell_below hw' cob3; exact yieldA)) (h := ?_); refine oneY (i := 20) (fun plK plH => ?_); rw [if_pos (by rfl)]; (first | gi_big_move | go_big_op | go_simp))
  refine (forecourtlaw01_of.calls 1100 1 1100 1 _ (by kernel_rfl)).mono ?_
  rintro e y1 ⟨rfl, hb⟩
  have hB1 : Below w9a.heap.size w9a y1 := ((Below.refl _ w9a).drew).trans hb
  clear hb
  ((try simp only [Act.put, List.getElem_toArray, List.getElem_cons_succ, List.getElem_cons_zero, List.setIfInBounds_toArray, List.set_cons_succ, List.set_cons_zero]); refine plH _ _ hB1 (fun plS => ?_); clear plH plK; refine pureY (i := 21) (N := (some 61)) ?_; refine pureY (i := 22) (N := (some 62)) ?_; refine pureY (i := 23) (N := (some 63)) ?_; refine takeF (i := 24) (N := (some 64)) (hS := plS) (hy := by (intro w' hw'; replace hw' : Below (World.heap w9a).size w9a w' := hw'; have q0 := pw_cell_below hw' cvb0; have q1 := pw_cell_below hw' cvb1; have q2 := pw_cell_below hw' cmb0; have q3 := pw_cell_below hw' cmb1; have q4 := pw_cell_below hw' cnb0; have q5 := pw_cell_below hw' cnb1; have q6 := pw_cell_below hw' cnb2; have q7 := pw_cell_below hw' cnb3; have q8 := pw_cell_below hw' cob0; have q9 := pw_cell_below hw' cob1; have q10 := pw_cell_below hw' cob2; have q11 := pw_cell_below hw' cob3; exact yieldA)) (h := ?_); refine oneY (i := 25) (fun plK plH => ?_); rw [if_pos (by rfl)]; (first | gi_big_move | go_big_op | go_simp))
  refine (forecourtlaw01_rg.calls 0 520 0 520 _ (by kernel_rfl)).mono ?_
  rintro e y2 ⟨rfl, hb⟩
  have hB2 : Below w9a.heap.size w9a y2 := below_then hB1 hb
  clear hb
  ((try simp only [Act.put, List.getElem_toArray, List.getElem_cons_succ, List.getElem_cons_zero, List.setIfInBounds_toArray, List.set_cons_succ, List.set_cons_zero]); refine plH _ _ hB2 (fun plS => ?_); clear plH plK; refine pureY (i := 26) (N := (some 66)) ?_; refine pureY (i := 27) (N := (some 67)) ?_; refine pureY (i := 28) (N := (some 68)) ?_; refine takeF (i := 29) (N := (some 69)) (hS := plS) (hy := by (intro w' hw'; replace hw' : Below (World.heap w9a).size w9a w' := hw'; have q0 := pw_cell_below hw' cvb0; have q1 := pw_cell_below hw' cvb1; have q2 := pw_cell_below hw' cmb0; have q3 := pw_cell_below hw' cmb1; have q4 := pw_cell_below hw' cnb0; have q5 := pw_cell_below hw' cnb1; have q6 := pw_cell_below hw' cnb2; have q7 := pw_cell_below hw' cnb3; have q8 := pw_cell_below hw' cob0; have q9 := pw_cell_below hw' cob1; have q10 := pw_cell_below hw' cob2; have q11 := pw_cell_below hw' cob3; exact yieldA)) (h := ?_); refine oneY (i := 30) (fun plK plH => ?_); rw [if_pos (by rfl)]; (first | gi_big_move | go_big_op | go_simp))
  refine (forecourtlaw01_of.calls 390 1 390 1 _ (by kernel_rfl)).mono ?_
  rintro e y3 ⟨rfl, hb⟩
  have hB3 : Below w9a.heap.size w9a y3 := below_then hB2 hb
  clear hb
  ((try simp only [Act.put, List.getElem_toArray, List.getElem_cons_succ, List.getElem_cons_zero, List.setIfInBounds_toArray, List.set_cons_succ, List.set_cons_zero]); refine plH _ _ hB3 (fun plS => ?_); clear plH plK; refine oneY (i := 31) (fun plK plH => ?_); rw [if_pos (by rfl)]; (first | gi_big_move | go_big_op | go_simp))
  refine (forecourtlaw01_of.calls 660 1 660 1 _ (by kernel_rfl)).mono ?_
  rintro e y4 ⟨rfl, hb⟩
  have hB4 : Below w9a.heap.size w9a y4 := below_then hB3 hb
  clear hb
  ((try simp only [Act.put, List.getElem_toArray, List.getElem_cons_succ, List.getElem_cons_zero, List.setIfInBounds_toArray, List.set_cons_succ, List.set_cons_zero]); refine plH _ _ hB4 (fun plS => ?_); clear plH plK; refine pureY (i := 32) (N := (some 72)) ?_; refine pureY (i := 33) (N := (some 73)) ?_; refine pureY (i := 34) (N := (some 74)) ?_; refine pureY (i := 35) (N := (some 75)) ?_; refine takeF (i := 36) (N := (some 76)) (hS := plS) (hy := by (intro w' hw'; replace hw' : Below (World.heap w9a).size w9a w' := hw'; have q0 := pw_cell_below hw' cvb0; have q1 := pw_cell_below hw' cvb1; have q2 := pw_cell_below hw' cmb0; have q3 := pw_cell_below hw' cmb1; have q4 := pw_cell_below hw' cnb0; have q5 := pw_cell_below hw' cnb1; have q6 := pw_cell_below hw' cnb2; have q7 := pw_cell_below hw' cnb3; have q8 := pw_cell_below hw' cob0; have q9 := pw_cell_below hw' cob1; have q10 := pw_cell_below hw' cob2; have q11 := pw_cell_below hw' cob3; exact yieldA)) (h := ?_); refine oneY (i := 37) (fun plK plH => ?_); rw [if_pos (by rfl)]; (first | gi_big_move | go_big_op | go_simp))
  refine (forecourtlaw01_of.calls 1000000 1001 1000000 1001 _ (by kernel_rfl)).mono ?_
  rintro e y5 ⟨rfl, hb⟩
  have hB5 : Below w9a.heap.size w9a y5 := below_then hB4 hb
  clear hb
  ((try simp only [Act.put, List.getElem_toArray, List.getElem_cons_succ, List.getElem_cons_zero, List.setIfInBounds_toArray, List.set_cons_succ, List.set_cons_zero]); refine plH _ _ hB5 (fun plS => ?_); clear plH plK; refine oneY (i := 38) (fun plK plH => ?_); rw [if_pos (by rfl)]; (first | gi_big_move | go_big_op | go_simp))
  refine (forecourtlaw01_of.calls 1000000 1001 1000000 1001 _ (by kernel_rfl)).mono ?_
  rintro e y6 ⟨rfl, hb⟩
  have hB6 : Below w9a.heap.size w9a y6 := below_then hB5 hb
  clear hb
  ((try simp only [Act.put, List.getElem_toArray, List.getElem_cons_succ, List.getElem_cons_zero, List.setIfInBounds_toArray, List.set_cons_succ, List.set_cons_zero]); refine plH _ _ hB6 (fun plS => ?_); clear plH plK; refine pureY (i := 39) (N := (some 79)) ?_; refine pureY (i := 40) (N := (some 80)) ?_; refine pureY (i := 41) (N := (some 81)) ?_; refine pureY (i := 42) (N := (some 82)) ?_; refine oneY (i := 43) (fun plK plH => ?_); rw [if_pos (by rfl)]; (first | gi_big_move | go_big_op | go_simp))
  refine (forecourtlaw01_Works.calls true y6 ⟨rfl⟩ rfl).mono ?_
  rintro e y7 ⟨rfl, hb⟩
  have hB7 : Below w9a.heap.size w9a y7 := below_then hB6 hb
  ((try simp only [Act.put, List.getElem_toArray, List.getElem_cons_succ, List.getElem_cons_zero, List.setIfInBounds_toArray, List.set_cons_succ, List.set_cons_zero]); refine plH _ _ hB7 (fun plS => ?_); clear plH plK; refine pureY (i := 44) (N := (some 84)) ?_; refine pureY (i := 45) (N := (some 0)) ?_; refine done_ (by kernel_rfl) ?_)
  clear plS
  go_wp2_with fail
  go_ret
  exact ⟨rfl, below_then HB_9a.out hB7⟩
theorem chartKnown_walk (w : World) : Calls Try.prog 14 #[] w fun e w' => e = .returned (.bool true) ∧ Below w.heap.size w w' := known_calls w
end Go.Proofs.Ytpkajhmchcbbhaa.P
end
