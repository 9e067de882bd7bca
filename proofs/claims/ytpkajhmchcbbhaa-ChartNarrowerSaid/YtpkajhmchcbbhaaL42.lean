/- Part 42 of 44. -/
import Derived.Test.YtpkajhmchcbbhaaL0
import Derived.Test.YtpkajhmchcbbhaaL41
import Derived.Test.YtpkajhmchcbbhaaL17
import Derived.Test.YtpkajhmchcbbhaaL34
import Derived.Test.YtpkajhmchcbbhaaL40
import Derived.Test.YtpkajhmchcbbhaaL8
import Derived.Test.YtpkajhmchcbbhaaL12
import Derived.Test.YtpkajhmchcbbhaaL10
set_option linter.unusedSimpArgs false
set_option linter.unusedVariables false
section
namespace Go.Proofs.Ytpkajhmchcbbhaa.P
open Go Go.BigFrame Go.RowKit Go.Proofs.YtpkajhmchcbbhaaW.PrintWords Go.Proofs.YtpkajhmchcbbhaaW.PrintLast Go.Proofs.YtpkajhmchcbbhaaW.PrintMore
attribute [local go_sem high] eqA43 eqA48
attribute [local go_sem] max2_mx min2_mn max_two min_two
set_option maxRecDepth 100000 in
set_option maxHeartbeats 80000000 in
theorem narA_calls (A : Option Addr) (c : Nat) (l : List SRow) (p : Int) (row u0 u1 q x0 x1 x2 : Int) (k : Nat) (kk : Nat) (lo hi py z1 z2 z3 : Int) (wa le dz n1 n2 n3 n4 e ex m1 m2 m3 m4 ey o1 o2 o3 o4 : Int) (a : Nat) (bz : Bool) (w w0 : World)
  (HR_0 : Aside0 (Kd.C k70 w0 A l.length l)) (HC : Hid (l.length ≤ c)) (HB_0 : Aside0 (Below w.heap.size w w0))
  (HF : Hid (forecourtlaw01_fine.f k l p = some true)) (HU : Hid (0 ≤ row ∧ row ≤ 255 ∧ 0 ≤ u0 ∧ u0 ≤ 4294967295 ∧ 0 ≤ u1 ∧ u1 ≤ 4294967295 ∧ 0 ≤ q ∧ q ≤ 255))
  (HK : Hid (kk < l.length ∧ row.tmod (l.length : Int) = kk)) (HX : Hid (IntKind.i64.wrap (loR l kk + u0) = z1 ∧ mn (hiR l kk) z1 = lo ∧ IntKind.i64.wrap (hiR l kk - u1) = z2 ∧ mx lo z2 = hi)) (HP : Hid (IntKind.i64.wrap (p - q) = z3 ∧ mx 0 z3 = py))
  (HM : Aside0 (NarFacts l p x0 x1 x2 kk lo hi py k wa le dz n1 n2 n3 n4 e ex m1 m2 m3 m4 ey o1 o2 o3 o4 a bz)) :
  Calls Try.prog 9 #[.agg #[.slice A l.length c, .int .i64 p], .int .u8 row, .agg #[.int .u32 u0, .int .u32 u1], .int .u8 q, .agg #[.int .u16 x0, .int .u16 x1], .int .u16 x2] w0 fun e w' => e = .returned (.bool true) ∧ Below w.heap.size w w' := by
 have hu1 := Try.underlying24
 have hu2 := Try.underlying70
 have hu3 := Try.underlying43
 have hu4 := Try.underlying48
 have hu5 := Try.underlying61
 have hu6 := Try.underlying22
 have hu7 := Try.underlying28
 have hu8 := Try.underlying74
 have hu9 := Try.underlying76
 have HF_0 : Aside0 (Held [] w0) := ⟨⟨fun b cs t hm => by simp at hm⟩⟩
 go_enter Try.func9, Try.ntmps9
 go_wp2_with fail
 obtain ⟨w0a, hZ⟩ : ∃ Z, w0.alloc (.cells #[.slice A l.length c, .int .i64 p] 24) = Z := ⟨_, rfl⟩
 obtain ⟨tb, hbk⟩ : ∃ b, b = w0.heap.size := ⟨_, rfl⟩
 have HF_0a : Aside0 (Held [(tb, #[.slice A l.length c, .int .i64 p], 24)] w0a) := ⟨by rw [← hZ, hbk]; exact HF_0.out.new _ _⟩
 have HSZ := Lib.hid (show w0a.heap.size = tb + 1 by rw [← hZ, hbk]; simp)
 have HR_0a : Aside0 (Kd.C k70 w0a A l.length l) := ⟨by rw [← hZ]; exact Kd.C_below HR_0.out ((Below.refl _ _).alloc (Nat.le_refl _) _)⟩
 have HB_0a : Aside0 (Below w.heap.size w w0a) := ⟨by rw [← hZ]; exact HB_0.out.alloc HB_0.out.size _⟩
 rw [hZ, ← hbk]
 clear hZ hbk HF_0 HB_0 HR_0 w0
 obtain ⟨w0aa, hZ⟩ : ∃ Z, w0a.alloc (.cells #[.int .u32 u0, .int .u32 u1] 74) = Z := ⟨_, rfl⟩
 obtain ⟨lb, hbk⟩ : ∃ b, b = tb + 1 := ⟨_, rfl⟩
 have HF_0aa : Aside0 (Held [(lb, #[.int .u32 u0, .int .u32 u1], 74), (tb, #[.slice A l.length c, .int .i64 p], 24)] w0aa) := ⟨by rw [← hZ, hbk, ← HSZ.out]; exact HF_0a.out.new _ _⟩
 have HSZ2 := Lib.hid (show w0aa.heap.size = lb + 1 by rw [← hZ, hbk, ← HSZ.out]; simp)
 have HR_0aa : Aside0 (Kd.C k70 w0aa A l.length l) := ⟨by rw [← hZ]; exact Kd.C_below HR_0a.out ((Below.refl _ _).alloc (Nat.le_refl _) _)⟩
 have HB_0aa : Aside0 (Below w.heap.size w w0aa) := ⟨by rw [← hZ]; exact HB_0a.out.alloc HB_0a.out.size _⟩
 rw [hZ, ← hbk]
 clear hZ hbk HSZ HF_0a HB_0a HR_0a w0a
 have HSZ := HSZ2
 clear HSZ2
 obtain ⟨w0aaa, hZ⟩ : ∃ Z, w0aa.alloc (.cells #[.int .u16 x0, .int .u16 x1] 61) = Z := ⟨_, rfl⟩
 obtain ⟨db, hbk⟩ : ∃ b, b = lb + 1 := ⟨_, rfl⟩
 have HF_0aaa : Aside0 (Held [(db, #[.int .u16 x0, .int .u16 x1], 61), (lb, #[.int .u32 u0, .int .u32 u1], 74), (tb, #[.slice A l.length c, .int .i64 p], 24)] w0aaa) := ⟨by rw [← hZ, hbk, ← HSZ.out]; exact HF_0aa.out.new _ _⟩
 have HR_0aaa : Aside0 (Kd.C k70 w0aaa A l.length l) := ⟨by rw [← hZ]; exact Kd.C_below HR_0aa.out ((Below.refl _ _).alloc (Nat.le_refl _) _)⟩
 have HB_0aaa : Aside0 (Below w.heap.size w w0aaa) := ⟨by rw [← hZ]; exact HB_0aa.out.alloc HB_0aa.out.size _⟩
 rw [hZ, ← hbk]
 clear hZ hbk HSZ HF_0aa HB_0aa HR_0aa w0aa
 refine (forecourtlaw01_fine.calls k A c l p true w0aaa HR_0aaa.out HC.out HF.out).mono ?_
 rintro e w1 ⟨rfl, hB⟩
 have HF_1 := Aside0.mk (HF_0aaa.out.below hB)
 have HB_1 := Aside0.mk (below_then HB_0aaa.out hB)
 have HR_1 := Aside0.mk (Kd.C_below HR_0aaa.out hB)
 clear hB HF_0aaa HB_0aaa HR_0aaa w0aaa
 have hn2 := HM.out.fine.tank.n2
 have hn16 := HM.out.fine.tank.n16
 obtain ⟨ad3, ea, hq0, hq1, hq2⟩ := at_T70 HR_1.out 0 (by omega) (by omega)
 cases ea
 clear hq0 hq1 hq2
 have hH := HF_1.out.get tb #[.slice (some ad3) l.length c, .int .i64 p] 24 (by simp)
 have hltb := blk_lt hH
 have ctb0 : w1.cell? ⟨tb, 0, none⟩ = some (.slice (some ad3) l.length c) := (blk_cell hH 0).trans rfl
 have ctb1 : w1.cell? ⟨tb, 1, none⟩ = some (.int .i64 p) := (blk_cell hH 1).trans rfl
 clear hH
 go_wp2_with fail
 (refine start_ (n := 6) (S := fun w' => Below (World.heap w1).size w1 w') (ds := []) (List.toArray (false :: false :: false :: false :: false :: false :: [])) (by kernel_rfl) rfl rfl (belowDrew w1) (fun plS => ?_); refine takeF (i := 0) (N := (some 39)) (hS := plS) (hy := by (intro w' hw'; replace hw' : Below (World.heap w1).size w1 w' := hw'; have q0 := pw_cell_below hw' ctb0; have q1 := pw_cell_below hw' ctb1; exact yieldA)) (h := ?_); refine takeF (i := 1) (N := (some 40)) (hS := plS) (hy := by (intro w' hw'; replace hw' : Below (World.heap w1).size w1 w' := hw'; have q0 := pw_cell_below hw' ctb0; have q1 := pw_cell_below hw' ctb1; exact yieldA)) (h := ?_))
 obtain ⟨y0, hy0⟩ : ∃ Y, w1.drew = Y := ⟨_, rfl⟩
 have hB0 : Below w1.heap.size w1 y0 := by rw [← hy0]; exact belowDrew w1
 rw [hy0]
 clear hy0 plS
 refine join_ (σ := Nat × Nat) 2 (List.toArray (true :: true :: true :: true :: false :: false :: [])) (fun s => [(13, .pointer (some ⟨s.1, 0, none⟩)), (14, .pointer (some ⟨s.2, 0, none⟩))])
  (fun s W => Below w1.heap.size w1 W ∧ W.heap[s.1]? = some (.cells #[.slice none 0 0, .int .i64 0] 24 (0, 0)) ∧ W.heap[s.2]? = some (.cells #[.slice none 0 0, .int .i64 0] 24 (0, 0)) ∧ w1.heap.size ≤ s.1 ∧ w1.heap.size ≤ s.2 ∧ s.1 ≠ s.2) ?_ ?_
 rotate_left
 ·intro hJ
  (refine two_ (i := 2) (j := 3) (List.toArray (true :: true :: true :: false :: false :: false :: [])) (List.toArray (true :: true :: false :: true :: false :: false :: [])) rfl rfl rfl rfl (by kernel_rfl) (by decide) (by decide) (fun plK plH => ?_) (fun plK plH => ?_))
  all_goals ((try (rw [if_pos (by rfl)]; (first | gi_big_move | go_big_op | go_simp))); obtain ⟨y1, hy⟩ : ∃ Y, World.alloc y0 (.cells #[.slice none 0 0, .int .i64 0] 24) = Y := ⟨_, rfl⟩; obtain ⟨b1, hb⟩ : ∃ b, b = y0.heap.size := ⟨_, rfl⟩; have hx1 : Below (World.heap y0).size y0 y1 := (by rw [← hy]; exact below_own _ _); have hM1 : y1.heap[b1]? = some (.cells #[.slice none 0 0, .int .i64 0] 24 (0, 0)) := (by rw [← hy, hb]; exact blk_new _ _); have hE1 : Hid (b1 = y0.heap.size) := Lib.hid hb; have hL1 : w1.heap.size ≤ b1 := (by rw [hb]; exact hB0.size); rw [hy, ← hb]; clear hy hb)
  all_goals have hB1 : Below w1.heap.size w1 y1 := (below_then hB0 hx1)
  all_goals (first | ((try simp only [Act.put, List.getElem_toArray, List.getElem_cons_succ, List.getElem_cons_zero, List.setIfInBounds_toArray, List.set_cons_succ, List.set_cons_zero]); refine plH _ _ hB1  (fun plS => ?_); clear plH plK; refine at_ #[true, true, true, false, false, false] rfl ?_; refine oneY (i := 3) (fun plK plH => ?_); rw [if_pos (by rfl)]; (first | gi_big_move | go_big_op | go_simp)) | ((try simp only [Act.put, List.getElem_toArray, List.getElem_cons_succ, List.getElem_cons_zero, List.setIfInBounds_toArray, List.set_cons_succ, List.set_cons_zero]); refine plH _ _ hB1  (fun plS => ?_); clear plH plK; refine at_ #[true, true, false, true, false, false] rfl ?_; refine oneY (i := 2) (fun plK plH => ?_); rw [if_pos (by rfl)]; (first | gi_big_move | go_big_op | go_simp)))
  all_goals ((try (rw [if_pos (by rfl)]; (first | gi_big_move | go_big_op | go_simp))); obtain ⟨y2, hy⟩ : ∃ Y, World.alloc y1 (.cells #[.slice none 0 0, .int .i64 0] 24) = Y := ⟨_, rfl⟩; obtain ⟨b2, hb⟩ : ∃ b, b = y1.heap.size := ⟨_, rfl⟩; have hx2 : Below (World.heap y1).size y1 y2 := (by rw [← hy]; exact below_own _ _); have hM2 : y2.heap[b2]? = some (.cells #[.slice none 0 0, .int .i64 0] 24 (0, 0)) := (by rw [← hy, hb]; exact blk_new _ _); have hE2 : Hid (b2 = y1.heap.size) := Lib.hid hb; have hL2 : w1.heap.size ≤ b2 := (by rw [hb]; exact hB1.size); rw [hy, ← hb]; clear hy hb)
  all_goals have hB2 : Below w1.heap.size w1 y2 := (below_then hB1 hx2)
  all_goals have hD12 : b1 ≠ b2 := (by rw [hE2.out]; exact Nat.ne_of_lt (blk_lt hM1))
  all_goals replace hM1 := blk_call hx2 hM1
  all_goals (refine plH _ _ hB2 (fun plS => ?_); clear plH plK plS; (try simp only [Act.put, List.getElem_toArray, List.getElem_cons_succ, List.getElem_cons_zero, List.setIfInBounds_toArray, List.set_cons_succ, List.set_cons_zero]); first | exact hJ (b1, b2) y2 ⟨hB2, hM1, hM2, hL1, hL2, hD12⟩ | exact hJ (b2, b1) y2 ⟨hB2, hM2, hM1, hL2, hL1, hD12.symm⟩)
 rintro ⟨xb, yb⟩ W ⟨hBW, hG1, hG2, hL1, hL2, hne⟩
 refine norm_ (a' := ?_) (by (simp only [putAll, Act.put, List.setIfInBounds_toArray, List.set_cons_zero, List.set_cons_succ]; rfl)) ?_
 simp only at hG1 hG2 hL1 hL2 hne
 have z0 := blk_cell hG1 0
 have z1 := blk_cell hG1 1
 have xf0 := blk_frozen hG1 0
 have xf1 := blk_frozen hG1 1
 have hlt1 := blk_lt hG1
 (refine oneY (i := 4) (fun plK plH => ?_); rw [if_pos (by rfl)]; (first | gi_big_move | go_big_op | go_simp))
 obtain ⟨W2, hW2⟩ : ∃ Z, ((W.setCell ⟨xb, 0, none⟩ (.slice (some ad3) l.length c)).setCell ⟨xb, 1, none⟩ (.int .i64 p)) = Z := ⟨_, rfl⟩
 have hB2 : Below w1.heap.size w1 W2 := by rw [← hW2]; exact (hBW.setCell (p := ⟨xb, 0, none⟩) hL1 _).setCell (p := ⟨xb, 1, none⟩) hL1 _
 have hA1 : W2.heap[xb]? = some (.cells #[.slice (some ad3) l.length c, .int .i64 p] 24 (0, 0)) := by rw [← hW2]; exact blk_put (blk_put hG1 0 _ rfl) 1 _ rfl
 have hA2 : W2.heap[yb]? = some (.cells #[.slice none 0 0, .int .i64 0] 24 (0, 0)) := by rw [← hW2]; exact (Below.heap_setCell _ _ _ _ hne.symm).trans ((Below.heap_setCell _ _ _ _ hne.symm).trans hG2)
 rw [hW2]
 clear hW2 z0 z1 xf0 xf1 hlt1 hG1 hG2 hBW
 have z0 := blk_cell hA2 0
 have z1 := blk_cell hA2 1
 have xf0 := blk_frozen hA2 0
 have xf1 := blk_frozen hA2 1
 have hlt1 := blk_lt hA2
 ((try simp only [Act.put, List.getElem_toArray, List.getElem_cons_succ, List.getElem_cons_zero, List.setIfInBounds_toArray, List.set_cons_succ, List.set_cons_zero]); refine plH _ _ hB2  (fun plS => ?_); clear plH plK; refine oneY (i := 5) (fun plK plH => ?_); rw [if_pos (by rfl)]; (first | gi_big_move | go_big_op | go_simp))
 obtain ⟨W3, hW3⟩ : ∃ Z, ((W2.setCell ⟨yb, 0, none⟩ (.slice (some ad3) l.length c)).setCell ⟨yb, 1, none⟩ (.int .i64 p)) = Z := ⟨_, rfl⟩
 have hB3 : Below w1.heap.size w1 W3 := by rw [← hW3]; exact (hB2.setCell (p := ⟨yb, 0, none⟩) hL2 _).setCell (p := ⟨yb, 1, none⟩) hL2 _
 have hC1 : W3.heap[xb]? = some (.cells #[.slice (some ad3) l.length c, .int .i64 p] 24 (0, 0)) := by rw [← hW3]; exact (Below.heap_setCell _ _ _ _ hne).trans ((Below.heap_setCell _ _ _ _ hne).trans hA1)
 have hC2 : W3.heap[yb]? = some (.cells #[.slice (some ad3) l.length c, .int .i64 p] 24 (0, 0)) := by rw [← hW3]; exact blk_put (blk_put hA2 0 _ rfl) 1 _ rfl
 rw [hW3]
 clear hW3 z0 z1 xf0 xf1 hlt1 hA1 hA2 hB2
 ((try simp only [Act.put, List.getElem_toArray, List.getElem_cons_succ, List.getElem_cons_zero, List.setIfInBounds_toArray, List.set_cons_succ, List.set_cons_zero]); refine plH _ _ hB3  (fun plS => ?_); clear plH plK; refine done_ (by kernel_rfl) ?_)
 have HD := Lib.hid hne
 have HL1 := Lib.hid hL1
 have HL2 := Lib.hid hL2
 clear hne hL1 hL2 plS hltb ctb0 ctb1
 have ctb0 : W3.cell? ⟨tb, 0, none⟩ = some (.slice (some ad3) l.length c) := (blk_cell (HF_1.out.below hB3 |>.get tb #[.slice (some ad3) l.length c, .int .i64 p] 24 (by simp)) 0).trans rfl
 have hltb := blk_lt (HF_1.out.below hB3 |>.get tb #[.slice (some ad3) l.length c, .int .i64 p] 24 (by simp))
 go_wp2_with (first | ((with_reducible refine gate_dst (N := 44) rfl ?_); clear ctb0 hltb; obtain ⟨W4, hW4⟩ : ∃ Z, W3.alloc (.cells #[] 70) = Z := ⟨_, rfl⟩; obtain ⟨sb, hsb⟩ : ∃ b, b = W3.heap.size := ⟨_, rfl⟩; have hBx : Below W3.heap.size W3 W4 := (by rw [← hW4]; exact below_own _ _); have hSB : W4.heap[sb]? = some (.cells #[] 70 (0, 0)) := (by rw [← hW4, hsb]; exact blk_new _ _); have hB4 := below_then hB3 hBx; have hC3 := blk_call hBx hC1; have hC4 := blk_call hBx hC2; have hxs : xb < sb := (by rw [hsb]; exact blk_lt hC1); have hys : yb < sb := (by rw [hsb]; exact blk_lt hC2); have hVs : w1.heap.size ≤ sb := (by rw [hsb]; exact hB3.size); rw [hW4, ← hsb]; clear hW4 hsb hBx hC1 hC2 hB3; refine copy_rows (N0 := w1.heap.size) (w0 := w1) rfl _ _ rfl sb rfl hSB ad3 c l rfl (Kd.C_below HR_1.out hB4) (by omega) hB4 hVs ?_; intro v1 W5 hown hB5 hkeep; have hC5 := hkeep _ _ hC3 hxs; have hC6 := hkeep _ _ hC4 hys; clear hkeep hC3 hC4 hSB hB4 W4; obtain ⟨g, cap, cur, rfl, hg1, hg2, hg3, hg4, hg5, hg6⟩ := own_block hown (by omega); clear hown; have cx : W5.cell? ⟨xb, 0, none⟩ = some (.slice (some ad3) l.length c) := (blk_cell hC5 0).trans rfl; have cf := blk_frozen hC5 0; have cl := blk_lt hC5) | ((with_reducible refine gate_dst (N := 49) rfl ?_); clear cx cf cl; obtain ⟨W6, hW6⟩ : ∃ Z, W5.setCell ⟨xb, 0, none⟩ (.slice (some ⟨g, 0, none⟩) l.length cap) = Z := ⟨_, rfl⟩; have hB6 : Below w1.heap.size w1 W6 := (by rw [← hW6]; exact hB5.setCell (p := ⟨xb, 0, none⟩) HL1.out _); have hX6 : W6.heap[xb]? = some (.cells #[.slice (some ⟨g, 0, none⟩) l.length cap, .int .i64 p] 24 (0, 0)) := (by rw [← hW6]; exact blk_put hC5 0 _ rfl); have hY6 : W6.heap[yb]? = some (.cells #[.slice (some ad3) l.length c, .int .i64 p] 24 (0, 0)) := (by rw [← hW6]; exact (Below.heap_setCell _ _ _ _ HD.out.symm).trans hC6); have hG6 : W6.heap[g]? = some (.cells cur 70 (0, 0)) := (by rw [← hW6]; exact (Below.heap_setCell _ _ _ _ (fun hh => by have hh : g = xb := hh; omega)).trans hg2); rw [hW6]; clear hW6 hB5 hC5 hC6 hg2 W5 W3; obtain ⟨k1, k2⟩ := HK.out; have hw1 : 0 ≤ row := HU.out.1; have hw2 : row ≤ 255 := HU.out.2.1; have hwr : wrap64 row = row := wrap_id (by omega); have hn0 : ¬ (l.length : Int) = 0 := (by omega); have hne : ¬ l = [] := (fun e => by rw [e] at hn2; simp at hn2); have q1 : (0 : Int) ≤ (kk : Int) := (by omega); have q2 : (kk : Int) < (l.length : Int) := (by omega); have cx : W6.cell? ⟨xb, 0, none⟩ = some (.slice (some ⟨g, 0, none⟩) l.length cap) := (blk_cell hX6 0).trans rfl; have cl := blk_lt hX6) | ((with_reducible refine gate_dst (N := 53) rfl ?_); rw [hwr, k2]))
 clear cx cl hn0 hne hw1 hw2 hwr
 have hlb := (HF_1.out.below hB6).get lb #[.int .u32 u0, .int .u32 u1] 74 (by simp)
 have hll := blk_lt hlb
 have hgl := blk_lt hG6
 have cl0 : W6.cell? ⟨lb, 0, none⟩ = some (.int .u32 u0) := (blk_cell hlb 0).trans rfl
 have d0 := cur_get hg6 kk 1 k1 (by decide)
 have d1 := cur_get hg6 kk 2 k1 (by decide)
 replace d0 : cur[kk * 3 + 1]? = some (.int .i64 (loR l kk)) := d0
 replace d1 : cur[kk * 3 + 2]? = some (.int .i64 (hiR l kk)) := d1
 have cg0 : W6.cell? ⟨g, kk * 3 + 1, none⟩ = some (.int .i64 (loR l kk)) := (blk_cell hG6 _).trans d0
 have cg1 : W6.cell? ⟨g, kk * 3 + 2, none⟩ = some (.int .i64 (hiR l kk)) := (blk_cell hG6 _).trans d1
 have cf := blk_frozen hG6 (kk * 3 + 1)
 obtain ⟨g1, g2, g3, g4⟩ := HX.out
 have hu0 := HU.out
 have g2' : (if z1 < hiR l kk then z1 else hiR l kk) = lo := g2
 (refine start_ (n := 17) (S := fun w' => Below (World.heap _).size _ w') (ds := [16]) (List.toArray (false :: false :: false :: false :: false :: false :: false :: false :: false :: false :: false :: false :: false :: false :: false :: false :: false :: [])) (by kernel_rfl) rfl rfl (belowDrew _) (fun plS => ?_); refine pureY (i := 0) (N := (some 57)) ?_; refine pureY (i := 1) (N := (some 58)) ?_; refine pureY (i := 2) (N := (some 59)) ?_; refine pureY (i := 3) (N := (some 60)) ?_; refine pureY (i := 5) (N := (some 62)) ?_; refine pureY (i := 6) (N := (some 63)) ?_; refine pureY (i := 7) (N := (some 64)) ?_; refine pureY (i := 9) (N := (some 66)) ?_; refine takeF (i := 4) (N := (some 61)) (hS := plS) (hy := by (intro w' hw'; replace hw' : Below (World.heap W6).size W6 w' := hw'; have q0 := pw_cell_below hw' cl0; have q1 := pw_cell_below hw' cg0; have q2 := pw_cell_below hw' cg1; exact yieldA)) (h := ?_); refine takeF (i := 8) (N := (some 65)) (hS := plS) (hy := by (intro w' hw'; replace hw' : Below (World.heap W6).size W6 w' := hw'; have q0 := pw_cell_below hw' cl0; have q1 := pw_cell_below hw' cg0; have q2 := pw_cell_below hw' cg1; exact yieldA)) (h := ?_); refine takeF (i := 10) (N := (some 67)) (hS := plS) (hy := by (intro w' hw'; replace hw' : Below (World.heap W6).size W6 w' := hw'; have q0 := pw_cell_below hw' cl0; have q1 := pw_cell_below hw' cg0; have q2 := pw_cell_below hw' cg1; exact yieldA)) (h := ?_); refine pureY (i := 11) (N := (some 68)) ?_; refine pureY (i := 12) (N := (some 69)) ?_; refine pureY (i := 13) (N := (some 70)) ?_; refine pureY (i := 14) (N := (some 71)) ?_; refine pureY (i := 15) (N := (some 72)) ?_; refine lastY (i := 16) (fun plK plH => ?_); rw [if_pos (by rfl)]; (first | gi_big_move | go_big_op | go_simp))
 clear plS
 try rw [g2']
 try rw [g2]
 obtain ⟨W7, hW7⟩ : ∃ Z, (W6.setCell ⟨g, kk * 3 + 1, none⟩ (.int .i64 lo)).drew = Z := ⟨_, rfl⟩
 have hsz : kk * 3 + 2 < cur.size := by omega
 have hVg : w1.heap.size ≤ g := by omega
 have hxg : xb ≠ g := by omega
 have hyg : yb ≠ g := by omega
 have hB7 : Below w1.heap.size w1 W7 := by rw [← hW7]; exact (hB6.setCell (p := ⟨g, kk * 3 + 1, none⟩) hVg _).drew
 have hX7 : W7.heap[xb]? = some (.cells #[.slice (some ⟨g, 0, none⟩) l.length cap, .int .i64 p] 24 (0, 0)) := by rw [← hW7]; exact (Below.heap_setCell _ _ _ _ hxg).trans hX6
 have hY7 : W7.heap[yb]? = some (.cells #[.slice (some ad3) l.length c, .int .i64 p] 24 (0, 0)) := by rw [← hW7]; exact (Below.heap_setCell _ _ _ _ hyg).trans hY6
 have hG7 : W7.heap[g]? = some (.cells (cur.setIfInBounds (kk * 3 + 1) (.int .i64 lo)) 70 (0, 0)) := by rw [← hW7]; exact blk_set hG6 _ _
 rw [hW7]
 ((try simp only [Act.put, List.getElem_toArray, List.getElem_cons_succ, List.getElem_cons_zero, List.setIfInBounds_toArray, List.set_cons_succ, List.set_cons_zero]); refine plH _ _ ?_; clear plH plK; refine done_ (by kernel_rfl) ?_)
 clear hW7 hlb hll hgl cl0 cg0 cg1 cf hB6 hX6 hY6 hG6 W6
 have hlb := (HF_1.out.below hB7).get lb #[.int .u32 u0, .int .u32 u1] 74 (by simp)
 have hll := blk_lt hlb
 have hgl := blk_lt hG7
 have cl1 : W7.cell? ⟨lb, 1, none⟩ = some (.int .u32 u1) := (blk_cell hlb 1).trans rfl
 have cg0 : W7.cell? ⟨g, kk * 3 + 1, none⟩ = some (.int .i64 lo) := (blk_cell hG7 _).trans (by rw [Array.getElem?_setIfInBounds_self_of_lt (by omega)])
 have cg1 : W7.cell? ⟨g, kk * 3 + 2, none⟩ = some (.int .i64 (hiR l kk)) := (blk_cell hG7 _).trans (by rw [Array.getElem?_setIfInBounds_ne (by omega)]; exact d1)
 have cf := blk_frozen hG7 (kk * 3 + 2)
 have g4' : (if lo < z2 then z2 else lo) = hi := g4
 go_wp2_with fail
 (refine start_ (n := 17) (S := fun w' => Below (World.heap _).size _ w') (ds := [16]) (List.toArray (false :: false :: false :: false :: false :: false :: false :: false :: false :: false :: false :: false :: false :: false :: false :: false :: false :: [])) (by kernel_rfl) rfl rfl (belowDrew _) (fun plS => ?_); refine pureY (i := 0) (N := (some 73)) ?_; refine pureY (i := 1) (N := (some 74)) ?_; refine pureY (i := 2) (N := (some 75)) ?_; refine pureY (i := 3) (N := (some 76)) ?_; refine pureY (i := 5) (N := (some 78)) ?_; refine pureY (i := 6) (N := (some 79)) ?_; refine pureY (i := 7) (N := (some 80)) ?_; refine pureY (i := 9) (N := (some 82)) ?_; refine takeF (i := 4) (N := (some 77)) (hS := plS) (hy := by (intro w' hw'; replace hw' : Below (World.heap W7).size W7 w' := hw'; have q0 := pw_cell_below hw' cl1; have q1 := pw_cell_below hw' cg0; have q2 := pw_cell_below hw' cg1; exact yieldA)) (h := ?_); refine takeF (i := 8) (N := (some 81)) (hS := plS) (hy := by (intro w' hw'; replace hw' : Below (World.heap W7).size W7 w' := hw'; have q0 := pw_cell_below hw' cl1; have q1 := pw_cell_below hw' cg0; have q2 := pw_cell_below hw' cg1; exact yieldA)) (h := ?_); refine takeF (i := 10) (N := (some 83)) (hS := plS) (hy := by (intro w' hw'; replace hw' : Below (World.heap W7).size W7 w' := hw'; have q0 := pw_cell_below hw' cl1; have q1 := pw_cell_below hw' cg0; have q2 := pw_cell_below hw' cg1; exact yieldA)) (h := ?_); refine pureY (i := 11) (N := (some 84)) ?_; refine pureY (i := 12) (N := (some 85)) ?_; refine pureY (i := 13) (N := (some 86)) ?_; refine pureY (i := 14) (N := (some 87)) ?_; refine pureY (i := 15) (N := (some 88)) ?_; refine lastY (i := 16) (fun plK plH => ?_); rw [if_pos (by rfl)]; (first | gi_big_move | go_big_op | go_simp))
 clear plS
 try rw [g4']
 try rw [g4]
 obtain ⟨W8, hW8⟩ : ∃ Z, (W7.setCell ⟨g, kk * 3 + 2, none⟩ (.int .i64 hi)).drew = Z := ⟨_, rfl⟩
 rw [hW8]
 ((try simp only [Act.put, List.getElem_toArray, List.getElem_cons_succ, List.getElem_cons_zero, List.setIfInBounds_toArray, List.set_cons_succ, List.set_cons_zero]); refine plH _ _ ?_; clear plH plK; refine done_ (by kernel_rfl) ?_)
 have hB8 : Below w1.heap.size w1 W8 := by rw [← hW8]; exact (hB7.setCell (p := ⟨g, kk * 3 + 2, none⟩) hVg _).drew
 have hX8 : W8.heap[xb]? = some (.cells #[.slice (some ⟨g, 0, none⟩) l.length cap, .int .i64 p] 24 (0, 0)) := by rw [← hW8]; exact (Below.heap_setCell _ _ _ _ hxg).trans hX7
 have hY8 : W8.heap[yb]? = some (.cells #[.slice (some ad3) l.length c, .int .i64 p] 24 (0, 0)) := by rw [← hW8]; exact (Below.heap_setCell _ _ _ _ hyg).trans hY7
 have hG8 : W8.heap[g]? = some (.cells ((cur.setIfInBounds (kk * 3 + 1) (.int .i64 lo)).setIfInBounds (kk * 3 + 2) (.int .i64 hi)) 70 (0, 0)) := by rw [← hW8]; exact blk_set hG7 _ _
 clear hW8 hlb hll hgl cl1 cg0 cg1 cf hB7 hX7 hY7 hG7 W7 g1 g2 g3 g4 g2' g4' d0 d1 hsz hxg
 obtain ⟨g1, g2⟩ := HP.out
 have cy1 : W8.cell? ⟨yb, 1, none⟩ = some (.int .i64 p) := (blk_cell hY8 1).trans rfl
 have cf := blk_frozen hY8 1
 have cl := blk_lt hY8
 have g3 : wrap64 q = q := wrap_id (by omega)
 go_wp2_with fail
 obtain ⟨w30, hW9⟩ : ∃ Z, W8.setCell ⟨yb, 1, none⟩ (.int .i64 py) = Z := ⟨_, rfl⟩
 have hB9 : Below w1.heap.size w1 w30 := by rw [← hW9]; exact hB8.setCell (p := ⟨yb, 1, none⟩) HL2.out _
 have hX9 : w30.heap[xb]? = some (.cells #[.slice (some ⟨g, 0, none⟩) l.length cap, .int .i64 p] 24 (0, 0)) := by rw [← hW9]; exact (Below.heap_setCell _ _ _ _ HD.out).trans hX8
 have hY9 : w30.heap[yb]? = some (.cells #[.slice (some ad3) l.length c, .int .i64 py] 24 (0, 0)) := by rw [← hW9]; exact blk_put hY8 1 _ rfl
 have hG9 : w30.heap[g]? = some (.cells ((cur.setIfInBounds (kk * 3 + 1) (.int .i64 lo)).setIfInBounds (kk * 3 + 2) (.int .i64 hi)) 70 (0, 0)) := by rw [← hW9]; exact (Below.heap_setCell _ _ _ _ (fun hh => hyg hh.symm)).trans hG8
 rw [hW9]
 have hRX := nar_own w1.heap.size lo hi k1 hG9 hVg hg3 hg4 hg5 hg6
 rw [← narL_len l kk lo hi] at hX9
 obtain ⟨Ax, cx, ex1, hxl, hxr⟩ := Kd.R_reads hRX
 cases ex1
 have HF_30 : Aside0 (Held ((xb, #[.slice (some ⟨g, 0, none⟩) (narL l kk lo hi).length cap, .int .i64 p], 24) :: (yb, #[.slice (some ad3) l.length c, .int .i64 py], 24) :: [(db, #[.int .u16 x0, .int .u16 x1], 61), (lb, #[.int .u32 u0, .int .u32 u1], 74), (tb, #[.slice (some ad3) l.length c, .int .i64 p], 24)]) w30) := ⟨Held.cons hX9 (Held.cons hY9 (HF_1.out.below hB9))⟩
 have HB_30 := Aside0.mk (below_then HB_1.out hB9)
 have HR_30 := Aside0.mk (Kd.C_below HR_1.out hB9)
 have Hx_30 := Aside0.mk hxr
 have Hx_L := Lib.hid hxl
 clear hW9 hB9 hX9 hY9 hG9 hRX hxl hxr hB8 hX8 hY8 hG8 W8 cy1 cf cl g1 g2 g3 hyg hVg hg1 hg3 hg4 hg5 hg6 hxs hys hVs q1 q2 HF_1 HB_1 HR_1 k2 HL1 HL2 HD
 have hH := HF_30.out.get tb #[.slice (some ad3) l.length c, .int .i64 p] 24 (by simp)
 have hltb := blk_lt hH
 have ctb0 : w30.cell? ⟨tb, 0, none⟩ = some (.slice (some ad3) l.length c) := (blk_cell hH 0).trans rfl
 have ctb1 : w30.cell? ⟨tb, 1, none⟩ = some (.int .i64 p) := (blk_cell hH 1).trans rfl
 clear hH
 have hH := HF_30.out.get db #[.int .u16 x0, .int .u16 x1] 61 (by simp)
 have hldb := blk_lt hH
 have cdb0 : w30.cell? ⟨db, 0, none⟩ = some (.int .u16 x0) := (blk_cell hH 0).trans rfl
 have cdb1 : w30.cell? ⟨db, 1, none⟩ = some (.int .u16 x1) := (blk_cell hH 1).trans rfl
 clear hH
 (refine start_ (n := 10) (S := fun w' => Below (World.heap _).size _ w') (ds := []) (List.toArray (false :: false :: false :: false :: false :: false :: false :: false :: false :: false :: [])) (by kernel_rfl) rfl rfl (belowDrew _) (fun plS => ?_); refine pureY (i := 1) (N := (some 97)) ?_; refine pureY (i := 5) (N := (some 101)) ?_; refine takeF (i := 0) (N := (some 96)) (hS := plS) (hy := by (intro w' hw'; replace hw' : Below (World.heap w30).size w30 w' := hw'; have q0 := pw_cell_below hw' ctb0; have q1 := pw_cell_below hw' ctb1; have q2 := pw_cell_below hw' cdb0; have q3 := pw_cell_below hw' cdb1; exact yieldA)) (h := ?_); refine takeF (i := 2) (N := (some 98)) (hS := plS) (hy := by (intro w' hw'; replace hw' : Below (World.heap w30).size w30 w' := hw'; have q0 := pw_cell_below hw' ctb0; have q1 := pw_cell_below hw' ctb1; have q2 := pw_cell_below hw' cdb0; have q3 := pw_cell_below hw' cdb1; exact yieldA)) (h := ?_); refine takeF (i := 4) (N := (some 100)) (hS := plS) (hy := by (intro w' hw'; replace hw' : Below (World.heap w30).size w30 w' := hw'; have q0 := pw_cell_below hw' ctb0; have q1 := pw_cell_below hw' ctb1; have q2 := pw_cell_below hw' cdb0; have q3 := pw_cell_below hw' cdb1; exact yieldA)) (h := ?_); refine takeF (i := 6) (N := (some 102)) (hS := plS) (hy := by (intro w' hw'; replace hw' : Below (World.heap w30).size w30 w' := hw'; have q0 := pw_cell_below hw' ctb0; have q1 := pw_cell_below hw' ctb1; have q2 := pw_cell_below hw' cdb0; have q3 := pw_cell_below hw' cdb1; exact yieldA)) (h := ?_); refine oneY (i := 3) (fun plK plH => ?_); rw [if_pos (by rfl)]; (first | gi_big_move | go_big_op | go_simp))
 refine (forecourtlaw01_Read.calls (some ad3) c l p x0 wa w30.drew (Kd.C_below HR_30.out ((Below.refl _ _).drew)) HC.out HM.out.read0).mono ?_
 rintro e y1 ⟨rfl, hb⟩
 have hB1 : Below w30.heap.size w30 y1 := ((Below.refl _ w30).drew).trans hb
 clear hb
 ((try simp only [Act.put, List.getElem_toArray, List.getElem_cons_succ, List.getElem_cons_zero, List.setIfInBounds_toArray, List.set_cons_succ, List.set_cons_zero]); refine plH _ _ hB1 (fun plS => ?_); clear plH plK; refine oneY (i := 7) (fun plK plH => ?_); rw [if_pos (by rfl)]; (first | gi_big_move | go_big_op | go_simp))
 refine (forecourtlaw01_Read.calls (some ad3) c l p x1 le y1 (Kd.C_below HR_30.out (hB1)) HC.out HM.out.read1).mono ?_
 rintro e y2 ⟨rfl, hb⟩
 have hB2 : Below w30.heap.size w30 y2 := below_then hB1 hb
 clear hb
 ((try simp only [Act.put, List.getElem_toArray, List.getElem_cons_succ, List.getElem_cons_zero, List.setIfInBounds_toArray, List.set_cons_succ, List.set_cons_zero]); refine plH _ _ hB2 (fun plS => ?_); clear plH plK; refine pureY (i := 8) (N := (some 17)) ?_; refine pureY (i := 9) (N := (some 18)) ?_; refine done_ (by kernel_rfl) ?_)
 clear plS hltb ctb0 ctb1 hldb cdb0 cdb1
 obtain ⟨w31, hZ⟩ : ∃ Z, y2 = Z := ⟨_, rfl⟩
 have hB := hB2
 rw [hZ] at hB
 rw [hZ]
 have HF_31 := Aside0.mk (HF_30.out.below hB)
 have HB_31 := Aside0.mk (below_then HB_30.out hB)
 have HR_31 := Aside0.mk (Kd.C_below HR_30.out hB)
 have Hx_31 := Aside0.mk (Kd.C_below Hx_30.out hB)
 clear hZ hB hB1 hB2 HF_30 HB_30 HR_30 Hx_30
 have hH := HF_31.out.get tb #[.slice (some ad3) l.length c, .int .i64 p] 24 (by simp)
 have hltb := blk_lt hH
 have ctb0 : w31.cell? ⟨tb, 0, none⟩ = some (.slice (some ad3) l.length c) := (blk_cell hH 0).trans rfl
 have ctb1 : w31.cell? ⟨tb, 1, none⟩ = some (.int .i64 p) := (blk_cell hH 1).trans rfl
 clear hH
 go_wp2_with fail
 clear hltb ctb0 ctb1
 refine (chart_Net.calls (some ad3) c l p wa le n1 n2 n3 n4 e w31 HR_31.out HC.out HM.out.net).mono ?_
 rintro e w32 ⟨rfl, hB⟩
 have HF_32 := Aside0.mk (HF_31.out.below hB)
 have HB_32 := Aside0.mk (below_then HB_31.out hB)
 have HR_32 := Aside0.mk (Kd.C_below HR_31.out hB)
 have Hx_32 := Aside0.mk (Kd.C_below Hx_31.out hB)
 clear hB HF_31 HB_31 HR_31 Hx_31 w31
 have hH := HF_32.out.get tb #[.slice (some ad3) l.length c, .int .i64 p] 24 (by simp)
 have hltb := blk_lt hH
 have ctb0 : w32.cell? ⟨tb, 0, none⟩ = some (.slice (some ad3) l.length c) := (blk_cell hH 0).trans rfl
 have ctb1 : w32.cell? ⟨tb, 1, none⟩ = some (.int .i64 p) := (blk_cell hH 1).trans rfl
 clear hH
 go_wp2_with fail
 clear hltb ctb0 ctb1
 obtain ⟨w32a, hZ⟩ : ∃ Z, w32.alloc (.cells #[.int .i64 n1, .int .i64 n2, .int .i64 n3, .int .i64 n4] 48) = Z := ⟨_, rfl⟩
 obtain ⟨nb, hbk⟩ : ∃ b, b = w32.heap.size := ⟨_, rfl⟩
 have HF_32a : Aside0 (Held [(nb, #[.int .i64 n1, .int .i64 n2, .int .i64 n3, .int .i64 n4], 48), (xb, #[.slice (some ⟨g, 0, none⟩) (narL l kk lo hi).length cap, .int .i64 p], 24), (yb, #[.slice (some ad3) l.length c, .int .i64 py], 24), (db, #[.int .u16 x0, .int .u16 x1], 61), (lb, #[.int .u32 u0, .int .u32 u1], 74), (tb, #[.slice (some ad3) l.length c, .int .i64 p], 24)] w32a) := ⟨by rw [← hZ, hbk]; exact HF_32.out.new _ _⟩
 have HR_32a : Aside0 (Kd.C k70 w32a (some ad3) l.length l) := ⟨by rw [← hZ]; exact Kd.C_below HR_32.out ((Below.refl _ _).alloc (Nat.le_refl _) _)⟩
 have Hx_32a : Aside0 (Kd.C k70 w32a (some ⟨g, 0, none⟩) (narL l kk lo hi).length (narL l kk lo hi)) := ⟨by rw [← hZ]; exact Kd.C_below Hx_32.out ((Below.refl _ _).alloc (Nat.le_refl _) _)⟩
 have HB_32a : Aside0 (Below w.heap.size w w32a) := ⟨by rw [← hZ]; exact HB_32.out.alloc HB_32.out.size _⟩
 rw [hZ, ← hbk]
 clear hZ hbk HF_32 HB_32 HR_32 Hx_32 w32
 refine (forecourtref01_NetError.calls k (some ad3) c l p wa le e w32a HR_32a.out HC.out HM.out.err).mono ?_
 rintro e w33 ⟨rfl, hB⟩
 have HF_33 := Aside0.mk (HF_32a.out.below hB)
 have HB_33 := Aside0.mk (below_then HB_32a.out hB)
 have HR_33 := Aside0.mk (Kd.C_below HR_32a.out hB)
 have Hx_33 := Aside0.mk (Kd.C_below Hx_32a.out hB)
 clear hB HF_32a HB_32a HR_32a Hx_32a w32a
 have hH := HF_33.out.get xb #[.slice (some ⟨g, 0, none⟩) (narL l kk lo hi).length cap, .int .i64 p] 24 (by simp)
 have hlxb := blk_lt hH
 have cxb0 : w33.cell? ⟨xb, 0, none⟩ = some (.slice (some ⟨g, 0, none⟩) (narL l kk lo hi).length cap) := (blk_cell hH 0).trans rfl
 have cxb1 : w33.cell? ⟨xb, 1, none⟩ = some (.int .i64 p) := (blk_cell hH 1).trans rfl
 clear hH
 have hH := HF_33.out.get yb #[.slice (some ad3) l.length c, .int .i64 py] 24 (by simp)
 have hlyb := blk_lt hH
 have cyb0 : w33.cell? ⟨yb, 0, none⟩ = some (.slice (some ad3) l.length c) := (blk_cell hH 0).trans rfl
 have cyb1 : w33.cell? ⟨yb, 1, none⟩ = some (.int .i64 py) := (blk_cell hH 1).trans rfl
 clear hH
 go_wp2_with fail
 clear hlxb cxb0 cxb1 hlyb cyb0 cyb1
 obtain ⟨w33a, hZ⟩ : ∃ Z, w33.alloc (.cells #[.slice (some ⟨g, 0, none⟩) (narL l kk lo hi).length cap, .int .i64 p, .slice (some ad3) l.length c, .int .i64 py] 24) = Z := ⟨_, rfl⟩
 obtain ⟨sl, hbk⟩ : ∃ b, b = w33.heap.size := ⟨_, rfl⟩
 have HF_33a : Aside0 (Held [(sl, #[.slice (some ⟨g, 0, none⟩) (narL l kk lo hi).length cap, .int .i64 p, .slice (some ad3) l.length c, .int .i64 py], 24), (nb, #[.int .i64 n1, .int .i64 n2, .int .i64 n3, .int .i64 n4], 48), (xb, #[.slice (some ⟨g, 0, none⟩) (narL l kk lo hi).length cap, .int .i64 p], 24), (yb, #[.slice (some ad3) l.length c, .int .i64 py], 24), (db, #[.int .u16 x0, .int .u16 x1], 61), (lb, #[.int .u32 u0, .int .u32 u1], 74), (tb, #[.slice (some ad3) l.length c, .int .i64 p], 24)] w33a) := ⟨by rw [← hZ, hbk]; exact HF_33.out.new _ _⟩
 have HR_33a : Aside0 (Kd.C k70 w33a (some ad3) l.length l) := ⟨by rw [← hZ]; exact Kd.C_below HR_33.out ((Below.refl _ _).alloc (Nat.le_refl _) _)⟩
 have Hx_33a : Aside0 (Kd.C k70 w33a (some ⟨g, 0, none⟩) (narL l kk lo hi).length (narL l kk lo hi)) := ⟨by rw [← hZ]; exact Kd.C_below Hx_33.out ((Below.refl _ _).alloc (Nat.le_refl _) _)⟩
 have HB_33a : Aside0 (Below w.heap.size w w33a) := ⟨by rw [← hZ]; exact HB_33.out.alloc HB_33.out.size _⟩
 rw [hZ, ← hbk]
 clear hZ hbk HF_33 HB_33 HR_33 Hx_33 w33
 go_loopw [22, 23, 24] (fun v22 v23 v24 w' => ∃ i : Nat, i ≤ 2 ∧ v22 = .int .i64 i ∧ Below w33a.heap.size w33a w') (fun v22 v23 v24 _ => 2 - (RowKit.intOf v22).toNat)
 case atStart => exact ⟨0, Nat.zero_le _, rfl, Below.refl _ _⟩
 case round =>
 obtain ⟨i, hil, rfl, hBi⟩ := hrel
 obtain ⟨w34, hZ⟩ : ∃ Z, wr = Z := ⟨_, rfl⟩
 have hB := hBi
 rw [hZ] at hB
 rw [hZ]
 have HF_34 := Aside0.mk (HF_33a.out.below hB)
 have HB_34 := Aside0.mk (below_then HB_33a.out hB)
 have HR_34 := Aside0.mk (Kd.C_below HR_33a.out hB)
 have Hx_34 := Aside0.mk (Kd.C_below Hx_33a.out hB)
 have HBi := Aside0.mk hB
 clear hZ hB hBi
 have HJ_34 : Aside0 (Below w34.heap.size w34 w34) := ⟨Below.refl _ _⟩
 rcases (show i = 0 ∨ i = 1 ∨ i = 2 by omega) with rfl | rfl | rfl
 ·as_aux_lemma =>
  by_cases h0 : e = 0
  rotate_left
  ·have hb0 : (e != 0) = true := by simpa using h0
   go_wp2_with fail
   go_roundw
   case rel => exact ⟨1, by omega, by go_num, below_then HBi.out HJ_34.out⟩
   case measure => simp [RowKit.intOf]
  have hb0 : (e != 0) = false := by simpa using h0
  have H0 := Lib.hid h0
  clear h0
  have hH := HF_34.out.get sl #[.slice (some ⟨g, 0, none⟩) (narL l kk lo hi).length cap, .int .i64 p, .slice (some ad3) l.length c, .int .i64 py] 24 (by simp)
  have hlsl := blk_lt hH
  have csl0 : w34.cell? ⟨sl, 0, none⟩ = some (.slice (some ⟨g, 0, none⟩) (narL l kk lo hi).length cap) := (blk_cell hH 0).trans rfl
  have csl1 : w34.cell? ⟨sl, 1, none⟩ = some (.int .i64 p) := (blk_cell hH 1).trans rfl
  have csl2 : w34.cell? ⟨sl, 2, none⟩ = some (.slice (some ad3) l.length c) := (blk_cell hH 2).trans rfl
  have csl3 : w34.cell? ⟨sl, 3, none⟩ = some (.int .i64 py) := (blk_cell hH 3).trans rfl
  clear hH
  go_wp2_with fail
  clear hlsl csl0 csl1 csl2 csl3
  refine (forecourtref01_NetError.calls k (some ⟨g, 0, none⟩) cap (narL l kk lo hi) p wa le ex w34 Hx_34.out Hx_L.out HM.out.x.err).mono ?_
  rintro e w35 ⟨rfl, hB⟩
  have HF_35 := Aside0.mk (HF_34.out.below hB)
  have HB_35 := Aside0.mk (below_then HB_34.out hB)
  have HR_35 := Aside0.mk (Kd.C_below HR_34.out hB)
  have Hx_35 := Aside0.mk (Kd.C_below Hx_34.out hB)
  have HJ_35 := Aside0.mk (below_then HJ_34.out hB)
  clear hB HF_34 HB_34 HR_34 Hx_34 HJ_34 
  by_cases h1 : ex = 0
  rotate_left
  ·have hb1 : (ex != 0) = true := by simpa using h1
   go_wp2_with fail
   go_roundw
   case rel => exact ⟨1, by omega, by go_num, below_then HBi.out HJ_35.out⟩
   case measure => simp [RowKit.intOf]
  have hb1 : (ex != 0) = false := by simpa using h1
  obtain ⟨s1, s2, s3, s4⟩ := HM.out.x.net H0.out h1
  have HS1 := Lib.hid s1
  have HS2 := Lib.hid s2
  have HS3 := Lib.hid s3
  have HS4 := Lib.hid s4
  clear s1 s2 s3 s4 h1
  have hH := HF_35.out.get sl #[.slice (some ⟨g, 0, none⟩) (narL l kk lo hi).length cap, .int .i64 p, .slice (some ad3) l.length c, .int .i64 py] 24 (by simp)
  have hlsl := blk_lt hH
  have csl0 : w35.cell? ⟨sl, 0, none⟩ = some (.slice (some ⟨g, 0, none⟩) (narL l kk lo hi).length cap) := (blk_cell hH 0).trans rfl
  have csl1 : w35.cell? ⟨sl, 1, none⟩ = some (.int .i64 p) := (blk_cell hH 1).trans rfl
  have csl2 : w35.cell? ⟨sl, 2, none⟩ = some (.slice (some ad3) l.length c) := (blk_cell hH 2).trans rfl
  have csl3 : w35.cell? ⟨sl, 3, none⟩ = some (.int .i64 py) := (blk_cell hH 3).trans rfl
  clear hH
  go_wp2_with fail
  clear hlsl csl0 csl1 csl2 csl3
  refine (chart_Net.calls (some ⟨g, 0, none⟩) cap (narL l kk lo hi) p wa le m1 m2 m3 m4 0 w35 Hx_35.out Hx_L.out HS1.out).mono ?_
  rintro e w36 ⟨rfl, hB⟩
  have HF_36 := Aside0.mk (HF_35.out.below hB)
  have HB_36 := Aside0.mk (below_then HB_35.out hB)
  have HR_36 := Aside0.mk (Kd.C_below HR_35.out hB)
  have Hx_36 := Aside0.mk (Kd.C_below Hx_35.out hB)
  have HJ_36 := Aside0.mk (below_then HJ_35.out hB)
  clear hB HF_35 HB_35 HR_35 Hx_35 HJ_35 w35
  have hH := HF_36.out.get nb #[.int .i64 n1, .int .i64 n2, .int .i64 n3, .int .i64 n4] 48 (by simp)
  have hlnb := blk_lt hH
  have cnb0 : w36.cell? ⟨nb, 0, none⟩ = some (.int .i64 n1) := (blk_cell hH 0).trans rfl
  have cnb1 : w36.cell? ⟨nb, 1, none⟩ = some (.int .i64 n2) := (blk_cell hH 1).trans rfl
  have cnb2 : w36.cell? ⟨nb, 2, none⟩ = some (.int .i64 n3) := (blk_cell hH 2).trans rfl
  have cnb3 : w36.cell? ⟨nb, 3, none⟩ = some (.int .i64 n4) := (blk_cell hH 3).trans rfl
  clear hH
  go_wp2_with fail
  clear hlnb cnb0 cnb1 cnb2 cnb3
  obtain ⟨w36a, hZ⟩ : ∃ Z, w36.alloc (.cells #[.int .i64 m1, .int .i64 m2, .int .i64 m3, .int .i64 m4] 48) = Z := ⟨_, rfl⟩
  obtain ⟨mb, hbk⟩ : ∃ b, b = w36.heap.size := ⟨_, rfl⟩
  have HF_36a : Aside0 (Held [(mb, #[.int .i64 m1, .int .i64 m2, .int .i64 m3, .int .i64 m4], 48), (sl, #[.slice (some ⟨g, 0, none⟩) (narL l kk lo hi).length cap, .int .i64 p, .slice (some ad3) l.length c, .int .i64 py], 24), (nb, #[.int .i64 n1, .int .i64 n2, .int .i64 n3, .int .i64 n4], 48), (xb, #[.slice (some ⟨g, 0, none⟩) (narL l kk lo hi).length cap, .int .i64 p], 24), (yb, #[.slice (some ad3) l.length c, .int .i64 py], 24), (db, #[.int .u16 x0, .int .u16 x1], 61), (lb, #[.int .u32 u0, .int .u32 u1], 74), (tb, #[.slice (some ad3) l.length c, .int .i64 p], 24)] w36a) := ⟨by rw [← hZ, hbk]; exact HF_36.out.new _ _⟩
  have HR_36a : Aside0 (Kd.C k70 w36a (some ad3) l.length l) := ⟨by rw [← hZ]; exact Kd.C_below HR_36.out ((Below.refl _ _).alloc (Nat.le_refl _) _)⟩
  have Hx_36a : Aside0 (Kd.C k70 w36a (some ⟨g, 0, none⟩) (narL l kk lo hi).length (narL l kk lo hi)) := ⟨by rw [← hZ]; exact Kd.C_below Hx_36.out ((Below.refl _ _).alloc (Nat.le_refl _) _)⟩
  have HJ_36a : Aside0 (Below w34.heap.size w34 w36a) := ⟨by rw [← hZ]; exact HJ_36.out.alloc HJ_36.out.size _⟩
  have HB_36a : Aside0 (Below w.heap.size w w36a) := ⟨by rw [← hZ]; exact HB_36.out.alloc HB_36.out.size _⟩
  rw [hZ, ← hbk]
  clear hZ hbk HF_36 HB_36 HR_36 Hx_36 HJ_36 w36
  refine (inside_calls m1 m2 m3 m4 n1 n2 n3 n4 w36a HS2.out HS3.out HS4.out).mono ?_
  rintro e w37 ⟨rfl, hB⟩
  have HF_37 := Aside0.mk (HF_36a.out.below hB)
  have HB_37 := Aside0.mk (below_then HB_36a.out hB)
  have HR_37 := Aside0.mk (Kd.C_below HR_36a.out hB)
  have Hx_37 := Aside0.mk (Kd.C_below Hx_36a.out hB)
  have HJ_37 := Aside0.mk (below_then HJ_36a.out hB)
  clear hB HF_36a HB_36a HR_36a Hx_36a HJ_36a w36a
  go_wp2_with fail
  go_roundw
  case rel => exact ⟨1, by omega, by go_num, below_then HBi.out HJ_37.out⟩
  case measure => simp [RowKit.intOf]
 ·as_aux_lemma =>
  by_cases h0 : e = 0
  rotate_left
  ·have hb0 : (e != 0) = true := by simpa using h0
   go_wp2_with fail
   go_roundw
   case rel => exact ⟨2, by omega, by go_num, below_then HBi.out HJ_34.out⟩
   case measure => simp [RowKit.intOf]
  have hb0 : (e != 0) = false := by simpa using h0
  have H0 := Lib.hid h0
  clear h0
  have hH := HF_34.out.get sl #[.slice (some ⟨g, 0, none⟩) (narL l kk lo hi).length cap, .int .i64 p, .slice (some ad3) l.length c, .int .i64 py] 24 (by simp)
  have hlsl := blk_lt hH
  have csl0 : w34.cell? ⟨sl, 0, none⟩ = some (.slice (some ⟨g, 0, none⟩) (narL l kk lo hi).length cap) := (blk_cell hH 0).trans rfl
  have csl1 : w34.cell? ⟨sl, 1, none⟩ = some (.int .i64 p) := (blk_cell hH 1).trans rfl
  have csl2 : w34.cell? ⟨sl, 2, none⟩ = some (.slice (some ad3) l.length c) := (blk_cell hH 2).trans rfl
  have csl3 : w34.cell? ⟨sl, 3, none⟩ = some (.int .i64 py) := (blk_cell hH 3).trans rfl
  clear hH
  go_wp2_with fail
  clear hlsl csl0 csl1 csl2 csl3
  refine (forecourtref01_NetError.calls k (some ad3) c l py wa le ey w34 HR_34.out HC.out HM.out.y.err).mono ?_
  rintro e w35 ⟨rfl, hB⟩
  have HF_35 := Aside0.mk (HF_34.out.below hB)
  have HB_35 := Aside0.mk (below_then HB_34.out hB)
  have HR_35 := Aside0.mk (Kd.C_below HR_34.out hB)
  have Hx_35 := Aside0.mk (Kd.C_below Hx_34.out hB)
  have HJ_35 := Aside0.mk (below_then HJ_34.out hB)
  clear hB HF_34 HB_34 HR_34 Hx_34 HJ_34 
  by_cases h1 : ey = 0
  rotate_left
  ·have hb1 : (ey != 0) = true := by simpa using h1
   go_wp2_with fail
   go_roundw
   case rel => exact ⟨2, by omega, by go_num, below_then HBi.out HJ_35.out⟩
   case measure => simp [RowKit.intOf]
  have hb1 : (ey != 0) = false := by simpa using h1
  obtain ⟨s1, s2, s3, s4⟩ := HM.out.y.net H0.out h1
  have HS1 := Lib.hid s1
  have HS2 := Lib.hid s2
  have HS3 := Lib.hid s3
  have HS4 := Lib.hid s4
  clear s1 s2 s3 s4 h1
  have hH := HF_35.out.get sl #[.slice (some ⟨g, 0, none⟩) (narL l kk lo hi).length cap, .int .i64 p, .slice (some ad3) l.length c, .int .i64 py] 24 (by simp)
  have hlsl := blk_lt hH
  have csl0 : w35.cell? ⟨sl, 0, none⟩ = some (.slice (some ⟨g, 0, none⟩) (narL l kk lo hi).length cap) := (blk_cell hH 0).trans rfl
  have csl1 : w35.cell? ⟨sl, 1, none⟩ = some (.int .i64 p) := (blk_cell hH 1).trans rfl
  have csl2 : w35.cell? ⟨sl, 2, none⟩ = some (.slice (some ad3) l.length c) := (blk_cell hH 2).trans rfl
  have csl3 : w35.cell? ⟨sl, 3, none⟩ = some (.int .i64 py) := (blk_cell hH 3).trans rfl
  clear hH
  go_wp2_with fail
  clear hlsl csl0 csl1 csl2 csl3
  refine (chart_Net.calls (some ad3) c l py wa le o1 o2 o3 o4 0 w35 HR_35.out HC.out HS1.out).mono ?_
  rintro e w36 ⟨rfl, hB⟩
  have HF_36 := Aside0.mk (HF_35.out.below hB)
  have HB_36 := Aside0.mk (below_then HB_35.out hB)
  have HR_36 := Aside0.mk (Kd.C_below HR_35.out hB)
  have Hx_36 := Aside0.mk (Kd.C_below Hx_35.out hB)
  have HJ_36 := Aside0.mk (below_then HJ_35.out hB)
  clear hB HF_35 HB_35 HR_35 Hx_35 HJ_35 w35
  have hH := HF_36.out.get nb #[.int .i64 n1, .int .i64 n2, .int .i64 n3, .int .i64 n4] 48 (by simp)
  have hlnb := blk_lt hH
  have cnb0 : w36.cell? ⟨nb, 0, none⟩ = some (.int .i64 n1) := (blk_cell hH 0).trans rfl
  have cnb1 : w36.cell? ⟨nb, 1, none⟩ = some (.int .i64 n2) := (blk_cell hH 1).trans rfl
  have cnb2 : w36.cell? ⟨nb, 2, none⟩ = some (.int .i64 n3) := (blk_cell hH 2).trans rfl
  have cnb3 : w36.cell? ⟨nb, 3, none⟩ = some (.int .i64 n4) := (blk_cell hH 3).trans rfl
  clear hH
  go_wp2_with fail
  clear hlnb cnb0 cnb1 cnb2 cnb3
  obtain ⟨w36a, hZ⟩ : ∃ Z, w36.alloc (.cells #[.int .i64 o1, .int .i64 o2, .int .i64 o3, .int .i64 o4] 48) = Z := ⟨_, rfl⟩
  obtain ⟨mb, hbk⟩ : ∃ b, b = w36.heap.size := ⟨_, rfl⟩
  have HF_36a : Aside0 (Held [(mb, #[.int .i64 o1, .int .i64 o2, .int .i64 o3, .int .i64 o4], 48), (sl, #[.slice (some ⟨g, 0, none⟩) (narL l kk lo hi).length cap, .int .i64 p, .slice (some ad3) l.length c, .int .i64 py], 24), (nb, #[.int .i64 n1, .int .i64 n2, .int .i64 n3, .int .i64 n4], 48), (xb, #[.slice (some ⟨g, 0, none⟩) (narL l kk lo hi).length cap, .int .i64 p], 24), (yb, #[.slice (some ad3) l.length c, .int .i64 py], 24), (db, #[.int .u16 x0, .int .u16 x1], 61), (lb, #[.int .u32 u0, .int .u32 u1], 74), (tb, #[.slice (some ad3) l.length c, .int .i64 p], 24)] w36a) := ⟨by rw [← hZ, hbk]; exact HF_36.out.new _ _⟩
  have HR_36a : Aside0 (Kd.C k70 w36a (some ad3) l.length l) := ⟨by rw [← hZ]; exact Kd.C_below HR_36.out ((Below.refl _ _).alloc (Nat.le_refl _) _)⟩
  have Hx_36a : Aside0 (Kd.C k70 w36a (some ⟨g, 0, none⟩) (narL l kk lo hi).length (narL l kk lo hi)) := ⟨by rw [← hZ]; exact Kd.C_below Hx_36.out ((Below.refl _ _).alloc (Nat.le_refl _) _)⟩
  have HJ_36a : Aside0 (Below w34.heap.size w34 w36a) := ⟨by rw [← hZ]; exact HJ_36.out.alloc HJ_36.out.size _⟩
  have HB_36a : Aside0 (Below w.heap.size w w36a) := ⟨by rw [← hZ]; exact HB_36.out.alloc HB_36.out.size _⟩
  rw [hZ, ← hbk]
  clear hZ hbk HF_36 HB_36 HR_36 Hx_36 HJ_36 w36
  refine (inside_calls o1 o2 o3 o4 n1 n2 n3 n4 w36a HS2.out HS3.out HS4.out).mono ?_
  rintro e w37 ⟨rfl, hB⟩
  have HF_37 := Aside0.mk (HF_36a.out.below hB)
  have HB_37 := Aside0.mk (below_then HB_36a.out hB)
  have HR_37 := Aside0.mk (Kd.C_below HR_36a.out hB)
  have Hx_37 := Aside0.mk (Kd.C_below Hx_36a.out hB)
  have HJ_37 := Aside0.mk (below_then HJ_36a.out hB)
  clear hB HF_36a HB_36a HR_36a Hx_36a HJ_36a w36a
  go_wp2_with fail
  go_roundw
  case rel => exact ⟨2, by omega, by go_num, below_then HBi.out HJ_37.out⟩
  case measure => simp [RowKit.intOf]
 clear HBi HJ_34 Hx_34 Hx_L
 replace HF_34 : Aside0 (Held [(nb, #[.int .i64 n1, .int .i64 n2, .int .i64 n3, .int .i64 n4], 48), (yb, #[.slice (some ad3) l.length c, .int .i64 py], 24), (db, #[.int .u16 x0, .int .u16 x1], 61), (lb, #[.int .u32 u0, .int .u32 u1], 74), (tb, #[.slice (some ad3) l.length c, .int .i64 p], 24)] w34) := ⟨⟨fun b cs t hm => HF_34.out.get b cs t (by simp only [List.mem_cons, List.not_mem_nil] at hm ⊢; rcases hm with h | h | h | h | h | h <;> simp [h])⟩⟩
 have hH := HF_34.out.get tb #[.slice (some ad3) l.length c, .int .i64 p] 24 (by simp)
 have hltb := blk_lt hH
 have ctb0 : w34.cell? ⟨tb, 0, none⟩ = some (.slice (some ad3) l.length c) := (blk_cell hH 0).trans rfl
 have ctb1 : w34.cell? ⟨tb, 1, none⟩ = some (.int .i64 p) := (blk_cell hH 1).trans rfl
 clear hH
 go_wp2_with fail
 clear hltb ctb0 ctb1
 refine (forecourtlaw01_Read.calls (some ad3) c l p x2 dz w34 HR_34.out HC.out HM.out.read2).mono ?_
 rintro e w35 ⟨rfl, hB⟩
 have HF_35 := Aside0.mk (HF_34.out.below hB)
 have HB_35 := Aside0.mk (below_then HB_34.out hB)
 have HR_35 := Aside0.mk (Kd.C_below HR_34.out hB)
 clear hB HF_34 HB_34 HR_34 
 have hH := HF_35.out.get tb #[.slice (some ad3) l.length c, .int .i64 p] 24 (by simp)
 have hltb := blk_lt hH
 have ctb0 : w35.cell? ⟨tb, 0, none⟩ = some (.slice (some ad3) l.length c) := (blk_cell hH 0).trans rfl
 have ctb1 : w35.cell? ⟨tb, 1, none⟩ = some (.int .i64 p) := (blk_cell hH 1).trans rfl
 clear hH
 go_wp2_with fail
 clear hltb ctb0 ctb1
 obtain ⟨zb, hzb⟩ : ∃ b, b = w35.heap.size := ⟨_, rfl⟩
 obtain ⟨W9, hW9⟩ : ∃ Z, w35.alloc (.cells #[.slice none 0 0, .int .i64 p] 24) = Z := ⟨_, rfl⟩
 obtain ⟨NB, hNB⟩ : ∃ n, n = W9.heap.size := ⟨_, rfl⟩
 have hZ9 : W9.heap[zb]? = some (.cells #[.slice none 0 0, .int .i64 p] 24 (0, 0)) := by rw [← hW9, hzb]; exact blk_new _ _
 have hB9 : Below w35.heap.size w35 W9 := by rw [← hW9]; exact below_own _ _
 have HZN : Hid (zb < NB) := Lib.hid (by rw [hNB]; exact blk_lt hZ9)
 have HZV : Hid (w35.heap.size ≤ zb) := Lib.hid (by omega)
 have HVN : Hid (w35.heap.size ≤ NB) := Lib.hid (by rw [hNB]; exact hB9.size)
 rw [hW9, ← hzb]
 clear hW9 hzb
 go_loopw [27, 28] (fun v27 v28 w' => ∃ (i : Nat) (vz : Value) (at_ : Int), i ≤ l.length ∧ v28 = .int .i64 i ∧ v27 = .int .i64 at_ ∧ at_ = (if i ≤ a then -1 else (a : Int)) ∧ Below w35.heap.size w35 w' ∧ w'.heap[zb]? = some (.cells #[vz, .int .i64 p] 24 (0, 0)) ∧ TwoR NB w' vz (.slice none 0 0) (zr l a ⟨dz, ⟨0, 100000⟩⟩ i) [] ∧ NB ≤ w'.heap.size) (fun v27 v28 _ => l.length - (RowKit.intOf v28).toNat)
 case atStart => exact ⟨0, _, -1, Nat.zero_le _, rfl, rfl, by rw [if_pos (Nat.zero_le _)], hB9, hZ9, by rw [show zr l a ⟨dz, ⟨0, 100000⟩⟩ 0 = [] from by unfold zr; rw [if_pos (Nat.zero_le _)]; rfl]; exact TwoR.start _ _, by rw [hNB]; exact Nat.le_refl _⟩
 case round =>
 obtain ⟨i, vz, at_, hil, rfl, rfl, hat, hBi, hX, hTwo, hS⟩ := hrel
 clear hNB hZ9 hB9
 obtain ⟨w40, hZ⟩ : ∃ Z, wr = Z := ⟨_, rfl⟩
 rw [hZ] at hBi hX hTwo hS
 rw [hZ]
 clear hZ wr
 have HF_40 := Aside0.mk (HF_35.out.below hBi)
 have HB_40 := Aside0.mk (below_then HB_35.out hBi)
 have HR_40 := Aside0.mk (Kd.C_below HR_35.out hBi)
 have HTW := Aside0.mk hTwo
 have HZB := Aside0.mk hX
 have HJ_40 := Aside0.mk hBi
 have HS := Lib.hid hS
 have HAT := Lib.hid hat
 clear hBi hX hTwo hS hat
 by_cases hlt : i < l.length
 ·as_aux_lemma =>
  obtain ⟨_, ea, hr0, hr1, hr2⟩ := at_T70 HR_40.out (i : Int) (by omega) (by omega)
  cases ea
  rw [show rd_T70 l (i : Int) = l.getD i zRow from rdR_nat l i, Int.toNat_natCast] at hr0 hr1 hr2
  replace hr0 : w40.cell? (ad3.add (i * 3)) = some (.int .i64 (dipN l i)) := hr0
  replace hr1 : w40.cell? ⟨(ad3.add (i * 3)).block, (ad3.add (i * 3)).off + 1, none⟩ = some (.int .i64 (loR l i)) := hr1
  replace hr2 : w40.cell? ⟨(ad3.add (i * 3)).block, (ad3.add (i * 3)).off + 2, none⟩ = some (.int .i64 (hiR l i)) := hr2
  have hH := HF_40.out.get tb #[.slice (some ad3) l.length c, .int .i64 p] 24 (by simp)
  have hltb := blk_lt hH
  have ctb0 : w40.cell? ⟨tb, 0, none⟩ = some (.slice (some ad3) l.length c) := (blk_cell hH 0).trans rfl
  have ctb1 : w40.cell? ⟨tb, 1, none⟩ = some (.int .i64 p) := (blk_cell hH 1).trans rfl
  clear hH
  have p1 : (0 : Int) ≤ (i : Int) := by omega
  have p2 : (i : Int) < (l.length : Int) := by omega
  have p3 : (i : Int) ≤ 1000 := by omega
  by_cases hdd : dipN l i = dz
  ·have hb0 : (dipN l i == dz) = true := by simpa using hdd
   clear hdd
   go_wp2_with fail
   refine (forecourtlaw01_Works.calls true w40 ⟨rfl⟩ rfl).mono ?_
   rintro e wz ⟨rfl, hB⟩
   go_wp2_with fail
   go_ret
   exact ⟨rfl, below_then HB_40.out hB⟩
  have hb0 : (dipN l i == dz) = false := by simpa using hdd
  have hln : (zr l a ⟨dz, ⟨0, 100000⟩⟩ i).length ≤ 900 := Nat.le_trans (zr_len l a _ i hil) (by omega)
  have HT1 := HTW.out
  have hX1 := HZB.out
  have hJ1 := HJ_40.out
  have hS1 := HS.out
  clear HTW HZB HJ_40 HS hdd HF_40 HB_40
  rcases Nat.lt_trichotomy i a with hia | hia | hia
  ·skip
   have h1 := HAT.out
   rw [if_pos (by omega)] at h1
   subst h1
   have hb1 : decide (dipN l i > dz) = false := decide_eq_false (by have := HM.out.abelow i hia; omega)
   go_wp2_with fail
   clear hltb ctb0 ctb1 hr0 hr1 hr2 hb0 hb1
   obtain ⟨_, ea, hr0, hr1, hr2⟩ := at_T70 (Kd.C_below HR_35.out hJ1) (i : Int) (by omega) (by omega)
   cases ea
   rw [show rd_T70 l (i : Int) = l.getD i zRow from rdR_nat l i, Int.toNat_natCast] at hr0 hr1 hr2
   replace hr0 : w40.cell? (ad3.add (i * 3)) = some (.int .i64 (dipN l i)) := hr0
   replace hr1 : w40.cell? ⟨(ad3.add (i * 3)).block, (ad3.add (i * 3)).off + 1, none⟩ = some (.int .i64 (loR l i)) := hr1
   replace hr2 : w40.cell? ⟨(ad3.add (i * 3)).block, (ad3.add (i * 3)).off + 2, none⟩ = some (.int .i64 (hiR l i)) := hr2
   have htk := (HF_35.out.below hJ1).get tb #[.slice (some ad3) l.length c, .int .i64 p] 24 (by simp)
   have ctb0 : w40.cell? ⟨tb, 0, none⟩ = some (.slice (some ad3) l.length c) := (blk_cell htk 0).trans rfl
   have hltb := blk_lt htk
   have cx : w40.cell? ⟨zb, 0, none⟩ = some vz := (blk_cell hX1 0).trans rfl
   have cm := blk_lt hX1
   (refine start_ (n := 11) (S := fun w' => Below (World.heap _).size _ w') (ds := [8, 10]) (List.toArray (false :: false :: false :: false :: false :: false :: false :: false :: false :: false :: false :: [])) (by kernel_rfl) rfl rfl (belowDrew _) (fun plS => ?_); refine pureY (i := 0) (N := (some 196)) ?_; refine pureY (i := 2) (N := (some 198)) ?_; refine pureY (i := 4) (N := (some 200)) ?_; refine takeF (i := 1) (N := (some 197)) (hS := plS) (hy := by (intro w' hw'; replace hw' : Below (World.heap w40).size w40 w' := hw'; have q0 := pw_cell_below hw' hr0; have q1 := pw_cell_below hw' hr1; have q2 := pw_cell_below hw' hr2; have q3 := pw_cell_below hw' ctb0; have q4 := pw_cell_below hw' cx; exact yieldA)) (h := ?_); refine takeF (i := 3) (N := (some 199)) (hS := plS) (hy := by (intro w' hw'; replace hw' : Below (World.heap w40).size w40 w' := hw'; have q0 := pw_cell_below hw' hr0; have q1 := pw_cell_below hw' hr1; have q2 := pw_cell_below hw' hr2; have q3 := pw_cell_below hw' ctb0; have q4 := pw_cell_below hw' cx; exact yieldA)) (h := ?_); refine pureY (i := 5) (N := (some 201)) ?_; refine takeF (i := 6) (N := (some 202)) (hS := plS) (hy := by (intro w' hw'; replace hw' : Below (World.heap w40).size w40 w' := hw'; have q0 := pw_cell_below hw' hr0; have q1 := pw_cell_below hw' hr1; have q2 := pw_cell_below hw' hr2; have q3 := pw_cell_below hw' ctb0; have q4 := pw_cell_below hw' cx; exact yieldA)) (h := ?_); refine oneY (i := 7) (fun plK plH => ?_); rw [if_pos (by rfl)]; (first | gi_big_move | go_big_op | go_simp))
   have hb0 : Below w40.heap.size w40 w40.drew := belowDrew w40
   obtain ⟨y2, hy⟩ : ∃ Y, (World.alloc w40 (.cells #[.int .i64 (dipN l i), .int .i64 (loR l i), .int .i64 (hiR l i)] 70)).drew = Y := ⟨_, rfl⟩
   obtain ⟨b, hbb⟩ : ∃ b, b = w40.heap.size := ⟨_, rfl⟩
   have hb2 : Below w40.heap.size w40 y2 := by rw [← hy]; exact (below_own _ _).drew
   have hM : y2.heap[b]? = some (.cells #[.int .i64 (dipN l i), .int .i64 (loR l i), .int .i64 (hiR l i)] 70 (0, 0)) := by rw [← hy, hbb]; exact blk_new _ _
   rw [hy, ← hbb]
   clear hy hbb plS
   ((try simp only [Act.put, List.getElem_toArray, List.getElem_cons_succ, List.getElem_cons_zero, List.setIfInBounds_toArray, List.set_cons_succ, List.set_cons_zero]); refine plH _ _ hb2 (fun plS => ?_); clear plH plK; refine lastY (i := 8) (fun plK plH => ?_))
   refine step_row (N0 := w35.heap.size) (w0 := w35) (HT1.below hb2) rfl _ _ rfl rfl b rfl (dipN l i) (loR l i) (hiR l i) 70 hM HVN.out (below_then hJ1 hb2) (Nat.le_trans hS1 hb2.size) ql21 ?_
   intro v1 y3 hT hJ3 hlow hnew hS3
   obtain ⟨Aq1, nq1, cq1, rfl⟩ : ∃ A n c, v1 = .slice A n c := by obtain ⟨A, c, h⟩ := own_slice hT.a; exact ⟨A, _, c, h⟩
   have hA := hlow _ _ (blk_call hb2 hX1) HZN.out
   have hS4 : NB ≤ y3.heap.size := Nat.le_trans (Nat.le_trans hS1 hb2.size) hS3
   clear hlow hnew hS3 hM hb2 hb0 cx cm
   have cx : y3.cell? ⟨zb, 0, none⟩ = some vz := (blk_cell hA 0).trans rfl
   have cf := blk_frozen hA 0
   have cl := blk_lt hA
   ((try simp only [Act.put, List.getElem_toArray, List.getElem_cons_succ, List.getElem_cons_zero, List.setIfInBounds_toArray, List.set_cons_succ, List.set_cons_zero]); refine plH _ _ ?_; clear plH plK; refine pureY (i := 9) (N := (some 205)) ?_; refine lastY (i := 10) (fun plK plH => ?_); rw [if_pos (by rfl)]; (first | gi_big_move | go_big_op | go_simp))
   obtain ⟨w41, hZ⟩ : ∃ Z, y3.setCell ⟨zb, 0, none⟩ (.slice Aq1 nq1 cq1) = Z := ⟨_, rfl⟩
   have hX2 : w41.heap[zb]? = some (.cells #[.slice Aq1 nq1 cq1, .int .i64 p] 24 (0, 0)) := by rw [← hZ]; exact blk_put hA 0 _ rfl
   have HT2 := hT.set (k := 0) HZN.out (.slice Aq1 nq1 cq1)
   rw [hZ] at HT2
   have hJn : Below w35.heap.size w35 w41 := by rw [← hZ]; exact hJ3.setCell (p := ⟨zb, 0, none⟩) HZV.out _
   clear hJ3
   have hJ2 := hJn
   clear hJn
   have hS2 : NB ≤ w41.heap.size := by rw [← hZ]; simpa using hS4
   rw [hZ]
   clear hZ hT hA hS4 cx cf cl hX1 HT1 hJ1 hS1
   ((try simp only [Act.put, List.getElem_toArray, List.getElem_cons_succ, List.getElem_cons_zero, List.setIfInBounds_toArray, List.set_cons_succ, List.set_cons_zero]); refine plH _ _ ?_; clear plH plK; refine done_ (by kernel_rfl) ?_)
   clear htk ctb0 hltb hr0 hr1 hr2
   go_wp2_with fail
   go_roundw
   case rel => exact ⟨i + 1, _, -1, by omega, by go_num, rfl, by rw [if_pos (by omega)], hJ2, hX2, by rw [zr_next l a _ i hlt (by omega)]; exact HT2, hS2⟩
   case measure => simp [RowKit.intOf]; omega
  ·skip
   subst hia
   have h1 := HAT.out
   rw [if_pos (by omega)] at h1
   subst h1
   have hb1 : decide (dipN l i > dz) = true := decide_eq_true (by have := HM.out.aabove hlt; omega)
   go_wp2_with fail
   clear hltb ctb0 ctb1 hr0 hr1 hr2 hb0 hb1
   have cx : w40.cell? ⟨zb, 0, none⟩ = some vz := (blk_cell hX1 0).trans rfl
   have cm := blk_lt hX1
   (refine start_ (n := 8) (S := fun w' => Below (World.heap _).size _ w') (ds := [5, 7]) (List.toArray (false :: false :: false :: false :: false :: false :: false :: false :: [])) (by kernel_rfl) rfl rfl (belowDrew _) (fun plS => ?_); refine pureY (i := 0) (N := (some 189)) ?_; refine pureY (i := 2) (N := (some 191)) ?_; refine takeF (i := 1) (N := (some 190)) (hS := plS) (hy := by (intro w' hw'; replace hw' : Below (World.heap w40).size w40 w' := hw'; have q0 := pw_cell_below hw' cx; exact yieldA)) (h := ?_); refine oneY (i := 3) (fun plK plH => ?_); rw [if_pos (by rfl)]; (first | gi_big_move | go_big_op | go_simp))
   have hb0 : Below w40.heap.size w40 w40.drew := belowDrew w40
   refine (forecourtlaw01_Row.calls dz 0 100000 dz 0 100000 _ rfl).mono ?_
   rintro e' y1 ⟨rfl, hb⟩
   have hb1 : Below w40.heap.size w40 y1 := hb0.trans hb
   clear hb plS
   ((try simp only [Act.put, List.getElem_toArray, List.getElem_cons_succ, List.getElem_cons_zero, List.setIfInBounds_toArray, List.set_cons_succ, List.set_cons_zero]); refine plH _ _ hb1 (fun plS => ?_); clear plH plK; refine oneY (i := 4) (fun plK plH => ?_); rw [if_pos (by rfl)]; (first | gi_big_move | go_big_op | go_simp))
   obtain ⟨y2, hy⟩ : ∃ Y, World.alloc y1 (.cells #[.int .i64 (dz), .int .i64 (0), .int .i64 (100000)] 70) = Y := ⟨_, rfl⟩
   obtain ⟨b, hbb⟩ : ∃ b, b = y1.heap.size := ⟨_, rfl⟩
   have hx : Below y1.heap.size y1 y2 := by rw [← hy]; exact below_own _ _
   have hM : y2.heap[b]? = some (.cells #[.int .i64 (dz), .int .i64 (0), .int .i64 (100000)] 70 (0, 0)) := by rw [← hy, hbb]; exact blk_new _ _
   rw [hy, ← hbb]
   have hb2 := below_then hb1 hx
   clear hy hbb hx hb1
   ((try simp only [Act.put, List.getElem_toArray, List.getElem_cons_succ, List.getElem_cons_zero, List.setIfInBounds_toArray, List.set_cons_succ, List.set_cons_zero]); refine plH _ _ hb2 (fun plS => ?_); clear plH plK; refine lastY (i := 5) (fun plK plH => ?_))
   refine step_row (N0 := w35.heap.size) (w0 := w35) (HT1.below hb2) rfl _ _ rfl rfl b rfl (dz) (0) (100000) 70 hM HVN.out (below_then hJ1 hb2) (Nat.le_trans hS1 hb2.size) ql21 ?_
   intro v1 y3 hT hJ3 hlow hnew hS3
   obtain ⟨Aq1, nq1, cq1, rfl⟩ : ∃ A n c, v1 = .slice A n c := by obtain ⟨A, c, h⟩ := own_slice hT.a; exact ⟨A, _, c, h⟩
   have hA := hlow _ _ (blk_call hb2 hX1) HZN.out
   have hS4 : NB ≤ y3.heap.size := Nat.le_trans (Nat.le_trans hS1 hb2.size) hS3
   clear hlow hnew hS3 hM hb2 hb0 cx cm
   have cx : y3.cell? ⟨zb, 0, none⟩ = some vz := (blk_cell hA 0).trans rfl
   have cf := blk_frozen hA 0
   have cl := blk_lt hA
   ((try simp only [Act.put, List.getElem_toArray, List.getElem_cons_succ, List.getElem_cons_zero, List.setIfInBounds_toArray, List.set_cons_succ, List.set_cons_zero]); refine plH _ _ ?_; clear plH plK; refine pureY (i := 6) (N := (some 195)) ?_; refine lastY (i := 7) (fun plK plH => ?_); rw [if_pos (by rfl)]; (first | gi_big_move | go_big_op | go_simp))
   obtain ⟨w41, hZ⟩ : ∃ Z, y3.setCell ⟨zb, 0, none⟩ (.slice Aq1 nq1 cq1) = Z := ⟨_, rfl⟩
   have hX2 : w41.heap[zb]? = some (.cells #[.slice Aq1 nq1 cq1, .int .i64 p] 24 (0, 0)) := by rw [← hZ]; exact blk_put hA 0 _ rfl
   have HT2 := hT.set (k := 0) HZN.out (.slice Aq1 nq1 cq1)
   rw [hZ] at HT2
   have hJn : Below w35.heap.size w35 w41 := by rw [← hZ]; exact hJ3.setCell (p := ⟨zb, 0, none⟩) HZV.out _
   clear hJ3
   have hJ2 := hJn
   clear hJn
   have hS2 : NB ≤ w41.heap.size := by rw [← hZ]; simpa using hS4
   rw [hZ]
   clear hZ hT hA hS4 cx cf cl hX1 HT1 hJ1 hS1
   ((try simp only [Act.put, List.getElem_toArray, List.getElem_cons_succ, List.getElem_cons_zero, List.setIfInBounds_toArray, List.set_cons_succ, List.set_cons_zero]); refine plH _ _ ?_; clear plH plK; refine done_ (by kernel_rfl) ?_)
   go_wp2_with fail
   obtain ⟨_, ea, hr0, hr1, hr2⟩ := at_T70 (Kd.C_below HR_35.out hJ2) (i : Int) (by omega) (by omega)
   cases ea
   rw [show rd_T70 l (i : Int) = l.getD i zRow from rdR_nat l i, Int.toNat_natCast] at hr0 hr1 hr2
   replace hr0 : w41.cell? (ad3.add (i * 3)) = some (.int .i64 (dipN l i)) := hr0
   replace hr1 : w41.cell? ⟨(ad3.add (i * 3)).block, (ad3.add (i * 3)).off + 1, none⟩ = some (.int .i64 (loR l i)) := hr1
   replace hr2 : w41.cell? ⟨(ad3.add (i * 3)).block, (ad3.add (i * 3)).off + 2, none⟩ = some (.int .i64 (hiR l i)) := hr2
   have htk := (HF_35.out.below hJ2).get tb #[.slice (some ad3) l.length c, .int .i64 p] 24 (by simp)
   have ctb0 : w41.cell? ⟨tb, 0, none⟩ = some (.slice (some ad3) l.length c) := (blk_cell htk 0).trans rfl
   have hltb := blk_lt htk
   have cx : w41.cell? ⟨zb, 0, none⟩ = some (.slice Aq1 nq1 cq1) := (blk_cell hX2 0).trans rfl
   have cm := blk_lt hX2
   (refine start_ (n := 11) (S := fun w' => Below (World.heap _).size _ w') (ds := [8, 10]) (List.toArray (false :: false :: false :: false :: false :: false :: false :: false :: false :: false :: false :: [])) (by kernel_rfl) rfl rfl (belowDrew _) (fun plS => ?_); refine pureY (i := 0) (N := (some 196)) ?_; refine pureY (i := 2) (N := (some 198)) ?_; refine pureY (i := 4) (N := (some 200)) ?_; refine takeF (i := 1) (N := (some 197)) (hS := plS) (hy := by (intro w' hw'; replace hw' : Below (World.heap w41).size w41 w' := hw'; have q0 := pw_cell_below hw' hr0; have q1 := pw_cell_below hw' hr1; have q2 := pw_cell_below hw' hr2; have q3 := pw_cell_below hw' ctb0; have q4 := pw_cell_below hw' cx; exact yieldA)) (h := ?_); refine takeF (i := 3) (N := (some 199)) (hS := plS) (hy := by (intro w' hw'; replace hw' : Below (World.heap w41).size w41 w' := hw'; have q0 := pw_cell_below hw' hr0; have q1 := pw_cell_below hw' hr1; have q2 := pw_cell_below hw' hr2; have q3 := pw_cell_below hw' ctb0; have q4 := pw_cell_below hw' cx; exact yieldA)) (h := ?_); refine pureY (i := 5) (N := (some 201)) ?_; refine takeF (i := 6) (N := (some 202)) (hS := plS) (hy := by (intro w' hw'; replace hw' : Below (World.heap w41).size w41 w' := hw'; have q0 := pw_cell_below hw' hr0; have q1 := pw_cell_below hw' hr1; have q2 := pw_cell_below hw' hr2; have q3 := pw_cell_below hw' ctb0; have q4 := pw_cell_below hw' cx; exact yieldA)) (h := ?_); refine oneY (i := 7) (fun plK plH => ?_); rw [if_pos (by rfl)]; (first | gi_big_move | go_big_op | go_simp))
   have hb0 : Below w41.heap.size w41 w41.drew := belowDrew w41
   obtain ⟨y2, hy⟩ : ∃ Y, (World.alloc w41 (.cells #[.int .i64 (dipN l i), .int .i64 (loR l i), .int .i64 (hiR l i)] 70)).drew = Y := ⟨_, rfl⟩
   obtain ⟨b, hbb⟩ : ∃ b, b = w41.heap.size := ⟨_, rfl⟩
   have hb2 : Below w41.heap.size w41 y2 := by rw [← hy]; exact (below_own _ _).drew
   have hM : y2.heap[b]? = some (.cells #[.int .i64 (dipN l i), .int .i64 (loR l i), .int .i64 (hiR l i)] 70 (0, 0)) := by rw [← hy, hbb]; exact blk_new _ _
   rw [hy, ← hbb]
   clear hy hbb plS
   ((try simp only [Act.put, List.getElem_toArray, List.getElem_cons_succ, List.getElem_cons_zero, List.setIfInBounds_toArray, List.set_cons_succ, List.set_cons_zero]); refine plH _ _ hb2 (fun plS => ?_); clear plH plK; refine lastY (i := 8) (fun plK plH => ?_))
   refine step_row (N0 := w35.heap.size) (w0 := w35) (HT2.below hb2) rfl _ _ rfl rfl b rfl (dipN l i) (loR l i) (hiR l i) 70 hM HVN.out (below_then hJ2 hb2) (Nat.le_trans hS2 hb2.size) ql21 ?_
   intro v2 y3 hT hJ3 hlow hnew hS3
   obtain ⟨Aq2, nq2, cq2, rfl⟩ : ∃ A n c, v2 = .slice A n c := by obtain ⟨A, c, h⟩ := own_slice hT.a; exact ⟨A, _, c, h⟩
   have hA := hlow _ _ (blk_call hb2 hX2) HZN.out
   have hS4 : NB ≤ y3.heap.size := Nat.le_trans (Nat.le_trans hS2 hb2.size) hS3
   clear hlow hnew hS3 hM hb2 hb0 cx cm
   have cx : y3.cell? ⟨zb, 0, none⟩ = some (.slice Aq1 nq1 cq1) := (blk_cell hA 0).trans rfl
   have cf := blk_frozen hA 0
   have cl := blk_lt hA
   ((try simp only [Act.put, List.getElem_toArray, List.getElem_cons_succ, List.getElem_cons_zero, List.setIfInBounds_toArray, List.set_cons_succ, List.set_cons_zero]); refine plH _ _ ?_; clear plH plK; refine pureY (i := 9) (N := (some 205)) ?_; refine lastY (i := 10) (fun plK plH => ?_); rw [if_pos (by rfl)]; (first | gi_big_move | go_big_op | go_simp))
   obtain ⟨w42, hZ⟩ : ∃ Z, y3.setCell ⟨zb, 0, none⟩ (.slice Aq2 nq2 cq2) = Z := ⟨_, rfl⟩
   have hX3 : w42.heap[zb]? = some (.cells #[.slice Aq2 nq2 cq2, .int .i64 p] 24 (0, 0)) := by rw [← hZ]; exact blk_put hA 0 _ rfl
   have HT3 := hT.set (k := 0) HZN.out (.slice Aq2 nq2 cq2)
   rw [hZ] at HT3
   have hJn : Below w35.heap.size w35 w42 := by rw [← hZ]; exact hJ3.setCell (p := ⟨zb, 0, none⟩) HZV.out _
   clear hJ3
   have hJ3 := hJn
   clear hJn
   have hS3 : NB ≤ w42.heap.size := by rw [← hZ]; simpa using hS4
   rw [hZ]
   clear hZ hT hA hS4 cx cf cl hX2 HT2 hJ2 hS2
   ((try simp only [Act.put, List.getElem_toArray, List.getElem_cons_succ, List.getElem_cons_zero, List.setIfInBounds_toArray, List.set_cons_succ, List.set_cons_zero]); refine plH _ _ ?_; clear plH plK; refine done_ (by kernel_rfl) ?_)
   clear htk ctb0 hltb hr0 hr1 hr2
   go_wp2_with fail
   go_roundw
   case rel => exact ⟨i + 1, _, (i : Int), by omega, by go_num, rfl, by rw [if_neg (by omega)], hJ3, hX3, by rw [zr_here l i _ hlt]; exact HT3, hS3⟩
   case measure => simp [RowKit.intOf]; omega
  skip
  have h1 := HAT.out
  rw [if_neg (by omega)] at h1
  subst h1
  have hb1 : decide ((a : Int) < 0) = false := decide_eq_false (by omega)
  go_wp2_with fail
  clear hltb ctb0 ctb1 hr0 hr1 hr2 hb0 hb1
  obtain ⟨_, ea, hr0, hr1, hr2⟩ := at_T70 (Kd.C_below HR_35.out hJ1) (i : Int) (by omega) (by omega)
  cases ea
  rw [show rd_T70 l (i : Int) = l.getD i zRow from rdR_nat l i, Int.toNat_natCast] at hr0 hr1 hr2
  replace hr0 : w40.cell? (ad3.add (i * 3)) = some (.int .i64 (dipN l i)) := hr0
  replace hr1 : w40.cell? ⟨(ad3.add (i * 3)).block, (ad3.add (i * 3)).off + 1, none⟩ = some (.int .i64 (loR l i)) := hr1
  replace hr2 : w40.cell? ⟨(ad3.add (i * 3)).block, (ad3.add (i * 3)).off + 2, none⟩ = some (.int .i64 (hiR l i)) := hr2
  have htk := (HF_35.out.below hJ1).get tb #[.slice (some ad3) l.length c, .int .i64 p] 24 (by simp)
  have ctb0 : w40.cell? ⟨tb, 0, none⟩ = some (.slice (some ad3) l.length c) := (blk_cell htk 0).trans rfl
  have hltb := blk_lt htk
  have cx : w40.cell? ⟨zb, 0, none⟩ = some vz := (blk_cell hX1 0).trans rfl
  have cm := blk_lt hX1
  (refine start_ (n := 11) (S := fun w' => Below (World.heap _).size _ w') (ds := [8, 10]) (List.toArray (false :: false :: false :: false :: false :: false :: false :: false :: false :: false :: false :: [])) (by kernel_rfl) rfl rfl (belowDrew _) (fun plS => ?_); refine pureY (i := 0) (N := (some 196)) ?_; refine pureY (i := 2) (N := (some 198)) ?_; refine pureY (i := 4) (N := (some 200)) ?_; refine takeF (i := 1) (N := (some 197)) (hS := plS) (hy := by (intro w' hw'; replace hw' : Below (World.heap w40).size w40 w' := hw'; have q0 := pw_cell_below hw' hr0; have q1 := pw_cell_below hw' hr1; have q2 := pw_cell_below hw' hr2; have q3 := pw_cell_below hw' ctb0; have q4 := pw_cell_below hw' cx; exact yieldA)) (h := ?_); refine takeF (i := 3) (N := (some 199)) (hS := plS) (hy := by (intro w' hw'; replace hw' : Below (World.heap w40).size w40 w' := hw'; have q0 := pw_cell_below hw' hr0; have q1 := pw_cell_below hw' hr1; have q2 := pw_cell_below hw' hr2; have q3 := pw_cell_below hw' ctb0; have q4 := pw_cell_below hw' cx; exact yieldA)) (h := ?_); refine pureY (i := 5) (N := (some 201)) ?_; refine takeF (i := 6) (N := (some 202)) (hS := plS) (hy := by (intro w' hw'; replace hw' : Below (World.heap w40).size w40 w' := hw'; have q0 := pw_cell_below hw' hr0; have q1 := pw_cell_below hw' hr1; have q2 := pw_cell_below hw' hr2; have q3 := pw_cell_below hw' ctb0; have q4 := pw_cell_below hw' cx; exact yieldA)) (h := ?_); refine oneY (i := 7) (fun plK plH => ?_); rw [if_pos (by rfl)]; (first | gi_big_move | go_big_op | go_simp))
  have hb0 : Below w40.heap.size w40 w40.drew := belowDrew w40
  obtain ⟨y2, hy⟩ : ∃ Y, (World.alloc w40 (.cells #[.int .i64 (dipN l i), .int .i64 (loR l i), .int .i64 (hiR l i)] 70)).drew = Y := ⟨_, rfl⟩
  obtain ⟨b, hbb⟩ : ∃ b, b = w40.heap.size := ⟨_, rfl⟩
  have hb2 : Below w40.heap.size w40 y2 := by rw [← hy]; exact (below_own _ _).drew
  have hM : y2.heap[b]? = some (.cells #[.int .i64 (dipN l i), .int .i64 (loR l i), .int .i64 (hiR l i)] 70 (0, 0)) := by rw [← hy, hbb]; exact blk_new _ _
  rw [hy, ← hbb]
  clear hy hbb plS
  ((try simp only [Act.put, List.getElem_toArray, List.getElem_cons_succ, List.getElem_cons_zero, List.setIfInBounds_toArray, List.set_cons_succ, List.set_cons_zero]); refine plH _ _ hb2 (fun plS => ?_); clear plH plK; refine lastY (i := 8) (fun plK plH => ?_))
  refine step_row (N0 := w35.heap.size) (w0 := w35) (HT1.below hb2) rfl _ _ rfl rfl b rfl (dipN l i) (loR l i) (hiR l i) 70 hM HVN.out (below_then hJ1 hb2) (Nat.le_trans hS1 hb2.size) ql21 ?_
  intro v1 y3 hT hJ3 hlow hnew hS3
  obtain ⟨Aq1, nq1, cq1, rfl⟩ : ∃ A n c, v1 = .slice A n c := by obtain ⟨A, c, h⟩ := own_slice hT.a; exact ⟨A, _, c, h⟩
  have hA := hlow _ _ (blk_call hb2 hX1) HZN.out
  have hS4 : NB ≤ y3.heap.size := Nat.le_trans (Nat.le_trans hS1 hb2.size) hS3
  clear hlow hnew hS3 hM hb2 hb0 cx cm
  have cx : y3.cell? ⟨zb, 0, none⟩ = some vz := (blk_cell hA 0).trans rfl
  have cf := blk_frozen hA 0
  have cl := blk_lt hA
  ((try simp only [Act.put, List.getElem_toArray, List.getElem_cons_succ, List.getElem_cons_zero, List.setIfInBounds_toArray, List.set_cons_succ, List.set_cons_zero]); refine plH _ _ ?_; clear plH plK; refine pureY (i := 9) (N := (some 205)) ?_; refine lastY (i := 10) (fun plK plH => ?_); rw [if_pos (by rfl)]; (first | gi_big_move | go_big_op | go_simp))
  obtain ⟨w41, hZ⟩ : ∃ Z, y3.setCell ⟨zb, 0, none⟩ (.slice Aq1 nq1 cq1) = Z := ⟨_, rfl⟩
  have hX2 : w41.heap[zb]? = some (.cells #[.slice Aq1 nq1 cq1, .int .i64 p] 24 (0, 0)) := by rw [← hZ]; exact blk_put hA 0 _ rfl
  have HT2 := hT.set (k := 0) HZN.out (.slice Aq1 nq1 cq1)
  rw [hZ] at HT2
  have hJn : Below w35.heap.size w35 w41 := by rw [← hZ]; exact hJ3.setCell (p := ⟨zb, 0, none⟩) HZV.out _
  clear hJ3
  have hJ2 := hJn
  clear hJn
  have hS2 : NB ≤ w41.heap.size := by rw [← hZ]; simpa using hS4
  rw [hZ]
  clear hZ hT hA hS4 cx cf cl hX1 HT1 hJ1 hS1
  ((try simp only [Act.put, List.getElem_toArray, List.getElem_cons_succ, List.getElem_cons_zero, List.setIfInBounds_toArray, List.set_cons_succ, List.set_cons_zero]); refine plH _ _ ?_; clear plH plK; refine done_ (by kernel_rfl) ?_)
  clear htk ctb0 hltb hr0 hr1 hr2
  go_wp2_with fail
  go_roundw
  case rel => exact ⟨i + 1, _, (a : Int), by omega, by go_num, rfl, by rw [if_neg (by omega)], hJ2, hX2, by rw [zr_next l a _ i hlt (by omega)]; exact HT2, hS2⟩
  case measure => simp [RowKit.intOf]; omega
 obtain rfl : i = l.length := by omega
 have hlt2 : ¬ ((l.length : Int) < (l.length : Int)) := by omega
 have hH := HF_40.out.get tb #[.slice (some ad3) l.length c, .int .i64 p] 24 (by simp)
 have hltb := blk_lt hH
 have ctb0 : w40.cell? ⟨tb, 0, none⟩ = some (.slice (some ad3) l.length c) := (blk_cell hH 0).trans rfl
 have ctb1 : w40.cell? ⟨tb, 1, none⟩ = some (.int .i64 p) := (blk_cell hH 1).trans rfl
 clear hH
 by_cases hal : a < l.length
 rotate_left
 ·have h1 := HAT.out
  rw [if_pos (by omega)] at h1
  subst h1
  go_wp2_with fail
  refine (forecourtlaw01_Works.calls true w40 ⟨rfl⟩ rfl).mono ?_
  rintro e wz ⟨rfl, hB⟩
  go_wp2_with fail
  go_ret
  exact ⟨rfl, below_then HB_40.out hB⟩
 have h1 := HAT.out
 rw [if_neg (by omega)] at h1
 subst h1
 rw [zr_all l a _ hal] at HTW
 have hzz := HTW.out.slices
 have Hz := hzz.1
 clear hzz HTW HAT HS HJ_40 hlt hil
 have hq := HZB.out
 clear HZB
 obtain ⟨Az, cz, rfl, Hzl, Hzr⟩ := Kd.R_reads Hz
 have Hz_L := Lib.hid Hzl
 have Hz_Y := Aside0.mk Hzr
 clear Hz Hzl Hzr
 have Hz_40 := Hz_Y
 clear Hz_Y
 replace HF_40 : Aside0 (Held ((zb, #[.slice Az (insL l a ⟨dz, ⟨0, 100000⟩⟩).length cz, .int .i64 p], 24) :: [(nb, #[.int .i64 n1, .int .i64 n2, .int .i64 n3, .int .i64 n4], 48), (yb, #[.slice (some ad3) l.length c, .int .i64 py], 24), (db, #[.int .u16 x0, .int .u16 x1], 61), (lb, #[.int .u32 u0, .int .u32 u1], 74), (tb, #[.slice (some ad3) l.length c, .int .i64 p], 24)]) w40) := ⟨Held.cons hq HF_40.out⟩
 clear hq
 have hb1 : decide ((a : Int) < 0) = false := decide_eq_false (by omega)
 clear hltb ctb0 ctb1
 have hH := HF_40.out.get tb #[.slice (some ad3) l.length c, .int .i64 p] 24 (by simp)
 have hltb := blk_lt hH
 have ctb0 : w40.cell? ⟨tb, 0, none⟩ = some (.slice (some ad3) l.length c) := (blk_cell hH 0).trans rfl
 have ctb1 : w40.cell? ⟨tb, 1, none⟩ = some (.int .i64 p) := (blk_cell hH 1).trans rfl
 clear hH
 have hH := HF_40.out.get zb #[.slice Az (insL l a ⟨dz, ⟨0, 100000⟩⟩).length cz, .int .i64 p] 24 (by simp)
 have hlzb := blk_lt hH
 have czb0 : w40.cell? ⟨zb, 0, none⟩ = some (.slice Az (insL l a ⟨dz, ⟨0, 100000⟩⟩).length cz) := (blk_cell hH 0).trans rfl
 have czb1 : w40.cell? ⟨zb, 1, none⟩ = some (.int .i64 p) := (blk_cell hH 1).trans rfl
 clear hH
 go_wp2_with fail
 clear hltb ctb0 ctb1 hlzb czb0 czb1 hb1 hlt2
 refine (forecourtlaw01_fine.calls k Az cz (insL l a ⟨dz, ⟨0, 100000⟩⟩) p bz w40 Hz_40.out Hz_L.out HM.out.fz).mono ?_
 rintro e w41 ⟨rfl, hB⟩
 have HF_41 := Aside0.mk (HF_40.out.below hB)
 have HB_41 := Aside0.mk (below_then HB_40.out hB)
 have HR_41 := Aside0.mk (Kd.C_below HR_40.out hB)
 have Hz_41 := Aside0.mk (Kd.C_below Hz_40.out hB)
 clear hB HF_40 HB_40 HR_40 Hz_40 w40
 cases bz with
 | false =>
  go_wp2_with fail
  refine (forecourtlaw01_Works.calls true w41 ⟨rfl⟩ rfl).mono ?_
  rintro e wz ⟨rfl, hB⟩
  go_wp2_with fail
  go_ret
  exact ⟨rfl, below_then HB_41.out hB⟩
 | true =>
 have hH := HF_41.out.get tb #[.slice (some ad3) l.length c, .int .i64 p] 24 (by simp)
 have hltb := blk_lt hH
 have ctb0 : w41.cell? ⟨tb, 0, none⟩ = some (.slice (some ad3) l.length c) := (blk_cell hH 0).trans rfl
 have ctb1 : w41.cell? ⟨tb, 1, none⟩ = some (.int .i64 p) := (blk_cell hH 1).trans rfl
 clear hH
 go_wp2_with fail
 clear hltb ctb0 ctb1
 refine (chart_Tight.calls (some ad3) c l p (tightL l) 0 w41 HR_41.out HC.out HM.out.tight).mono ?_
 rintro e w42 ⟨v, rfl, Ht, hB⟩
 obtain ⟨At, ct, rfl, Htl, Htr⟩ := Kd.R_reads Ht
 have Ht_L := Lib.hid Htl
 have Ht_42 := Aside0.mk Htr
 clear Ht Htl Htr
 have HF_42 := Aside0.mk (HF_41.out.below hB)
 have HB_42 := Aside0.mk (below_then HB_41.out hB)
 have HR_42 := Aside0.mk (Kd.C_below HR_41.out hB)
 have Hz_42 := Aside0.mk (Kd.C_below Hz_41.out hB)
 clear hB HF_41 HB_41 HR_41 Hz_41 w41
 have hH := HF_42.out.get zb #[.slice Az (insL l a ⟨dz, ⟨0, 100000⟩⟩).length cz, .int .i64 p] 24 (by simp)
 have hlzb := blk_lt hH
 have czb0 : w42.cell? ⟨zb, 0, none⟩ = some (.slice Az (insL l a ⟨dz, ⟨0, 100000⟩⟩).length cz) := (blk_cell hH 0).trans rfl
 have czb1 : w42.cell? ⟨zb, 1, none⟩ = some (.int .i64 p) := (blk_cell hH 1).trans rfl
 clear hH
 go_wp2_with fail
 clear hlzb czb0 czb1
 refine (chart_Tight.calls Az cz (insL l a ⟨dz, ⟨0, 100000⟩⟩) p (tightL (insL l a ⟨dz, ⟨0, 100000⟩⟩)) 0 w42 Hz_42.out Hz_L.out (HM.out.tz rfl)).mono ?_
 rintro e w43 ⟨v, rfl, Hs, hB⟩
 obtain ⟨As, cs, rfl, Hsl, Hsr⟩ := Kd.R_reads Hs
 have Hs_L := Lib.hid Hsl
 have Hs_43 := Aside0.mk Hsr
 clear Hs Hsl Hsr
 have HF_43 := Aside0.mk (HF_42.out.below hB)
 have HB_43 := Aside0.mk (below_then HB_42.out hB)
 have HR_43 := Aside0.mk (Kd.C_below HR_42.out hB)
 have Hz_43 := Aside0.mk (Kd.C_below Hz_42.out hB)
 have Ht_43 := Aside0.mk (Kd.C_below Ht_42.out hB)
 clear hB HF_42 HB_42 HR_42 Hz_42 Ht_42 w42
 have hzl : (tightL (insL l a ⟨dz, ⟨0, 100000⟩⟩)).length = l.length + 1 := by rw [tightL_len, insL_len _ _ _ (by omega)]
 have htl : (tightL l).length = l.length := tightL_len l
 have h1 : (((tightL (insL l a ⟨dz, ⟨0, 100000⟩⟩)).length : Int) != ((tightL l).length : Int) + 1) = false := by rw [hzl, htl]; simp
 have h2 : ((tightL (insL l a ⟨dz, ⟨0, 100000⟩⟩)).length != (tightL l).length + 1) = false := by rw [hzl, htl]; simp
 have h3 : ((tightL l).length : Int) ≤ 16 := by omega
 have h4 : (0 : Int) ≤ ((tightL l).length : Int) := by omega
 have HZL := Lib.hid hzl
 have HTL := Lib.hid htl
 clear hzl htl
 go_wp2_with fail
 clear h1 h2 h3 h4
 go_loopw [33, 34] (fun v33 v34 w' => ∃ i : Nat, i ≤ l.length ∧ v33 = .int .i64 i ∧ Below w43.heap.size w43 w') (fun v33 v34 _ => l.length - (RowKit.intOf v33).toNat)
 case atStart => exact ⟨0, Nat.zero_le _, rfl, Below.refl _ _⟩
 case round =>
 obtain ⟨i, hil, rfl, hBi⟩ := hrel
 obtain ⟨w44, hZ⟩ : ∃ Z, wr = Z := ⟨_, rfl⟩
 have hB := hBi
 rw [hZ] at hB
 rw [hZ]
 have HF_44 := Aside0.mk (HF_43.out.below hB)
 have HB_44 := Aside0.mk (below_then HB_43.out hB)
 have HR_44 := Aside0.mk (Kd.C_below HR_43.out hB)
 have Hz_44 := Aside0.mk (Kd.C_below Hz_43.out hB)
 have Ht_44 := Aside0.mk (Kd.C_below Ht_43.out hB)
 have Hs_44 := Aside0.mk (Kd.C_below Hs_43.out hB)
 have HBi := Aside0.mk hB
 clear hZ hB hBi
 by_cases hlt : i < l.length
 ·as_aux_lemma =>
  obtain ⟨ad2, ea, hx3, hx4⟩ := at_T43 Ht_44.out (i : Int) (by omega) (by have := HTL.out; omega)
  cases ea
  rw [rdTight l i hlt, Int.toNat_natCast] at hx3 hx4
  obtain ⟨e1, e2⟩ := HM.out.rows i hlt
  obtain ⟨lo', elo⟩ : ∃ z, z = lowN l i := ⟨_, rfl⟩
  obtain ⟨h', ehi⟩ : ∃ z, z = highN l i := ⟨_, rfl⟩
  rw [← elo] at hx3 e1
  rw [← ehi] at hx4 e2
  replace hx3 : w44.cell? (ad2.add (i * 2)) = some (.int .i64 lo') := hx3
  replace hx4 : w44.cell? ⟨(ad2.add (i * 2)).block, (ad2.add (i * 2)).off + 1, none⟩ = some (.int .i64 h') := hx4
  have p1 : (0 : Int) ≤ (i : Int) := by omega
  have p3 : (i : Int) < (tightL l).length := by have := HTL.out; omega
  have p4 : (i : Int) ≤ 16 := by omega
  clear elo ehi
  by_cases hai : a ≤ i
  ·have hc : decide ((i : Int) ≥ (a : Int)) = true := decide_eq_true (by omega)
   have hc2 : decide (a ≤ i) = true := decide_eq_true hai
   have hsh : sh a i = i + 1 := by unfold sh; rw [if_pos hai]
   rw [hsh] at e1 e2
   obtain ⟨ad, ea, hx1, hx2⟩ := at_T43 Hs_44.out ((i + 1 : Nat) : Int) (by omega) (by have := HZL.out; omega)
   cases ea
   rw [rdTight (insL l a ⟨dz, ⟨0, 100000⟩⟩) (i + 1) (by rw [insL_len _ _ _ (by omega)]; omega), Int.toNat_natCast] at hx1 hx2
   replace hx1 : w44.cell? (ad.add ((i + 1) * 2)) = some (.int .i64 (lowN (insL l a ⟨dz, ⟨0, 100000⟩⟩) (i + 1))) := hx1
   replace hx2 : w44.cell? ⟨(ad.add ((i + 1) * 2)).block, (ad.add ((i + 1) * 2)).off + 1, none⟩ = some (.int .i64 (highN (insL l a ⟨dz, ⟨0, 100000⟩⟩) (i + 1))) := hx2
   rw [e1] at hx1
   rw [e2] at hx2
   have ht : ((i : Int) + 1).toNat = i + 1 := by omega
   have p5 : (i : Int) + 1 < (tightL (insL l a ⟨dz, ⟨0, 100000⟩⟩)).length := by have := HZL.out; omega
   have p6 : (0 : Int) ≤ (i : Int) + 1 := by omega
   clear e1 e2 hsh hai
   go_wp2_with fail
   (refine start_ (n := 9) (S := fun w' => Below (World.heap _).size _ w') (ds := []) (List.toArray (false :: false :: false :: false :: false :: false :: false :: false :: false :: [])) (by kernel_rfl) rfl rfl (belowDrew _) (fun plS => ?_); refine pureY (i := 0) (N := (some 250)) ?_; refine pureY (i := 1) (N := (some 251)) ?_; refine pureY (i := 2) (N := (some 252)) ?_; refine pureY (i := 4) (N := (some 254)) ?_; refine pureY (i := 5) (N := (some 255)) ?_; refine pureY (i := 6) (N := (some 256)) ?_; refine takeF (i := 3) (N := (some 253)) (hS := plS) (hy := by (intro w' hw'; replace hw' : Below (World.heap w44).size w44 w' := hw'; have q0 := pw_cell_below hw' hx3; have q1 := pw_cell_below hw' hx4; have q2 := pw_cell_below hw' hx1; have q3 := pw_cell_below hw' hx2; exact yieldA)) (h := ?_); refine takeF (i := 7) (N := (some 257)) (hS := plS) (hy := by (intro w' hw'; replace hw' : Below (World.heap w44).size w44 w' := hw'; have q0 := pw_cell_below hw' hx3; have q1 := pw_cell_below hw' hx4; have q2 := pw_cell_below hw' hx1; have q3 := pw_cell_below hw' hx2; exact yieldA)) (h := ?_); refine pureY (i := 8) (N := (some 258)) ?_; refine done_ (by kernel_rfl) ?_)
   clear plS
   go_wp2_with fail
   go_roundw
   case rel => exact ⟨i + 1, by omega, by go_num, below_then HBi.out (belowDrew _)⟩
   case measure => simp [RowKit.intOf]; omega
  have hc : decide ((i : Int) ≥ (a : Int)) = false := decide_eq_false (by omega)
  have hc2 : decide (a ≤ i) = false := decide_eq_false hai
  have hsh : sh a i = i := by unfold sh; rw [if_neg hai]
  rw [hsh] at e1 e2
  obtain ⟨ad, ea, hx1, hx2⟩ := at_T43 Hs_44.out (i : Int) (by omega) (by have := HZL.out; omega)
  cases ea
  rw [rdTight (insL l a ⟨dz, ⟨0, 100000⟩⟩) i (by rw [insL_len _ _ _ (by omega)]; omega), Int.toNat_natCast] at hx1 hx2
  replace hx1 : w44.cell? (ad.add (i * 2)) = some (.int .i64 (lowN (insL l a ⟨dz, ⟨0, 100000⟩⟩) i)) := hx1
  replace hx2 : w44.cell? ⟨(ad.add (i * 2)).block, (ad.add (i * 2)).off + 1, none⟩ = some (.int .i64 (highN (insL l a ⟨dz, ⟨0, 100000⟩⟩) i)) := hx2
  rw [e1] at hx1
  rw [e2] at hx2
  have p5 : (i : Int) < (tightL (insL l a ⟨dz, ⟨0, 100000⟩⟩)).length := by have := HZL.out; omega
  clear e1 e2 hsh hai
  go_wp2_with fail
  (refine start_ (n := 9) (S := fun w' => Below (World.heap _).size _ w') (ds := []) (List.toArray (false :: false :: false :: false :: false :: false :: false :: false :: false :: [])) (by kernel_rfl) rfl rfl (belowDrew _) (fun plS => ?_); refine pureY (i := 0) (N := (some 250)) ?_; refine pureY (i := 1) (N := (some 251)) ?_; refine pureY (i := 2) (N := (some 252)) ?_; refine pureY (i := 4) (N := (some 254)) ?_; refine pureY (i := 5) (N := (some 255)) ?_; refine pureY (i := 6) (N := (some 256)) ?_; refine takeF (i := 3) (N := (some 253)) (hS := plS) (hy := by (intro w' hw'; replace hw' : Below (World.heap w44).size w44 w' := hw'; have q0 := pw_cell_below hw' hx3; have q1 := pw_cell_below hw' hx4; have q2 := pw_cell_below hw' hx1; have q3 := pw_cell_below hw' hx2; exact yieldA)) (h := ?_); refine takeF (i := 7) (N := (some 257)) (hS := plS) (hy := by (intro w' hw'; replace hw' : Below (World.heap w44).size w44 w' := hw'; have q0 := pw_cell_below hw' hx3; have q1 := pw_cell_below hw' hx4; have q2 := pw_cell_below hw' hx1; have q3 := pw_cell_below hw' hx2; exact yieldA)) (h := ?_); refine pureY (i := 8) (N := (some 258)) ?_; refine done_ (by kernel_rfl) ?_)
  clear plS
  go_wp2_with fail
  go_roundw
  case rel => exact ⟨i + 1, by omega, by go_num, below_then HBi.out (belowDrew _)⟩
  case measure => simp [RowKit.intOf]; omega
 obtain rfl : i = l.length := by omega
 have hq3 : decide ((l.length : Int) < ((tightL l).length : Int)) = false := decide_eq_false (by have := HTL.out; omega)
 have hq4 : decide (l.length < (tightL l).length) = false := decide_eq_false (by have := HTL.out; omega)
 have hq5 : ¬ l.length < (tightL l).length := by have := HTL.out; omega
 go_wp2_with fail
 refine (forecourtlaw01_Works.calls true w44 ⟨rfl⟩ rfl).mono ?_
 rintro e wz ⟨rfl, hB⟩
 go_wp2_with fail
 go_ret
 exact ⟨rfl, below_then HB_44.out hB⟩
end Go.Proofs.Ytpkajhmchcbbhaa.P
end
