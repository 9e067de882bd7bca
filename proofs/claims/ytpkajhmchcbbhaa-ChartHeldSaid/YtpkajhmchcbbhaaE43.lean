/- Part 43 of 45. -/
import Derived.Test.YtpkajhmchcbbhaaE0
import Derived.Test.YtpkajhmchcbbhaaE41
set_option linter.unusedSimpArgs false
set_option linter.unusedVariables false
section
namespace Go.Proofs.Ytpkajhmchcbbhaa.P
open Go.RowKit Go.Proofs.YtpkajhmchcbbhaaW.PrintWords Go.Proofs.YtpkajhmchcbbhaaW.PrintLast Go.Proofs.YtpkajhmchcbbhaaW.PrintMore
attribute [local go_sem high] eqA39
set_option maxRecDepth 100000 in
set_option maxHeartbeats 80000000 in
theorem held_callsB (A : Option Addr) (c : Nat) (l : List SRow) (p : Int) (A1 : Option Addr) (c1 : Nat) (l1 : List Int) (x0 x1 o0 o1 : Int) (k : Nat) (b0 : Bool) (q : List Int) (wa le n1 n2 n3 n4 e t0 t1 s0 s1 z1 z2 r1 z3 z4 r2 a b h1 h2 : Int) (xF : List Int) (dF eF u1F u2F v1F v2F z1F z2F : Int) (xT : List Int) (dT eT u1T u2T v1T v2T z1T z2T : Int) (w w0 : World)
  (HR_0 : Aside0 (Kd.C k70 w0 A l.length l)) (HC : Hid (l.length ≤ c)) (HQ_0 : Aside0 (Kd.C (Kd.int .u32) w0 A1 l1.length l1)) (HC1 : Hid (l1.length ≤ c1)) (HB_0 : Aside0 (Below w.heap.size w w0))
  (ho0 : 0 ≤ o0 ∧ o0 ≤ 255) (ho1 : 0 ≤ o1 ∧ o1 ≤ 255)
  (hcase : Hid (e = 0 → ¬ a ≤ b)) (HF : Hid (forecourtlaw01_fine.f k l p = some b0)) (HE : Hid (b0 = true → l1.length ≤ 40 → HeldFacts l p l1 k q x0 x1 wa le n1 n2 n3 n4 e))
  (HG : Hid (e = 0 → HeldOk l p k q wa le n1 n2 n3 n4 t0 t1 s0 s1 a b h1 h2 xF dF eF u1F u2F v1F v2F z1F z2F xT dT eT u1T u2T v1T v2T z1T z2T))
  (HA : Hid (e = 0 → IntKind.i64.wrap (t1 - t0) = z1 ∧ IntKind.i64.wrap (z1 + 1) = z2 ∧ ¬ z2 = 0 ∧ o0.tmod z2 = r1 ∧ IntKind.i64.wrap (t0 + r1) = a ∧ IntKind.i64.wrap (s1 - s0) = z3 ∧ IntKind.i64.wrap (z3 + 1) = z4 ∧ ¬ z4 = 0 ∧ o1.tmod z4 = r2 ∧ IntKind.i64.wrap (s0 + r2) = b ∧ 0 ≤ r1 ∧ r1 ≤ 255 ∧ 0 ≤ r2 ∧ r2 ≤ 255)) :
  Calls Try.prog 7 #[.agg #[.slice A l.length c, .int .i64 p], .slice A1 l1.length c1, .agg #[.int .u16 x0, .int .u16 x1], .agg #[.int .u8 o0, .int .u8 o1]] w0 fun e w' => e = .returned (.bool true) ∧ Below w.heap.size w w' := by
 have hu1 := Try.underlying24
 have hu2 := Try.underlying39
 have hu3 := Try.underlying43
 have hu4 := Try.underlying48
 have hu5 := Try.underlying61
 have hu6 := Try.underlying62
 have hu7 := Try.underlying51
 have HF_0 : Aside0 (Held [] w0) := ⟨⟨fun b cs t hm => by simp at hm⟩⟩
 go_enter Try.func7, Try.ntmps7
 go_wp2_with fail
 obtain ⟨w0a, hZ⟩ : ∃ Z, w0.alloc (.cells #[.slice A l.length c, .int .i64 p] 24) = Z := ⟨_, rfl⟩
 obtain ⟨tb, hbk⟩ : ∃ b, b = w0.heap.size := ⟨_, rfl⟩
 have HF_0a : Aside0 (Held [(tb, #[.slice A l.length c, .int .i64 p], 24)] w0a) := ⟨by rw [← hZ, hbk]; exact HF_0.out.new _ _⟩
 have HSZ := Lib.hid (show w0a.heap.size = tb + 1 by rw [← hZ, hbk]; simp)
 have HR_0a : Aside0 (Kd.C k70 w0a A l.length l) := ⟨by rw [← hZ]; exact Kd.C_below HR_0.out ((Below.refl _ _).alloc (Nat.le_refl _) _)⟩
 have HQ_0a : Aside0 (Kd.C (Kd.int .u32) w0a A1 l1.length l1) := ⟨by rw [← hZ]; exact Kd.C_below HQ_0.out ((Below.refl _ _).alloc (Nat.le_refl _) _)⟩
 have HB_0a : Aside0 (Below w.heap.size w w0a) := ⟨by rw [← hZ]; exact HB_0.out.alloc HB_0.out.size _⟩
 rw [hZ, ← hbk]
 clear hZ hbk HF_0 HB_0 HR_0 HQ_0 w0
 obtain ⟨w0aa, hZ⟩ : ∃ Z, w0a.alloc (.cells #[.int .u16 x0, .int .u16 x1] 61) = Z := ⟨_, rfl⟩
 obtain ⟨db, hbk⟩ : ∃ b, b = tb + 1 := ⟨_, rfl⟩
 have HF_0aa : Aside0 (Held [(db, #[.int .u16 x0, .int .u16 x1], 61), (tb, #[.slice A l.length c, .int .i64 p], 24)] w0aa) := ⟨by rw [← hZ, hbk, ← HSZ.out]; exact HF_0a.out.new _ _⟩
 have HSZ2 := Lib.hid (show w0aa.heap.size = db + 1 by rw [← hZ, hbk, ← HSZ.out]; simp)
 have HR_0aa : Aside0 (Kd.C k70 w0aa A l.length l) := ⟨by rw [← hZ]; exact Kd.C_below HR_0a.out ((Below.refl _ _).alloc (Nat.le_refl _) _)⟩
 have HQ_0aa : Aside0 (Kd.C (Kd.int .u32) w0aa A1 l1.length l1) := ⟨by rw [← hZ]; exact Kd.C_below HQ_0a.out ((Below.refl _ _).alloc (Nat.le_refl _) _)⟩
 have HB_0aa : Aside0 (Below w.heap.size w w0aa) := ⟨by rw [← hZ]; exact HB_0a.out.alloc HB_0a.out.size _⟩
 rw [hZ, ← hbk]
 clear hZ hbk HSZ HF_0a HB_0a HR_0a HQ_0a w0a
 have HSZ := HSZ2
 clear HSZ2
 obtain ⟨w0aaa, hZ⟩ : ∃ Z, w0aa.alloc (.cells #[.int .u8 o0, .int .u8 o1] 62) = Z := ⟨_, rfl⟩
 obtain ⟨ob, hbk⟩ : ∃ b, b = db + 1 := ⟨_, rfl⟩
 have HF_0aaa : Aside0 (Held [(ob, #[.int .u8 o0, .int .u8 o1], 62), (db, #[.int .u16 x0, .int .u16 x1], 61), (tb, #[.slice A l.length c, .int .i64 p], 24)] w0aaa) := ⟨by rw [← hZ, hbk, ← HSZ.out]; exact HF_0aa.out.new _ _⟩
 have HR_0aaa : Aside0 (Kd.C k70 w0aaa A l.length l) := ⟨by rw [← hZ]; exact Kd.C_below HR_0aa.out ((Below.refl _ _).alloc (Nat.le_refl _) _)⟩
 have HQ_0aaa : Aside0 (Kd.C (Kd.int .u32) w0aaa A1 l1.length l1) := ⟨by rw [← hZ]; exact Kd.C_below HQ_0aa.out ((Below.refl _ _).alloc (Nat.le_refl _) _)⟩
 have HB_0aaa : Aside0 (Below w.heap.size w w0aaa) := ⟨by rw [← hZ]; exact HB_0aa.out.alloc HB_0aa.out.size _⟩
 rw [hZ, ← hbk]
 clear hZ hbk HSZ HF_0aa HB_0aa HR_0aa HQ_0aa w0aa
 refine (forecourtlaw01_fine.calls k A c l p b0 w0aaa HR_0aaa.out HC.out HF.out).mono ?_
 rintro e w1 ⟨rfl, hB⟩
 have HF_1 := Aside0.mk (HF_0aaa.out.below hB)
 have HB_1 := Aside0.mk (below_then HB_0aaa.out hB)
 have HR_1 := Aside0.mk (Kd.C_below HR_0aaa.out hB)
 have HQ_1 := Aside0.mk (Kd.C_below HQ_0aaa.out hB)
 clear hB HF_0aaa HB_0aaa HR_0aaa HQ_0aaa w0aaa
 cases b0 with
 | false =>
  go_wp2_with fail
  refine (forecourtlaw01_Works.calls true w1 ⟨rfl⟩ rfl).mono ?_
  rintro e wz ⟨rfl, hB⟩
  go_wp2_with fail
  go_ret
  exact ⟨rfl, below_then HB_1.out hB⟩
 | true =>
 by_cases h40 : (l1.length : Int) > 40
 ·have hb40 : decide ((l1.length : Int) > 40) = true := decide_eq_true h40
  go_wp2_with fail
  refine (forecourtlaw01_Works.calls true w1 ⟨rfl⟩ rfl).mono ?_
  rintro e wz ⟨rfl, hB⟩
  go_wp2_with fail
  go_ret
  exact ⟨rfl, below_then HB_1.out hB⟩
 have hb40 : decide ((l1.length : Int) > 40) = false := decide_eq_false h40
 have HM := Aside0.mk (HE.out rfl (by omega))
 clear HE
 have hH := HF_1.out.get tb #[.slice A l.length c, .int .i64 p] 24 (by simp)
 have hltb := blk_lt hH
 have ctb0 : w1.cell? ⟨tb, 0, none⟩ = some (.slice A l.length c) := (blk_cell hH 0).trans rfl
 have ctb1 : w1.cell? ⟨tb, 1, none⟩ = some (.int .i64 p) := (blk_cell hH 1).trans rfl
 clear hH
 go_wp2_with fail
 clear hltb ctb0 ctb1 hb40 h40
 refine (forecourtlaw01_True.calls k A c l p A1 c1 l1 q w1 HR_1.out HC.out HQ_1.out HC1.out HM.out.true_).mono ?_
 rintro e w2 ⟨v, rfl, Hn, hB⟩
 obtain ⟨An, cn, rfl, Hnl, Hnr⟩ := Kd.R_reads Hn
 have Hn_L := Lib.hid Hnl
 have Hn_2 := Aside0.mk Hnr
 clear Hn Hnl Hnr
 have HF_2 := Aside0.mk (HF_1.out.below hB)
 have HB_2 := Aside0.mk (below_then HB_1.out hB)
 have HR_2 := Aside0.mk (Kd.C_below HR_1.out hB)
 have HQ_2 := Aside0.mk (Kd.C_below HQ_1.out hB)
 clear hB HF_1 HB_1 HR_1 HQ_1 w1
 have hH := HF_2.out.get tb #[.slice A l.length c, .int .i64 p] 24 (by simp)
 have hltb := blk_lt hH
 have ctb0 : w2.cell? ⟨tb, 0, none⟩ = some (.slice A l.length c) := (blk_cell hH 0).trans rfl
 have ctb1 : w2.cell? ⟨tb, 1, none⟩ = some (.int .i64 p) := (blk_cell hH 1).trans rfl
 clear hH
 have hH := HF_2.out.get db #[.int .u16 x0, .int .u16 x1] 61 (by simp)
 have hldb := blk_lt hH
 have cdb0 : w2.cell? ⟨db, 0, none⟩ = some (.int .u16 x0) := (blk_cell hH 0).trans rfl
 have cdb1 : w2.cell? ⟨db, 1, none⟩ = some (.int .u16 x1) := (blk_cell hH 1).trans rfl
 clear hH
 go_wp2_with fail
 (refine start_ (n := 10) (S := fun w' => Below (World.heap _).size _ w') (ds := []) (List.toArray (false :: false :: false :: false :: false :: false :: false :: false :: false :: false :: [])) (by kernel_rfl) rfl rfl (belowDrew _) (fun plS => ?_); refine pureY (i := 1) (N := (some 43)) ?_; refine pureY (i := 5) (N := (some 47)) ?_; refine takeF (i := 0) (N := (some 42)) (hS := plS) (hy := by (intro w' hw'; replace hw' : Below (World.heap w2).size w2 w' := hw'; have q0 := pw_cell_below hw' ctb0; have q1 := pw_cell_below hw' ctb1; have q2 := pw_cell_below hw' cdb0; have q3 := pw_cell_below hw' cdb1; exact yieldA)) (h := ?_); refine takeF (i := 2) (N := (some 44)) (hS := plS) (hy := by (intro w' hw'; replace hw' : Below (World.heap w2).size w2 w' := hw'; have q0 := pw_cell_below hw' ctb0; have q1 := pw_cell_below hw' ctb1; have q2 := pw_cell_below hw' cdb0; have q3 := pw_cell_below hw' cdb1; exact yieldA)) (h := ?_); refine takeF (i := 4) (N := (some 46)) (hS := plS) (hy := by (intro w' hw'; replace hw' : Below (World.heap w2).size w2 w' := hw'; have q0 := pw_cell_below hw' ctb0; have q1 := pw_cell_below hw' ctb1; have q2 := pw_cell_below hw' cdb0; have q3 := pw_cell_below hw' cdb1; exact yieldA)) (h := ?_); refine takeF (i := 6) (N := (some 48)) (hS := plS) (hy := by (intro w' hw'; replace hw' : Below (World.heap w2).size w2 w' := hw'; have q0 := pw_cell_below hw' ctb0; have q1 := pw_cell_below hw' ctb1; have q2 := pw_cell_below hw' cdb0; have q3 := pw_cell_below hw' cdb1; exact yieldA)) (h := ?_); refine oneY (i := 3) (fun plK plH => ?_); rw [if_pos (by rfl)]; (first | gi_big_move | go_big_op | go_simp))
 refine (forecourtlaw01_Read.calls A c l p x0 wa w2.drew (Kd.C_below HR_2.out ((Below.refl _ _).drew)) HC.out HM.out.read0).mono ?_
 rintro e y1 ⟨rfl, hb⟩
 have hB1 : Below w2.heap.size w2 y1 := ((Below.refl _ w2).drew).trans hb
 clear hb
 ((try simp only [Act.put, List.getElem_toArray, List.getElem_cons_succ, List.getElem_cons_zero, List.setIfInBounds_toArray, List.set_cons_succ, List.set_cons_zero]); refine plH _ _ hB1 (fun plS => ?_); clear plH plK; refine oneY (i := 7) (fun plK plH => ?_); rw [if_pos (by rfl)]; (first | gi_big_move | go_big_op | go_simp))
 refine (forecourtlaw01_Read.calls A c l p x1 le y1 (Kd.C_below HR_2.out (hB1)) HC.out HM.out.read1).mono ?_
 rintro e y2 ⟨rfl, hb⟩
 have hB2 : Below w2.heap.size w2 y2 := below_then hB1 hb
 clear hb
 ((try simp only [Act.put, List.getElem_toArray, List.getElem_cons_succ, List.getElem_cons_zero, List.setIfInBounds_toArray, List.set_cons_succ, List.set_cons_zero]); refine plH _ _ hB2 (fun plS => ?_); clear plH plK; refine pureY (i := 8) (N := (some 10)) ?_; refine pureY (i := 9) (N := (some 11)) ?_; refine done_ (by kernel_rfl) ?_)
 clear plS hltb ctb0 ctb1 hldb cdb0 cdb1
 obtain ⟨w3, hZ⟩ : ∃ Z, y2 = Z := ⟨_, rfl⟩
 have hB := hB2
 rw [hZ] at hB
 rw [hZ]
 have HF_3 := Aside0.mk (HF_2.out.below hB)
 have HB_3 := Aside0.mk (below_then HB_2.out hB)
 have HR_3 := Aside0.mk (Kd.C_below HR_2.out hB)
 have HQ_3 := Aside0.mk (Kd.C_below HQ_2.out hB)
 have Hn_3 := Aside0.mk (Kd.C_below Hn_2.out hB)
 clear hZ hB hB1 hB2 HF_2 HB_2 HR_2 HQ_2 Hn_2
 have hH := HF_3.out.get tb #[.slice A l.length c, .int .i64 p] 24 (by simp)
 have hltb := blk_lt hH
 have ctb0 : w3.cell? ⟨tb, 0, none⟩ = some (.slice A l.length c) := (blk_cell hH 0).trans rfl
 have ctb1 : w3.cell? ⟨tb, 1, none⟩ = some (.int .i64 p) := (blk_cell hH 1).trans rfl
 clear hH
 go_wp2_with fail
 clear hltb ctb0 ctb1
 refine (chart_CheckChart.calls k A c l p An cn q 0 w3 HR_3.out HC.out Hn_3.out Hn_L.out HM.out.check).mono ?_
 rintro e w4 ⟨rfl, hB⟩
 have HF_4 := Aside0.mk (HF_3.out.below hB)
 have HB_4 := Aside0.mk (below_then HB_3.out hB)
 have HR_4 := Aside0.mk (Kd.C_below HR_3.out hB)
 have HQ_4 := Aside0.mk (Kd.C_below HQ_3.out hB)
 have Hn_4 := Aside0.mk (Kd.C_below Hn_3.out hB)
 clear hB HF_3 HB_3 HR_3 HQ_3 Hn_3 w3
 have hH := HF_4.out.get tb #[.slice A l.length c, .int .i64 p] 24 (by simp)
 have hltb := blk_lt hH
 have ctb0 : w4.cell? ⟨tb, 0, none⟩ = some (.slice A l.length c) := (blk_cell hH 0).trans rfl
 have ctb1 : w4.cell? ⟨tb, 1, none⟩ = some (.int .i64 p) := (blk_cell hH 1).trans rfl
 clear hH
 go_wp2_with fail
 clear hltb ctb0 ctb1
 refine (chart_Tight.calls A c l p (tightL l) 0 w4 HR_4.out HC.out HM.out.tight).mono ?_
 rintro e w5 ⟨v, rfl, Ht, hB⟩
 obtain ⟨At, ct, rfl, Htl, Htr⟩ := Kd.R_reads Ht
 have Ht_L := Lib.hid Htl
 have Ht_5 := Aside0.mk Htr
 clear Ht Htl Htr
 have HF_5 := Aside0.mk (HF_4.out.below hB)
 have HB_5 := Aside0.mk (below_then HB_4.out hB)
 have HR_5 := Aside0.mk (Kd.C_below HR_4.out hB)
 have HQ_5 := Aside0.mk (Kd.C_below HQ_4.out hB)
 have Hn_5 := Aside0.mk (Kd.C_below Hn_4.out hB)
 clear hB HF_4 HB_4 HR_4 HQ_4 Hn_4 w4
 have hql := HM.out.chart.len
 have htl := tightL_len l
 have hqt : ((tightL l).length == q.length) = true := by rw [htl, hql]; simp
 have hqt2 : (((tightL l).length : Int) == (q.length : Int)) = true := by rw [htl, hql]; simp
 have hqt3 : (((tightL l).length : Int) != (q.length : Int)) = false := by rw [htl, hql]; simp
 clear hql htl
 go_wp2_with fail
 go_loopw [14] (fun v14 w' => ∃ i : Nat, i ≤ q.length ∧ v14 = .int .i64 i ∧ Below w5.heap.size w5 w') (fun v14 _ => q.length - (RowKit.intOf v14).toNat)
 case atStart => exact ⟨0, Nat.zero_le _, rfl, Below.refl _ _⟩
 case round =>
 obtain ⟨i, hi, rfl, hBi⟩ := hrel
 obtain ⟨w6, hZ⟩ : ∃ Z, wr = Z := ⟨_, rfl⟩
 have hB := hBi
 rw [hZ] at hB
 rw [hZ]
 have HF_6 := Aside0.mk (HF_5.out.below hB)
 have HB_6 := Aside0.mk (below_then HB_5.out hB)
 have HR_6 := Aside0.mk (Kd.C_below HR_5.out hB)
 have HQ_6 := Aside0.mk (Kd.C_below HQ_5.out hB)
 have Hn_6 := Aside0.mk (Kd.C_below Hn_5.out hB)
 have Ht_6 := Aside0.mk (Kd.C_below Ht_5.out hB)
 have HBi := Aside0.mk hB
 clear hZ hB
 by_cases hlt : i < q.length
 ·as_aux_lemma =>
  have hql := HM.out.chart.len
  have htl := tightL_len l
  obtain ⟨ad, ea, hx1⟩ := Kd.at_int Hn_6.out (i : Int) (by omega) (by omega)
  cases ea
  obtain ⟨ad2, ea, hx2, hx3⟩ := at_T43 Ht_6.out (i : Int) (by omega) (by omega)
  cases ea
  rw [rd_nat, Int.toNat_natCast] at hx1
  rw [rdTight l i (by omega), Int.toNat_natCast] at hx2 hx3
  have g1 := HM.out.chart.inn.lo i (by omega)
  have g2 := HM.out.chart.inn.hi i (by omega)
  try simp only at g1 g2
  obtain ⟨ci, eci⟩ : ∃ z, z = q.getD i 0 := ⟨_, rfl⟩
  obtain ⟨lo, elo⟩ : ∃ z, z = lowN l i := ⟨_, rfl⟩
  obtain ⟨hi2, ehi⟩ : ∃ z, z = highN l i := ⟨_, rfl⟩
  rw [← eci] at hx1 g1 g2
  rw [← elo] at hx2 g1
  rw [← ehi] at hx3 g2
  replace hx2 : w6.cell? (ad2.add (i * 2)) = some (.int .i64 lo) := hx2
  replace hx3 : w6.cell? ⟨(ad2.add (i * 2)).block, (ad2.add (i * 2)).off + 1, none⟩ = some (.int .i64 hi2) := hx3
  have b1 : decide (ci < lo) = false := decide_eq_false (by omega)
  have b2 : decide (hi2 < ci) = false := decide_eq_false (by omega)
  have p1 : (0 : Int) ≤ (i : Int) := by omega
  have p2 : (i : Int) < q.length := by omega
  have p3 : (i : Int) < (tightL l).length := by omega
  have p4 : (i : Int) ≤ 16 := by have := HM.out.fine.tank.n16; omega
  clear eci elo ehi g1 g2 hql htl
  go_wp2_with fail
  (refine start_ (n := 22) (S := fun w' => Below (World.heap _).size _ w') (ds := []) (List.toArray (false :: false :: false :: false :: false :: false :: false :: false :: false :: false :: false :: false :: false :: false :: false :: false :: false :: false :: false :: false :: false :: false :: [])) (by kernel_rfl) rfl rfl (belowDrew _) (fun plS => ?_); refine pureY (i := 0) (N := (some 74)) ?_; refine pureY (i := 1) (N := (some 75)) ?_; refine pureY (i := 2) (N := (some 76)) ?_; refine pureY (i := 4) (N := (some 78)) ?_; refine pureY (i := 5) (N := (some 79)) ?_; refine pureY (i := 6) (N := (some 80)) ?_; refine pureY (i := 7) (N := (some 81)) ?_; refine takeF (i := 3) (N := (some 77)) (hS := plS) (hy := by (intro w' hw'; replace hw' : Below (World.heap w6).size w6 w' := hw'; have q0 := pw_cell_below hw' hx1; have q1 := pw_cell_below hw' hx2; have q2 := pw_cell_below hw' hx3; exact yieldA)) (h := ?_); refine takeF (i := 8) (N := (some 82)) (hS := plS) (hy := by (intro w' hw'; replace hw' : Below (World.heap w6).size w6 w' := hw'; have q0 := pw_cell_below hw' hx1; have q1 := pw_cell_below hw' hx2; have q2 := pw_cell_below hw' hx3; exact yieldA)) (h := ?_); refine pureY (i := 9) (N := (some 83)) ?_; refine pureY (i := 10) (N := (some 84)) ?_; refine pureY (i := 11) (N := (some 85)) ?_; refine pureY (i := 12) (N := (some 86)) ?_; refine pureY (i := 13) (N := (some 87)) ?_; refine pureY (i := 15) (N := (some 89)) ?_; refine pureY (i := 16) (N := (some 90)) ?_; refine pureY (i := 17) (N := (some 91)) ?_; refine pureY (i := 18) (N := (some 92)) ?_; refine takeF (i := 14) (N := (some 88)) (hS := plS) (hy := by (intro w' hw'; replace hw' : Below (World.heap w6).size w6 w' := hw'; have q0 := pw_cell_below hw' hx1; have q1 := pw_cell_below hw' hx2; have q2 := pw_cell_below hw' hx3; exact yieldA)) (h := ?_); refine takeF (i := 19) (N := (some 93)) (hS := plS) (hy := by (intro w' hw'; replace hw' : Below (World.heap w6).size w6 w' := hw'; have q0 := pw_cell_below hw' hx1; have q1 := pw_cell_below hw' hx2; have q2 := pw_cell_below hw' hx3; exact yieldA)) (h := ?_); refine pureY (i := 20) (N := (some 94)) ?_; refine pureY (i := 21) (N := (some 95)) ?_; refine done_ (by kernel_rfl) ?_)
  clear plS
  go_wp2_with fail
  go_roundw
  case rel => exact ⟨i + 1, by omega, by go_num, below_then HBi.out ((Below.refl _ _).drew)⟩
  case measure => simp [RowKit.intOf]; omega
 obtain rfl : i = q.length := by omega
 have hH := HF_6.out.get tb #[.slice A l.length c, .int .i64 p] 24 (by simp)
 have hltb := blk_lt hH
 have ctb0 : w6.cell? ⟨tb, 0, none⟩ = some (.slice A l.length c) := (blk_cell hH 0).trans rfl
 have ctb1 : w6.cell? ⟨tb, 1, none⟩ = some (.int .i64 p) := (blk_cell hH 1).trans rfl
 clear hH
 go_wp2_with fail
 clear hltb ctb0 ctb1 hlt hi hqt hqt2 hqt3 HBi
 refine (chart_Net.calls A c l p wa le n1 n2 n3 n4 e w6 HR_6.out HC.out HM.out.net).mono ?_
 rintro e w7 ⟨rfl, hB⟩
 have HF_7 := Aside0.mk (HF_6.out.below hB)
 have HB_7 := Aside0.mk (below_then HB_6.out hB)
 have HR_7 := Aside0.mk (Kd.C_below HR_6.out hB)
 have HQ_7 := Aside0.mk (Kd.C_below HQ_6.out hB)
 have Hn_7 := Aside0.mk (Kd.C_below Hn_6.out hB)
 have Ht_7 := Aside0.mk (Kd.C_below Ht_6.out hB)
 clear hB HF_6 HB_6 HR_6 HQ_6 Hn_6 Ht_6 w6
 have hH := HF_7.out.get tb #[.slice A l.length c, .int .i64 p] 24 (by simp)
 have hltb := blk_lt hH
 have ctb0 : w7.cell? ⟨tb, 0, none⟩ = some (.slice A l.length c) := (blk_cell hH 0).trans rfl
 have ctb1 : w7.cell? ⟨tb, 1, none⟩ = some (.int .i64 p) := (blk_cell hH 1).trans rfl
 clear hH
 go_wp2_with fail
 clear hltb ctb0 ctb1
 obtain ⟨w7a, hZ⟩ : ∃ Z, w7.alloc (.cells #[.int .i64 n1, .int .i64 n2, .int .i64 n3, .int .i64 n4] 48) = Z := ⟨_, rfl⟩
 obtain ⟨nb, hbk⟩ : ∃ b, b = w7.heap.size := ⟨_, rfl⟩
 have HF_7a : Aside0 (Held [(nb, #[.int .i64 n1, .int .i64 n2, .int .i64 n3, .int .i64 n4], 48), (ob, #[.int .u8 o0, .int .u8 o1], 62), (db, #[.int .u16 x0, .int .u16 x1], 61), (tb, #[.slice A l.length c, .int .i64 p], 24)] w7a) := ⟨by rw [← hZ, hbk]; exact HF_7.out.new _ _⟩
 have HR_7a : Aside0 (Kd.C k70 w7a A l.length l) := ⟨by rw [← hZ]; exact Kd.C_below HR_7.out ((Below.refl _ _).alloc (Nat.le_refl _) _)⟩
 have HQ_7a : Aside0 (Kd.C (Kd.int .u32) w7a A1 l1.length l1) := ⟨by rw [← hZ]; exact Kd.C_below HQ_7.out ((Below.refl _ _).alloc (Nat.le_refl _) _)⟩
 have Hn_7a : Aside0 (Kd.C (Kd.int .i64) w7a An q.length q) := ⟨by rw [← hZ]; exact Kd.C_below Hn_7.out ((Below.refl _ _).alloc (Nat.le_refl _) _)⟩
 have Ht_7a : Aside0 (Kd.C k43 w7a At (tightL l).length (tightL l)) := ⟨by rw [← hZ]; exact Kd.C_below Ht_7.out ((Below.refl _ _).alloc (Nat.le_refl _) _)⟩
 have HB_7a : Aside0 (Below w.heap.size w w7a) := ⟨by rw [← hZ]; exact HB_7.out.alloc HB_7.out.size _⟩
 rw [hZ, ← hbk]
 clear hZ hbk HF_7 HB_7 HR_7 HQ_7 Hn_7 Ht_7 w7
 refine (forecourtref01_NetError.calls k A c l p wa le e w7a HR_7a.out HC.out HM.out.err).mono ?_
 rintro e w8 ⟨rfl, hB⟩
 have HF_8 := Aside0.mk (HF_7a.out.below hB)
 have HB_8 := Aside0.mk (below_then HB_7a.out hB)
 have HR_8 := Aside0.mk (Kd.C_below HR_7a.out hB)
 have HQ_8 := Aside0.mk (Kd.C_below HQ_7a.out hB)
 have Hn_8 := Aside0.mk (Kd.C_below Hn_7a.out hB)
 have Ht_8 := Aside0.mk (Kd.C_below Ht_7a.out hB)
 clear hB HF_7a HB_7a HR_7a HQ_7a Hn_7a Ht_7a w7a
 by_cases h0 : e = 0
 rotate_left
 ·obtain rfl := HM.out.no h0
  go_wp2_with fail
  refine (forecourtlaw01_Works.calls true w8 ⟨rfl⟩ rfl).mono ?_
  rintro e wz ⟨rfl, hB⟩
  go_wp2_with fail
  go_ret
  exact ⟨rfl, below_then HB_8.out hB⟩
 subst h0
 have HO := Aside0.mk (HG.out rfl)
 have HA2 := Aside0.mk (HA.out rfl)
 replace hcase := Aside0.mk (hcase.out rfl)
 clear HG HA
 have b1 : decide (n1 < 0) = false := decide_eq_false (by have := HO.out.m1; omega)
 have b2 : decide (n2 < 1) = false := decide_eq_false (by have := HO.out.m2; omega)
 have b3 : decide (n4 < 1) = false := decide_eq_false (by have := HO.out.m4; omega)
 have hH := HF_8.out.get tb #[.slice A l.length c, .int .i64 p] 24 (by simp)
 have hltb := blk_lt hH
 have ctb0 : w8.cell? ⟨tb, 0, none⟩ = some (.slice A l.length c) := (blk_cell hH 0).trans rfl
 have ctb1 : w8.cell? ⟨tb, 1, none⟩ = some (.int .i64 p) := (blk_cell hH 1).trans rfl
 clear hH
 have hH := HF_8.out.get nb #[.int .i64 n1, .int .i64 n2, .int .i64 n3, .int .i64 n4] 48 (by simp)
 have hlnb := blk_lt hH
 have cnb0 : w8.cell? ⟨nb, 0, none⟩ = some (.int .i64 n1) := (blk_cell hH 0).trans rfl
 have cnb1 : w8.cell? ⟨nb, 1, none⟩ = some (.int .i64 n2) := (blk_cell hH 1).trans rfl
 have cnb2 : w8.cell? ⟨nb, 2, none⟩ = some (.int .i64 n3) := (blk_cell hH 2).trans rfl
 have cnb3 : w8.cell? ⟨nb, 3, none⟩ = some (.int .i64 n4) := (blk_cell hH 3).trans rfl
 clear hH
 go_wp2_with fail
 clear hlnb cnb0 cnb1 cnb2 cnb3 b1 b2 b3
 (refine start_ (n := 10) (S := fun w' => Below (World.heap _).size _ w') (ds := [8, 9]) (List.toArray (false :: false :: false :: false :: false :: false :: false :: false :: false :: false :: [])) (by kernel_rfl) rfl rfl (belowDrew _) (fun plS => ?_); refine pureY (i := 1) (N := (some 134)) ?_; refine pureY (i := 4) (N := (some 137)) ?_; refine takeF (i := 0) (N := (some 133)) (hS := plS) (hy := by (intro w' hw'; replace hw' : Below (World.heap w8).size w8 w' := hw'; have q0 := pw_cell_below hw' ctb0; have q1 := pw_cell_below hw' ctb1; exact yieldA)) (h := ?_); refine takeF (i := 3) (N := (some 136)) (hS := plS) (hy := by (intro w' hw'; replace hw' : Below (World.heap w8).size w8 w' := hw'; have q0 := pw_cell_below hw' ctb0; have q1 := pw_cell_below hw' ctb1; exact yieldA)) (h := ?_))
 obtain ⟨y0, hy0⟩ : ∃ Y, w8.drew = Y := ⟨_, rfl⟩
 have hB0 : Below w8.heap.size w8 y0 := by rw [← hy0]; exact (Below.refl _ w8).drew
 rw [hy0]
 clear hy0 plS
 refine join_ (σ := Nat × Nat) 2 (List.toArray (true :: true :: true :: true :: true :: true :: true :: true :: false :: false :: [])) (fun s => [(135, .agg #[.int .i64 t0, .int .i64 t1]), (138, .agg #[.int .i64 s0, .int .i64 s1]), (16, .pointer (some ⟨s.1, 0, none⟩)), (17, .pointer (some ⟨s.2, 0, none⟩))])
  (fun s W => Below w8.heap.size w8 W ∧ W.heap[s.1]? = some (.cells #[.int .i64 0, .int .i64 0] 43 (0, 0)) ∧ W.heap[s.2]? = some (.cells #[.int .i64 0, .int .i64 0] 43 (0, 0)) ∧ w8.heap.size ≤ s.1 ∧ w8.heap.size ≤ s.2 ∧ s.1 ≠ s.2) ?_ ?_
 rotate_left
 ·as_aux_lemma =>
  intro hJ
  (refine three_ (i := 2) (j := 6) (k := 7) (List.toArray (true :: true :: true :: true :: true :: false :: false :: false :: false :: false :: [])) (List.toArray (true :: true :: false :: true :: true :: false :: true :: false :: false :: false :: [])) (List.toArray (true :: true :: false :: true :: true :: false :: false :: true :: false :: false :: [])) rfl rfl rfl rfl rfl rfl (by kernel_rfl) (by decide) (by decide) (by decide) (fun plK plH => ?_) (fun plK plH => ?_) (fun plK plH => ?_))
  all_goals (try (rw [if_pos (by rfl)]; (first | gi_big_move | go_big_op | go_simp)))
  all_goals (first | (with_reducible refine (forecourtref01_True.calls A c l p wa t0 t1 _ (Kd.C_below HR_8.out hB0) HC.out HO.out.tw).mono ?_; rintro e y1 ⟨rfl, hx1⟩) | (with_reducible refine (forecourtref01_True.calls A c l p le s0 s1 _ (Kd.C_below HR_8.out hB0) HC.out HO.out.tl).mono ?_; rintro e y1 ⟨rfl, hx1⟩) | (obtain ⟨y1, hy⟩ : ∃ Y, World.alloc y0 (.cells #[.int .i64 0, .int .i64 0] 43) = Y := ⟨_, rfl⟩; obtain ⟨b1, hb⟩ : ∃ b, b = y0.heap.size := ⟨_, rfl⟩; have hx1 : Below (World.heap y0).size y0 y1 := (by rw [← hy]; exact below_own _ _); have hM1 : y1.heap[b1]? = some (.cells #[.int .i64 0, .int .i64 0] 43 (0, 0)) := (by rw [← hy, hb]; exact blk_new _ _); have hE1 : Hid (b1 = y0.heap.size) := Lib.hid hb; have hL1 : w8.heap.size ≤ b1 := (by rw [hb]; exact hB0.size); rw [hy, ← hb]; clear hy hb))
  all_goals have hB1 : Below w8.heap.size w8 y1 := (below_then hB0 hx1)
  all_goals (first | ((try simp only [Act.put, List.getElem_toArray, List.getElem_cons_succ, List.getElem_cons_zero, List.setIfInBounds_toArray, List.set_cons_succ, List.set_cons_zero]); refine plH _ _ hB1 (fun plS => ?_); clear plH plK; refine at_ #[true, true, true, true, true, false, false, false, false, false] rfl ?_; refine three_ (i := 5) (j := 6) (k := 7) (List.toArray (true :: true :: true :: true :: true :: true :: false :: false :: false :: false :: [])) (List.toArray (true :: true :: true :: true :: true :: false :: true :: false :: false :: false :: [])) (List.toArray (true :: true :: true :: true :: true :: false :: false :: true :: false :: false :: [])) rfl rfl rfl rfl rfl rfl (by kernel_rfl) (by decide) (by decide) (by decide) (fun plK plH => ?_) (fun plK plH => ?_) (fun plK plH => ?_)) | ((try simp only [Act.put, List.getElem_toArray, List.getElem_cons_succ, List.getElem_cons_zero, List.setIfInBounds_toArray, List.set_cons_succ, List.set_cons_zero]); refine plH _ _ hB1 (fun plS => ?_); clear plH plK; refine at_ #[true, true, false, true, true, false, true, false, false, false] rfl ?_; refine two_ (i := 2) (j := 7) (List.toArray (true :: true :: true :: true :: true :: false :: true :: false :: false :: false :: [])) (List.toArray (true :: true :: false :: true :: true :: false :: true :: true :: false :: false :: [])) rfl rfl rfl rfl (by kernel_rfl) (by decide) (by decide) (fun plK plH => ?_) (fun plK plH => ?_)) | ((try simp only [Act.put, List.getElem_toArray, List.getElem_cons_succ, List.getElem_cons_zero, List.setIfInBounds_toArray, List.set_cons_succ, List.set_cons_zero]); refine plH _ _ hB1 (fun plS => ?_); clear plH plK; refine at_ #[true, true, false, true, true, false, false, true, false, false] rfl ?_; refine two_ (i := 2) (j := 6) (List.toArray (true :: true :: true :: true :: true :: false :: false :: true :: false :: false :: [])) (List.toArray (true :: true :: false :: true :: true :: false :: true :: true :: false :: false :: [])) rfl rfl rfl rfl (by kernel_rfl) (by decide) (by decide) (fun plK plH => ?_) (fun plK plH => ?_)))
  all_goals (try (rw [if_pos (by rfl)]; (first | gi_big_move | go_big_op | go_simp)))
  all_goals (first | (with_reducible refine (forecourtref01_True.calls A c l p wa t0 t1 _ (Kd.C_below HR_8.out hB1) HC.out HO.out.tw).mono ?_; rintro e y2 ⟨rfl, hx2⟩) | (with_reducible refine (forecourtref01_True.calls A c l p le s0 s1 _ (Kd.C_below HR_8.out hB1) HC.out HO.out.tl).mono ?_; rintro e y2 ⟨rfl, hx2⟩) | (obtain ⟨y2, hy⟩ : ∃ Y, World.alloc y1 (.cells #[.int .i64 0, .int .i64 0] 43) = Y := ⟨_, rfl⟩; obtain ⟨b2, hb⟩ : ∃ b, b = y1.heap.size := ⟨_, rfl⟩; have hx2 : Below (World.heap y1).size y1 y2 := (by rw [← hy]; exact below_own _ _); have hM2 : y2.heap[b2]? = some (.cells #[.int .i64 0, .int .i64 0] 43 (0, 0)) := (by rw [← hy, hb]; exact blk_new _ _); have hE2 : Hid (b2 = y1.heap.size) := Lib.hid hb; have hL2 : w8.heap.size ≤ b2 := (by rw [hb]; exact hB1.size); rw [hy, ← hb]; clear hy hb))
  all_goals have hB2 : Below w8.heap.size w8 y2 := (below_then hB1 hx2)
  all_goals (try have hD12 : b1 ≠ b2 := (by rw [hE2.out]; exact Nat.ne_of_lt (blk_lt hM1)))
  all_goals (try replace hM1 := blk_call hx2 hM1)
  all_goals (first | ((try simp only [Act.put, List.getElem_toArray, List.getElem_cons_succ, List.getElem_cons_zero, List.setIfInBounds_toArray, List.set_cons_succ, List.set_cons_zero]); refine plH _ _ hB2 (fun plS => ?_); clear plH plK; refine at_ #[true, true, true, true, true, true, false, false, false, false] rfl ?_; refine two_ (i := 6) (j := 7) (List.toArray (true :: true :: true :: true :: true :: true :: true :: false :: false :: false :: [])) (List.toArray (true :: true :: true :: true :: true :: true :: false :: true :: false :: false :: [])) rfl rfl rfl rfl (by kernel_rfl) (by decide) (by decide) (fun plK plH => ?_) (fun plK plH => ?_)) | ((try simp only [Act.put, List.getElem_toArray, List.getElem_cons_succ, List.getElem_cons_zero, List.setIfInBounds_toArray, List.set_cons_succ, List.set_cons_zero]); refine plH _ _ hB2 (fun plS => ?_); clear plH plK; refine at_ #[true, true, true, true, true, false, true, false, false, false] rfl ?_; refine two_ (i := 5) (j := 7) (List.toArray (true :: true :: true :: true :: true :: true :: true :: false :: false :: false :: [])) (List.toArray (true :: true :: true :: true :: true :: false :: true :: true :: false :: false :: [])) rfl rfl rfl rfl (by kernel_rfl) (by decide) (by decide) (fun plK plH => ?_) (fun plK plH => ?_)) | ((try simp only [Act.put, List.getElem_toArray, List.getElem_cons_succ, List.getElem_cons_zero, List.setIfInBounds_toArray, List.set_cons_succ, List.set_cons_zero]); refine plH _ _ hB2 (fun plS => ?_); clear plH plK; refine at_ #[true, true, true, true, true, false, false, true, false, false] rfl ?_; refine two_ (i := 5) (j := 6) (List.toArray (true :: true :: true :: true :: true :: true :: false :: true :: false :: false :: [])) (List.toArray (true :: true :: true :: true :: true :: false :: true :: true :: false :: false :: [])) rfl rfl rfl rfl (by kernel_rfl) (by decide) (by decide) (fun plK plH => ?_) (fun plK plH => ?_)) | ((try simp only [Act.put, List.getElem_toArray, List.getElem_cons_succ, List.getElem_cons_zero, List.setIfInBounds_toArray, List.set_cons_succ, List.set_cons_zero]); refine plH _ _ hB2 (fun plS => ?_); clear plH plK; refine at_ #[true, true, false, true, true, false, true, true, false, false] rfl ?_; refine oneY (i := 2) (fun plK plH => ?_); rw [if_pos (by rfl)]; (first | gi_big_move | go_big_op | go_simp)))
  all_goals (try (rw [if_pos (by rfl)]; (first | gi_big_move | go_big_op | go_simp)))
  all_goals (first | (with_reducible refine (forecourtref01_True.calls A c l p wa t0 t1 _ (Kd.C_below HR_8.out hB2) HC.out HO.out.tw).mono ?_; rintro e y3 ⟨rfl, hx3⟩) | (with_reducible refine (forecourtref01_True.calls A c l p le s0 s1 _ (Kd.C_below HR_8.out hB2) HC.out HO.out.tl).mono ?_; rintro e y3 ⟨rfl, hx3⟩) | (obtain ⟨y3, hy⟩ : ∃ Y, World.alloc y2 (.cells #[.int .i64 0, .int .i64 0] 43) = Y := ⟨_, rfl⟩; obtain ⟨b3, hb⟩ : ∃ b, b = y2.heap.size := ⟨_, rfl⟩; have hx3 : Below (World.heap y2).size y2 y3 := (by rw [← hy]; exact below_own _ _); have hM3 : y3.heap[b3]? = some (.cells #[.int .i64 0, .int .i64 0] 43 (0, 0)) := (by rw [← hy, hb]; exact blk_new _ _); have hE3 : Hid (b3 = y2.heap.size) := Lib.hid hb; have hL3 : w8.heap.size ≤ b3 := (by rw [hb]; exact hB2.size); rw [hy, ← hb]; clear hy hb))
  all_goals have hB3 : Below w8.heap.size w8 y3 := (below_then hB2 hx3)
  all_goals (try have hD13 : b1 ≠ b3 := (by rw [hE3.out]; exact Nat.ne_of_lt (blk_lt hM1)))
  all_goals (try have hD23 : b2 ≠ b3 := (by rw [hE3.out]; exact Nat.ne_of_lt (blk_lt hM2)))
  all_goals (try replace hM1 := blk_call hx3 hM1)
  all_goals (try replace hM2 := blk_call hx3 hM2)
  all_goals (first | ((try simp only [Act.put, List.getElem_toArray, List.getElem_cons_succ, List.getElem_cons_zero, List.setIfInBounds_toArray, List.set_cons_succ, List.set_cons_zero]); refine plH _ _ hB3 (fun plS => ?_); clear plH plK; refine at_ #[true, true, true, true, true, true, true, false, false, false] rfl ?_; refine oneY (i := 7) (fun plK plH => ?_); rw [if_pos (by rfl)]; (first | gi_big_move | go_big_op | go_simp)) | ((try simp only [Act.put, List.getElem_toArray, List.getElem_cons_succ, List.getElem_cons_zero, List.setIfInBounds_toArray, List.set_cons_succ, List.set_cons_zero]); refine plH _ _ hB3 (fun plS => ?_); clear plH plK; refine at_ #[true, true, true, true, true, true, false, true, false, false] rfl ?_; refine oneY (i := 6) (fun plK plH => ?_); rw [if_pos (by rfl)]; (first | gi_big_move | go_big_op | go_simp)) | ((try simp only [Act.put, List.getElem_toArray, List.getElem_cons_succ, List.getElem_cons_zero, List.setIfInBounds_toArray, List.set_cons_succ, List.set_cons_zero]); refine plH _ _ hB3 (fun plS => ?_); clear plH plK; refine at_ #[true, true, true, true, true, false, true, true, false, false] rfl ?_; refine oneY (i := 5) (fun plK plH => ?_); rw [if_pos (by rfl)]; (first | gi_big_move | go_big_op | go_simp)))
  all_goals (try (rw [if_pos (by rfl)]; (first | gi_big_move | go_big_op | go_simp)))
  all_goals (first | (with_reducible refine (forecourtref01_True.calls A c l p wa t0 t1 _ (Kd.C_below HR_8.out hB3) HC.out HO.out.tw).mono ?_; rintro e y4 ⟨rfl, hx4⟩) | (with_reducible refine (forecourtref01_True.calls A c l p le s0 s1 _ (Kd.C_below HR_8.out hB3) HC.out HO.out.tl).mono ?_; rintro e y4 ⟨rfl, hx4⟩) | (obtain ⟨y4, hy⟩ : ∃ Y, World.alloc y3 (.cells #[.int .i64 0, .int .i64 0] 43) = Y := ⟨_, rfl⟩; obtain ⟨b4, hb⟩ : ∃ b, b = y3.heap.size := ⟨_, rfl⟩; have hx4 : Below (World.heap y3).size y3 y4 := (by rw [← hy]; exact below_own _ _); have hM4 : y4.heap[b4]? = some (.cells #[.int .i64 0, .int .i64 0] 43 (0, 0)) := (by rw [← hy, hb]; exact blk_new _ _); have hE4 : Hid (b4 = y3.heap.size) := Lib.hid hb; have hL4 : w8.heap.size ≤ b4 := (by rw [hb]; exact hB3.size); rw [hy, ← hb]; clear hy hb))
  all_goals have hB4 : Below w8.heap.size w8 y4 := (below_then hB3 hx4)
  all_goals (try have hD14 : b1 ≠ b4 := (by rw [hE4.out]; exact Nat.ne_of_lt (blk_lt hM1)))
  all_goals (try have hD24 : b2 ≠ b4 := (by rw [hE4.out]; exact Nat.ne_of_lt (blk_lt hM2)))
  all_goals (try have hD34 : b3 ≠ b4 := (by rw [hE4.out]; exact Nat.ne_of_lt (blk_lt hM3)))
  all_goals (try replace hM1 := blk_call hx4 hM1)
  all_goals (try replace hM2 := blk_call hx4 hM2)
  all_goals (try replace hM3 := blk_call hx4 hM3)
  all_goals (refine plH _ _ hB4 (fun plS => ?_); clear plH plK plS; (try simp only [Act.put, List.getElem_toArray, List.getElem_cons_succ, List.getElem_cons_zero, List.setIfInBounds_toArray, List.set_cons_succ, List.set_cons_zero]); first | exact hJ (b1, b2) y4 ⟨hB4, hM1, hM2, hL1, hL2, hD12⟩ | exact hJ (b1, b3) y4 ⟨hB4, hM1, hM3, hL1, hL3, hD13⟩ | exact hJ (b1, b4) y4 ⟨hB4, hM1, hM4, hL1, hL4, hD14⟩ | exact hJ (b2, b1) y4 ⟨hB4, hM2, hM1, hL2, hL1, hD12.symm⟩ | exact hJ (b2, b3) y4 ⟨hB4, hM2, hM3, hL2, hL3, hD23⟩ | exact hJ (b2, b4) y4 ⟨hB4, hM2, hM4, hL2, hL4, hD24⟩ | exact hJ (b3, b1) y4 ⟨hB4, hM3, hM1, hL3, hL1, hD13.symm⟩ | exact hJ (b3, b2) y4 ⟨hB4, hM3, hM2, hL3, hL2, hD23.symm⟩ | exact hJ (b3, b4) y4 ⟨hB4, hM3, hM4, hL3, hL4, hD34⟩ | exact hJ (b4, b1) y4 ⟨hB4, hM4, hM1, hL4, hL1, hD14.symm⟩ | exact hJ (b4, b2) y4 ⟨hB4, hM4, hM2, hL4, hL2, hD24.symm⟩ | exact hJ (b4, b3) y4 ⟨hB4, hM4, hM3, hL4, hL3, hD34.symm⟩)
 rintro ⟨g, g'⟩ W ⟨hBW, hG1, hG2, hL1, hL2, hne⟩
 refine norm_ (a' := ?_) qe24 ?_
 simp only at hG1 hG2 hL1 hL2 hne
 have x0 := blk_cell hG1 0
 have x1 := blk_cell hG1 1
 have xf0 := blk_frozen hG1 0
 have xf1 := blk_frozen hG1 1
 have hlt1 := blk_lt hG1
 (refine lastY (i := 8) (fun plK plH => ?_); rw [if_pos (by rfl)]; (first | gi_big_move | go_big_op | go_simp))
 obtain ⟨W2, hW2⟩ : ∃ Z, ((W.setCell ⟨g, 0, none⟩ (.int .i64 t0)).setCell ⟨g, 1, none⟩ (.int .i64 t1)) = Z := ⟨_, rfl⟩
 have hB2 : Below w8.heap.size w8 W2 := by rw [← hW2]; exact put2_below _ _ hBW hL1
 have hA1 : W2.heap[g]? = some (.cells #[.int .i64 t0, .int .i64 t1] 43 (0, 0)) := by rw [← hW2]; exact put2 _ _ hG1
 have hA2 : W2.heap[g']? = some (.cells #[.int .i64 0, .int .i64 0] 43 (0, 0)) := by rw [← hW2]; exact (Below.heap_setCell _ _ _ _ hne.symm).trans ((Below.heap_setCell _ _ _ _ hne.symm).trans hG2)
 rw [hW2]
 clear hW2 x0 x1 xf0 xf1 hlt1 hG1 hG2 hBW
 have x0 := blk_cell hA2 0
 have x1 := blk_cell hA2 1
 have xf0 := blk_frozen hA2 0
 have xf1 := blk_frozen hA2 1
 have hlt1 := blk_lt hA2
 ((try simp only [Act.put, List.getElem_toArray, List.getElem_cons_succ, List.getElem_cons_zero, List.setIfInBounds_toArray, List.set_cons_succ, List.set_cons_zero]); refine plH _ _ ?_; clear plH plK; refine lastY (i := 9) (fun plK plH => ?_); rw [if_pos (by rfl)]; (first | gi_big_move | go_big_op | go_simp))
 obtain ⟨w9, hW3⟩ : ∃ Z, ((W2.setCell ⟨g', 0, none⟩ (.int .i64 s0)).setCell ⟨g', 1, none⟩ (.int .i64 s1)) = Z := ⟨_, rfl⟩
 have hB : Below w8.heap.size w8 w9 := by rw [← hW3]; exact put2_below _ _ hB2 hL2
 have hC1 : w9.heap[g]? = some (.cells #[.int .i64 t0, .int .i64 t1] 43 (0, 0)) := by rw [← hW3]; exact (Below.heap_setCell _ _ _ _ hne).trans ((Below.heap_setCell _ _ _ _ hne).trans hA1)
 have hC2 : w9.heap[g']? = some (.cells #[.int .i64 s0, .int .i64 s1] 43 (0, 0)) := by rw [← hW3]; exact put2 _ _ hA2
 rw [hW3]
 clear hW3 x0 x1 xf0 xf1 hlt1 hA1 hA2 hB2
 ((try simp only [Act.put, List.getElem_toArray, List.getElem_cons_succ, List.getElem_cons_zero, List.setIfInBounds_toArray, List.set_cons_succ, List.set_cons_zero]); refine plH _ _ ?_; clear plH plK; refine done_ (by kernel_rfl) ?_)
 have HF_9 : Aside0 (Held [(g', #[.int .i64 s0, .int .i64 s1], 43), (g, #[.int .i64 t0, .int .i64 t1], 43), (nb, #[.int .i64 n1, .int .i64 n2, .int .i64 n3, .int .i64 n4], 48), (ob, #[.int .u8 o0, .int .u8 o1], 62), (db, #[.int .u16 x0, .int .u16 x1], 61), (tb, #[.slice A l.length c, .int .i64 p], 24)] w9) := ⟨Held.cons hC2 (Held.cons hC1 (HF_8.out.below hB))⟩
 have HB_9 := Aside0.mk (below_then HB_8.out hB)
 have HR_9 := Aside0.mk (Kd.C_below HR_8.out hB)
 have HQ_9 := Aside0.mk (Kd.C_below HQ_8.out hB)
 have Hn_9 := Aside0.mk (Kd.C_below Hn_8.out hB)
 have Ht_9 := Aside0.mk (Kd.C_below Ht_8.out hB)
 clear hltb ctb0 ctb1 hC1 hC2 hB plS
 obtain ⟨g1, g2, k9, g3, g4, g5, g6, k11, g7, g8, j1, j2, j3, j4⟩ := HA2.out
 have hH := HF_9.out.get g #[.int .i64 t0, .int .i64 t1] 43 (by simp)
 have hlg := blk_lt hH
 have cg0 : w9.cell? ⟨g, 0, none⟩ = some (.int .i64 t0) := (blk_cell hH 0).trans rfl
 have cg1 : w9.cell? ⟨g, 1, none⟩ = some (.int .i64 t1) := (blk_cell hH 1).trans rfl
 clear hH
 have hH := HF_9.out.get g' #[.int .i64 s0, .int .i64 s1] 43 (by simp)
 have hlg' := blk_lt hH
 have cg'0 : w9.cell? ⟨g', 0, none⟩ = some (.int .i64 s0) := (blk_cell hH 0).trans rfl
 have cg'1 : w9.cell? ⟨g', 1, none⟩ = some (.int .i64 s1) := (blk_cell hH 1).trans rfl
 clear hH
 have hH := HF_9.out.get ob #[.int .u8 o0, .int .u8 o1] 62 (by simp)
 have hlob := blk_lt hH
 have cob0 : w9.cell? ⟨ob, 0, none⟩ = some (.int .u8 o0) := (blk_cell hH 0).trans rfl
 have cob1 : w9.cell? ⟨ob, 1, none⟩ = some (.int .u8 o1) := (blk_cell hH 1).trans rfl
 clear hH
 go_wp2_with fail
 (refine start_ (n := 28) (S := fun w' => Below (World.heap _).size _ w') (ds := []) (List.toArray (false :: false :: false :: false :: false :: false :: false :: false :: false :: false :: false :: false :: false :: false :: false :: false :: false :: false :: false :: false :: false :: false :: false :: false :: false :: false :: false :: false :: [])) (by kernel_rfl) rfl rfl (belowDrew _) (fun plS => ?_); refine pureY (i := 0) (N := (some 139)) ?_; refine pureY (i := 2) (N := (some 141)) ?_; refine pureY (i := 5) (N := (some 144)) ?_; refine pureY (i := 7) (N := (some 146)) ?_; refine pureY (i := 13) (N := (some 152)) ?_; refine pureY (i := 15) (N := (some 154)) ?_; refine pureY (i := 18) (N := (some 157)) ?_; refine pureY (i := 20) (N := (some 159)) ?_; refine takeF (i := 1) (N := (some 140)) (hS := plS) (hy := by (intro w' hw'; replace hw' : Below (World.heap w9).size w9 w' := hw'; have q0 := pw_cell_below hw' cg0; have q1 := pw_cell_below hw' cg1; have q2 := pw_cell_below hw' cg'0; have q3 := pw_cell_below hw' cg'1; have q4 := pw_cell_below hw' cob0; have q5 := pw_cell_below hw' cob1; exact yieldA)) (h := ?_); refine takeF (i := 3) (N := (some 142)) (hS := plS) (hy := by (intro w' hw'; replace hw' : Below (World.heap w9).size w9 w' := hw'; have q0 := pw_cell_below hw' cg0; have q1 := pw_cell_below hw' cg1; have q2 := pw_cell_below hw' cg'0; have q3 := pw_cell_below hw' cg'1; have q4 := pw_cell_below hw' cob0; have q5 := pw_cell_below hw' cob1; exact yieldA)) (h := ?_); refine pureY (i := 4) (N := (some 143)) ?_; refine takeF (i := 6) (N := (some 145)) (hS := plS) (hy := by (intro w' hw'; replace hw' : Below (World.heap w9).size w9 w' := hw'; have q0 := pw_cell_below hw' cg0; have q1 := pw_cell_below hw' cg1; have q2 := pw_cell_below hw' cg'0; have q3 := pw_cell_below hw' cg'1; have q4 := pw_cell_below hw' cob0; have q5 := pw_cell_below hw' cob1; exact yieldA)) (h := ?_); refine takeF (i := 8) (N := (some 147)) (hS := plS) (hy := by (intro w' hw'; replace hw' : Below (World.heap w9).size w9 w' := hw'; have q0 := pw_cell_below hw' cg0; have q1 := pw_cell_below hw' cg1; have q2 := pw_cell_below hw' cg'0; have q3 := pw_cell_below hw' cg'1; have q4 := pw_cell_below hw' cob0; have q5 := pw_cell_below hw' cob1; exact yieldA)) (h := ?_); refine pureY (i := 9) (N := (some 148)) ?_; refine pureY (i := 10) (N := (some 149)) ?_; refine pureY (i := 11) (N := (some 150)) ?_; refine pureY (i := 12) (N := (some 151)) ?_; refine pureY (i := 26) (N := (some 18)) ?_; refine takeF (i := 14) (N := (some 153)) (hS := plS) (hy := by (intro w' hw'; replace hw' : Below (World.heap w9).size w9 w' := hw'; have q0 := pw_cell_below hw' cg0; have q1 := pw_cell_below hw' cg1; have q2 := pw_cell_below hw' cg'0; have q3 := pw_cell_below hw' cg'1; have q4 := pw_cell_below hw' cob0; have q5 := pw_cell_below hw' cob1; exact yieldA)) (h := ?_); refine takeF (i := 16) (N := (some 155)) (hS := plS) (hy := by (intro w' hw'; replace hw' : Below (World.heap w9).size w9 w' := hw'; have q0 := pw_cell_below hw' cg0; have q1 := pw_cell_below hw' cg1; have q2 := pw_cell_below hw' cg'0; have q3 := pw_cell_below hw' cg'1; have q4 := pw_cell_below hw' cob0; have q5 := pw_cell_below hw' cob1; exact yieldA)) (h := ?_); refine pureY (i := 17) (N := (some 156)) ?_; refine takeF (i := 19) (N := (some 158)) (hS := plS) (hy := by (intro w' hw'; replace hw' : Below (World.heap w9).size w9 w' := hw'; have q0 := pw_cell_below hw' cg0; have q1 := pw_cell_below hw' cg1; have q2 := pw_cell_below hw' cg'0; have q3 := pw_cell_below hw' cg'1; have q4 := pw_cell_below hw' cob0; have q5 := pw_cell_below hw' cob1; exact yieldA)) (h := ?_); refine takeF (i := 21) (N := (some 160)) (hS := plS) (hy := by (intro w' hw'; replace hw' : Below (World.heap w9).size w9 w' := hw'; have q0 := pw_cell_below hw' cg0; have q1 := pw_cell_below hw' cg1; have q2 := pw_cell_below hw' cg'0; have q3 := pw_cell_below hw' cg'1; have q4 := pw_cell_below hw' cob0; have q5 := pw_cell_below hw' cob1; exact yieldA)) (h := ?_); refine pureY (i := 22) (N := (some 161)) ?_; refine pureY (i := 23) (N := (some 162)) ?_; refine pureY (i := 24) (N := (some 163)) ?_; refine pureY (i := 25) (N := (some 164)) ?_; refine pureY (i := 27) (N := (some 19)) ?_; refine done_ (by kernel_rfl) ?_)
 clear plS g1 g2 k9 g3 g4 g5 g6 k11 g7 g8 j1 j2 j3 j4 HA2 hlg cg0 cg1 hlg' cg'0 cg'1 hlob cob0 cob1
 obtain ⟨w10, hZ⟩ : ∃ Z, w9.drew = Z := ⟨_, rfl⟩
 have hB : Below w9.heap.size w9 w10 := by rw [← hZ]; exact (Below.refl _ _).drew
 rw [hZ]
 have HF_10 := Aside0.mk (HF_9.out.below hB)
 have HB_10 := Aside0.mk (below_then HB_9.out hB)
 have HR_10 := Aside0.mk (Kd.C_below HR_9.out hB)
 have HQ_10 := Aside0.mk (Kd.C_below HQ_9.out hB)
 have Hn_10 := Aside0.mk (Kd.C_below Hn_9.out hB)
 have Ht_10 := Aside0.mk (Kd.C_below Ht_9.out hB)
 clear hZ hB HF_9 HB_9 HR_9 HQ_9 Hn_9 Ht_9 w9
 have hab := hcase.out
 have hb1 : decide (a ≤ b) = false := decide_eq_false (by omega)
 go_wp2_with fail
 go_loopw [21] (fun v21 w' => ∃ i : Nat, i ≤ 2 ∧ v21 = .int .i64 i ∧ Below w10.heap.size w10 w') (fun v21 _ => 2 - (RowKit.intOf v21).toNat)
 case atStart => exact ⟨0, Nat.zero_le _, rfl, Below.refl _ _⟩
 case round =>
 obtain ⟨i, hi, rfl, hBi⟩ := hrel
 obtain ⟨w11, hZ⟩ : ∃ Z, wr = Z := ⟨_, rfl⟩
 have hB := hBi
 rw [hZ] at hB
 rw [hZ]
 have HF_11 := Aside0.mk (HF_10.out.below hB)
 have HB_11 := Aside0.mk (below_then HB_10.out hB)
 have HR_11 := Aside0.mk (Kd.C_below HR_10.out hB)
 have HQ_11 := Aside0.mk (Kd.C_below HQ_10.out hB)
 have Hn_11 := Aside0.mk (Kd.C_below Hn_10.out hB)
 have Ht_11 := Aside0.mk (Kd.C_below Ht_10.out hB)
 have HBi := Aside0.mk hB
 clear hZ hB
 have HJ_11 : Aside0 (Below w11.heap.size w11 w11) := ⟨Below.refl _ _⟩
 rcases (show i = 0 ∨ i = 1 ∨ i = 2 by omega) with rfl | rfl | rfl
 ·as_aux_lemma =>
  have hH := HF_11.out.get nb #[.int .i64 n1, .int .i64 n2, .int .i64 n3, .int .i64 n4] 48 (by simp)
  have hlnb := blk_lt hH
  have cnb0 : w11.cell? ⟨nb, 0, none⟩ = some (.int .i64 n1) := (blk_cell hH 0).trans rfl
  have cnb1 : w11.cell? ⟨nb, 1, none⟩ = some (.int .i64 n2) := (blk_cell hH 1).trans rfl
  have cnb2 : w11.cell? ⟨nb, 2, none⟩ = some (.int .i64 n3) := (blk_cell hH 2).trans rfl
  have cnb3 : w11.cell? ⟨nb, 3, none⟩ = some (.int .i64 n4) := (blk_cell hH 3).trans rfl
  clear hH
  have hH := HF_11.out.get tb #[.slice A l.length c, .int .i64 p] 24 (by simp)
  have hltb := blk_lt hH
  have ctb0 : w11.cell? ⟨tb, 0, none⟩ = some (.slice A l.length c) := (blk_cell hH 0).trans rfl
  have ctb1 : w11.cell? ⟨tb, 1, none⟩ = some (.int .i64 p) := (blk_cell hH 1).trans rfl
  clear hH
  go_wp2_with fail
  clear hlnb cnb0 cnb1 cnb2 cnb3 hltb ctb0 ctb1
  obtain ⟨w11a, hZ⟩ : ∃ Z, w11.alloc (.cells #[.int .i64 n1, .int .i64 n2] 39) = Z := ⟨_, rfl⟩
  obtain ⟨wb, hbk⟩ : ∃ b, b = w11.heap.size := ⟨_, rfl⟩
  have HF_11a : Aside0 (Held [(wb, #[.int .i64 n1, .int .i64 n2], 39), (g', #[.int .i64 s0, .int .i64 s1], 43), (g, #[.int .i64 t0, .int .i64 t1], 43), (nb, #[.int .i64 n1, .int .i64 n2, .int .i64 n3, .int .i64 n4], 48), (ob, #[.int .u8 o0, .int .u8 o1], 62), (db, #[.int .u16 x0, .int .u16 x1], 61), (tb, #[.slice A l.length c, .int .i64 p], 24)] w11a) := ⟨by rw [← hZ, hbk]; exact HF_11.out.new _ _⟩
  have HR_11a : Aside0 (Kd.C k70 w11a A l.length l) := ⟨by rw [← hZ]; exact Kd.C_below HR_11.out ((Below.refl _ _).alloc (Nat.le_refl _) _)⟩
  have HQ_11a : Aside0 (Kd.C (Kd.int .u32) w11a A1 l1.length l1) := ⟨by rw [← hZ]; exact Kd.C_below HQ_11.out ((Below.refl _ _).alloc (Nat.le_refl _) _)⟩
  have Hn_11a : Aside0 (Kd.C (Kd.int .i64) w11a An q.length q) := ⟨by rw [← hZ]; exact Kd.C_below Hn_11.out ((Below.refl _ _).alloc (Nat.le_refl _) _)⟩
  have Ht_11a : Aside0 (Kd.C k43 w11a At (tightL l).length (tightL l)) := ⟨by rw [← hZ]; exact Kd.C_below Ht_11.out ((Below.refl _ _).alloc (Nat.le_refl _) _)⟩
  have HJ_11a : Aside0 (Below w11.heap.size w11 w11a) := ⟨by rw [← hZ]; exact HJ_11.out.alloc HJ_11.out.size _⟩
  have HB_11a : Aside0 (Below w.heap.size w w11a) := ⟨by rw [← hZ]; exact HB_11.out.alloc HB_11.out.size _⟩
  rw [hZ, ← hbk]
  clear hZ hbk HF_11 HB_11 HR_11 HQ_11 Hn_11 Ht_11 HJ_11 
  refine (chart_End.calls A c l p wa le false xF dF eF 0 w11a HR_11a.out HC.out HO.out.low.fin).mono ?_
  rintro e w12 ⟨v, rfl, Hx, hB⟩
  obtain ⟨Ax, cx, rfl, Hxl, Hxr⟩ := Kd.R_reads Hx
  have Hx_L := Lib.hid Hxl
  have Hx_12 := Aside0.mk Hxr
  clear Hx Hxl Hxr
  have HF_12 := Aside0.mk (HF_11a.out.below hB)
  have HB_12 := Aside0.mk (below_then HB_11a.out hB)
  have HR_12 := Aside0.mk (Kd.C_below HR_11a.out hB)
  have HQ_12 := Aside0.mk (Kd.C_below HQ_11a.out hB)
  have Hn_12 := Aside0.mk (Kd.C_below Hn_11a.out hB)
  have Ht_12 := Aside0.mk (Kd.C_below Ht_11a.out hB)
  have HJ_12 := Aside0.mk (below_then HJ_11a.out hB)
  clear hB HF_11a HB_11a HR_11a HQ_11a Hn_11a Ht_11a HJ_11a w11a
  have hH := HF_12.out.get tb #[.slice A l.length c, .int .i64 p] 24 (by simp)
  have hltb := blk_lt hH
  have ctb0 : w12.cell? ⟨tb, 0, none⟩ = some (.slice A l.length c) := (blk_cell hH 0).trans rfl
  have ctb1 : w12.cell? ⟨tb, 1, none⟩ = some (.int .i64 p) := (blk_cell hH 1).trans rfl
  clear hH
  have hH := HF_12.out.get wb #[.int .i64 n1, .int .i64 n2] 39 (by simp)
  have hlwb := blk_lt hH
  have cwb0 : w12.cell? ⟨wb, 0, none⟩ = some (.int .i64 n1) := (blk_cell hH 0).trans rfl
  have cwb1 : w12.cell? ⟨wb, 1, none⟩ = some (.int .i64 n2) := (blk_cell hH 1).trans rfl
  clear hH
  go_wp2_with fail
  clear hltb ctb0 ctb1 hlwb cwb0 cwb1
  obtain ⟨w12a, hZ⟩ : ∃ Z, w12.alloc (.cells #[.int .i64 dF, .int .i64 eF] 51) = Z := ⟨_, rfl⟩
  obtain ⟨xb, hbk⟩ : ∃ b, b = w12.heap.size := ⟨_, rfl⟩
  have HF_12a : Aside0 (Held [(xb, #[.int .i64 dF, .int .i64 eF], 51), (wb, #[.int .i64 n1, .int .i64 n2], 39), (g', #[.int .i64 s0, .int .i64 s1], 43), (g, #[.int .i64 t0, .int .i64 t1], 43), (nb, #[.int .i64 n1, .int .i64 n2, .int .i64 n3, .int .i64 n4], 48), (ob, #[.int .u8 o0, .int .u8 o1], 62), (db, #[.int .u16 x0, .int .u16 x1], 61), (tb, #[.slice A l.length c, .int .i64 p], 24)] w12a) := ⟨by rw [← hZ, hbk]; exact HF_12.out.new _ _⟩
  have HR_12a : Aside0 (Kd.C k70 w12a A l.length l) := ⟨by rw [← hZ]; exact Kd.C_below HR_12.out ((Below.refl _ _).alloc (Nat.le_refl _) _)⟩
  have HQ_12a : Aside0 (Kd.C (Kd.int .u32) w12a A1 l1.length l1) := ⟨by rw [← hZ]; exact Kd.C_below HQ_12.out ((Below.refl _ _).alloc (Nat.le_refl _) _)⟩
  have Hn_12a : Aside0 (Kd.C (Kd.int .i64) w12a An q.length q) := ⟨by rw [← hZ]; exact Kd.C_below Hn_12.out ((Below.refl _ _).alloc (Nat.le_refl _) _)⟩
  have Ht_12a : Aside0 (Kd.C k43 w12a At (tightL l).length (tightL l)) := ⟨by rw [← hZ]; exact Kd.C_below Ht_12.out ((Below.refl _ _).alloc (Nat.le_refl _) _)⟩
  have HJ_12a : Aside0 (Below w11.heap.size w11 w12a) := ⟨by rw [← hZ]; exact HJ_12.out.alloc HJ_12.out.size _⟩
  have Hx_12a : Aside0 (Kd.C (Kd.int .i64) w12a Ax xF.length xF) := ⟨by rw [← hZ]; exact Kd.C_below Hx_12.out ((Below.refl _ _).alloc (Nat.le_refl _) _)⟩
  have HB_12a : Aside0 (Below w.heap.size w w12a) := ⟨by rw [← hZ]; exact HB_12.out.alloc HB_12.out.size _⟩
  rw [hZ, ← hbk]
  clear hZ hbk HF_12 HB_12 HR_12 HQ_12 Hn_12 Ht_12 HJ_12 Hx_12 w12
  refine (chart_CheckChart.calls k A c l p Ax cx xF 0 w12a HR_12a.out HC.out Hx_12a.out Hx_L.out HO.out.low.check).mono ?_
  rintro e w13 ⟨rfl, hB⟩
  have HF_13 := Aside0.mk (HF_12a.out.below hB)
  have HB_13 := Aside0.mk (below_then HB_12a.out hB)
  have HR_13 := Aside0.mk (Kd.C_below HR_12a.out hB)
  have HQ_13 := Aside0.mk (Kd.C_below HQ_12a.out hB)
  have Hn_13 := Aside0.mk (Kd.C_below Hn_12a.out hB)
  have Ht_13 := Aside0.mk (Kd.C_below Ht_12a.out hB)
  have HJ_13 := Aside0.mk (below_then HJ_12a.out hB)
  have Hx_13 := Aside0.mk (Kd.C_below Hx_12a.out hB)
  clear hB HF_12a HB_12a HR_12a HQ_12a Hn_12a Ht_12a HJ_12a Hx_12a w12a
  have hH := HF_13.out.get tb #[.slice A l.length c, .int .i64 p] 24 (by simp)
  have hltb := blk_lt hH
  have ctb0 : w13.cell? ⟨tb, 0, none⟩ = some (.slice A l.length c) := (blk_cell hH 0).trans rfl
  have ctb1 : w13.cell? ⟨tb, 1, none⟩ = some (.int .i64 p) := (blk_cell hH 1).trans rfl
  clear hH
  have hH := HF_13.out.get wb #[.int .i64 n1, .int .i64 n2] 39 (by simp)
  have hlwb := blk_lt hH
  have cwb0 : w13.cell? ⟨wb, 0, none⟩ = some (.int .i64 n1) := (blk_cell hH 0).trans rfl
  have cwb1 : w13.cell? ⟨wb, 1, none⟩ = some (.int .i64 n2) := (blk_cell hH 1).trans rfl
  clear hH
  have hH := HF_13.out.get xb #[.int .i64 dF, .int .i64 eF] 51 (by simp)
  have hlxb := blk_lt hH
  have cxb0 : w13.cell? ⟨xb, 0, none⟩ = some (.int .i64 dF) := (blk_cell hH 0).trans rfl
  have cxb1 : w13.cell? ⟨xb, 1, none⟩ = some (.int .i64 eF) := (blk_cell hH 1).trans rfl
  clear hH
  go_wp2_with fail
  clear hltb ctb0 ctb1 hlwb cwb0 cwb1 hlxb cxb0 cxb1
  refine (forecourtlaw01_reached.calls k A c l p wa le Ax cx xF dF eF n1 n2 true w13 HR_13.out HC.out Hx_13.out Hx_L.out ⟨rfl⟩ HO.out.low.reached).mono ?_
  rintro e w14 ⟨rfl, hB⟩
  have HF_14 := Aside0.mk (HF_13.out.below hB)
  have HB_14 := Aside0.mk (below_then HB_13.out hB)
  have HR_14 := Aside0.mk (Kd.C_below HR_13.out hB)
  have HQ_14 := Aside0.mk (Kd.C_below HQ_13.out hB)
  have Hn_14 := Aside0.mk (Kd.C_below Hn_13.out hB)
  have Ht_14 := Aside0.mk (Kd.C_below Ht_13.out hB)
  have HJ_14 := Aside0.mk (below_then HJ_13.out hB)
  have Hx_14 := Aside0.mk (Kd.C_below Hx_13.out hB)
  clear hB HF_13 HB_13 HR_13 HQ_13 Hn_13 Ht_13 HJ_13 Hx_13 w13
  have hH := HF_14.out.get tb #[.slice A l.length c, .int .i64 p] 24 (by simp)
  have hltb := blk_lt hH
  have ctb0 : w14.cell? ⟨tb, 0, none⟩ = some (.slice A l.length c) := (blk_cell hH 0).trans rfl
  have ctb1 : w14.cell? ⟨tb, 1, none⟩ = some (.int .i64 p) := (blk_cell hH 1).trans rfl
  clear hH
  have hH := HF_14.out.get xb #[.int .i64 dF, .int .i64 eF] 51 (by simp)
  have hlxb := blk_lt hH
  have cxb0 : w14.cell? ⟨xb, 0, none⟩ = some (.int .i64 dF) := (blk_cell hH 0).trans rfl
  have cxb1 : w14.cell? ⟨xb, 1, none⟩ = some (.int .i64 eF) := (blk_cell hH 1).trans rfl
  clear hH
  go_wp2_with fail
  clear hltb ctb0 ctb1 hlxb cxb0 cxb1
  refine (chart_Below.calls A c l p Ax cx xF dF u1F u2F 0 w14 HR_14.out HC.out Hx_14.out Hx_L.out HO.out.low.b0).mono ?_
  rintro e w15 ⟨rfl, hB⟩
  have HF_15 := Aside0.mk (HF_14.out.below hB)
  have HB_15 := Aside0.mk (below_then HB_14.out hB)
  have HR_15 := Aside0.mk (Kd.C_below HR_14.out hB)
  have HQ_15 := Aside0.mk (Kd.C_below HQ_14.out hB)
  have Hn_15 := Aside0.mk (Kd.C_below Hn_14.out hB)
  have Ht_15 := Aside0.mk (Kd.C_below Ht_14.out hB)
  have HJ_15 := Aside0.mk (below_then HJ_14.out hB)
  have Hx_15 := Aside0.mk (Kd.C_below Hx_14.out hB)
  clear hB HF_14 HB_14 HR_14 HQ_14 Hn_14 Ht_14 HJ_14 Hx_14 w14
  have hH := HF_15.out.get tb #[.slice A l.length c, .int .i64 p] 24 (by simp)
  have hltb := blk_lt hH
  have ctb0 : w15.cell? ⟨tb, 0, none⟩ = some (.slice A l.length c) := (blk_cell hH 0).trans rfl
  have ctb1 : w15.cell? ⟨tb, 1, none⟩ = some (.int .i64 p) := (blk_cell hH 1).trans rfl
  clear hH
  have hH := HF_15.out.get xb #[.int .i64 dF, .int .i64 eF] 51 (by simp)
  have hlxb := blk_lt hH
  have cxb0 : w15.cell? ⟨xb, 0, none⟩ = some (.int .i64 dF) := (blk_cell hH 0).trans rfl
  have cxb1 : w15.cell? ⟨xb, 1, none⟩ = some (.int .i64 eF) := (blk_cell hH 1).trans rfl
  clear hH
  go_wp2_with fail
  clear hltb ctb0 ctb1 hlxb cxb0 cxb1
  obtain ⟨w15a, hZ⟩ : ∃ Z, w15.alloc (.cells #[.int .i64 u1F, .int .i64 u2F] 39) = Z := ⟨_, rfl⟩
  obtain ⟨ub, hbk⟩ : ∃ b, b = w15.heap.size := ⟨_, rfl⟩
  have HF_15a : Aside0 (Held [(ub, #[.int .i64 u1F, .int .i64 u2F], 39), (xb, #[.int .i64 dF, .int .i64 eF], 51), (wb, #[.int .i64 n1, .int .i64 n2], 39), (g', #[.int .i64 s0, .int .i64 s1], 43), (g, #[.int .i64 t0, .int .i64 t1], 43), (nb, #[.int .i64 n1, .int .i64 n2, .int .i64 n3, .int .i64 n4], 48), (ob, #[.int .u8 o0, .int .u8 o1], 62), (db, #[.int .u16 x0, .int .u16 x1], 61), (tb, #[.slice A l.length c, .int .i64 p], 24)] w15a) := ⟨by rw [← hZ, hbk]; exact HF_15.out.new _ _⟩
  have HR_15a : Aside0 (Kd.C k70 w15a A l.length l) := ⟨by rw [← hZ]; exact Kd.C_below HR_15.out ((Below.refl _ _).alloc (Nat.le_refl _) _)⟩
  have HQ_15a : Aside0 (Kd.C (Kd.int .u32) w15a A1 l1.length l1) := ⟨by rw [← hZ]; exact Kd.C_below HQ_15.out ((Below.refl _ _).alloc (Nat.le_refl _) _)⟩
  have Hn_15a : Aside0 (Kd.C (Kd.int .i64) w15a An q.length q) := ⟨by rw [← hZ]; exact Kd.C_below Hn_15.out ((Below.refl _ _).alloc (Nat.le_refl _) _)⟩
  have Ht_15a : Aside0 (Kd.C k43 w15a At (tightL l).length (tightL l)) := ⟨by rw [← hZ]; exact Kd.C_below Ht_15.out ((Below.refl _ _).alloc (Nat.le_refl _) _)⟩
  have HJ_15a : Aside0 (Below w11.heap.size w11 w15a) := ⟨by rw [← hZ]; exact HJ_15.out.alloc HJ_15.out.size _⟩
  have Hx_15a : Aside0 (Kd.C (Kd.int .i64) w15a Ax xF.length xF) := ⟨by rw [← hZ]; exact Kd.C_below Hx_15.out ((Below.refl _ _).alloc (Nat.le_refl _) _)⟩
  have HB_15a : Aside0 (Below w.heap.size w w15a) := ⟨by rw [← hZ]; exact HB_15.out.alloc HB_15.out.size _⟩
  rw [hZ, ← hbk]
  clear hZ hbk HF_15 HB_15 HR_15 HQ_15 Hn_15 Ht_15 HJ_15 Hx_15 w15
  refine (chart_Below.calls A c l p Ax cx xF eF v1F v2F 0 w15a HR_15a.out HC.out Hx_15a.out Hx_L.out HO.out.low.b1).mono ?_
  rintro e w16 ⟨rfl, hB⟩
  have HF_16 := Aside0.mk (HF_15a.out.below hB)
  have HB_16 := Aside0.mk (below_then HB_15a.out hB)
  have HR_16 := Aside0.mk (Kd.C_below HR_15a.out hB)
  have HQ_16 := Aside0.mk (Kd.C_below HQ_15a.out hB)
  have Hn_16 := Aside0.mk (Kd.C_below Hn_15a.out hB)
  have Ht_16 := Aside0.mk (Kd.C_below Ht_15a.out hB)
  have HJ_16 := Aside0.mk (below_then HJ_15a.out hB)
  have Hx_16 := Aside0.mk (Kd.C_below Hx_15a.out hB)
  clear hB HF_15a HB_15a HR_15a HQ_15a Hn_15a Ht_15a HJ_15a Hx_15a w15a
  go_wp2_with fail
  obtain ⟨w16a, hZ⟩ : ∃ Z, w16.alloc (.cells #[.int .i64 v1F, .int .i64 v2F] 39) = Z := ⟨_, rfl⟩
  obtain ⟨vb, hbk⟩ : ∃ b, b = w16.heap.size := ⟨_, rfl⟩
  have HF_16a : Aside0 (Held [(vb, #[.int .i64 v1F, .int .i64 v2F], 39), (ub, #[.int .i64 u1F, .int .i64 u2F], 39), (xb, #[.int .i64 dF, .int .i64 eF], 51), (wb, #[.int .i64 n1, .int .i64 n2], 39), (g', #[.int .i64 s0, .int .i64 s1], 43), (g, #[.int .i64 t0, .int .i64 t1], 43), (nb, #[.int .i64 n1, .int .i64 n2, .int .i64 n3, .int .i64 n4], 48), (ob, #[.int .u8 o0, .int .u8 o1], 62), (db, #[.int .u16 x0, .int .u16 x1], 61), (tb, #[.slice A l.length c, .int .i64 p], 24)] w16a) := ⟨by rw [← hZ, hbk]; exact HF_16.out.new _ _⟩
  have HR_16a : Aside0 (Kd.C k70 w16a A l.length l) := ⟨by rw [← hZ]; exact Kd.C_below HR_16.out ((Below.refl _ _).alloc (Nat.le_refl _) _)⟩
  have HQ_16a : Aside0 (Kd.C (Kd.int .u32) w16a A1 l1.length l1) := ⟨by rw [← hZ]; exact Kd.C_below HQ_16.out ((Below.refl _ _).alloc (Nat.le_refl _) _)⟩
  have Hn_16a : Aside0 (Kd.C (Kd.int .i64) w16a An q.length q) := ⟨by rw [← hZ]; exact Kd.C_below Hn_16.out ((Below.refl _ _).alloc (Nat.le_refl _) _)⟩
  have Ht_16a : Aside0 (Kd.C k43 w16a At (tightL l).length (tightL l)) := ⟨by rw [← hZ]; exact Kd.C_below Ht_16.out ((Below.refl _ _).alloc (Nat.le_refl _) _)⟩
  have HJ_16a : Aside0 (Below w11.heap.size w11 w16a) := ⟨by rw [← hZ]; exact HJ_16.out.alloc HJ_16.out.size _⟩
  have Hx_16a : Aside0 (Kd.C (Kd.int .i64) w16a Ax xF.length xF) := ⟨by rw [← hZ]; exact Kd.C_below Hx_16.out ((Below.refl _ _).alloc (Nat.le_refl _) _)⟩
  have HB_16a : Aside0 (Below w.heap.size w w16a) := ⟨by rw [← hZ]; exact HB_16.out.alloc HB_16.out.size _⟩
  rw [hZ, ← hbk]
  clear hZ hbk HF_16 HB_16 HR_16 HQ_16 Hn_16 Ht_16 HJ_16 Hx_16 w16
  have hxl := HO.out.low.len
  have h2 := HM.out.fine.tank.n2
  obtain ⟨ad, ea, hx1⟩ := Kd.at_int Hx_16a.out 0 (by omega) (by omega)
  cases ea
  obtain ⟨ad3, ea, hr0, hr1, hr2⟩ := at_T70 HR_16a.out 0 (by omega) (by omega)
  cases ea
  rw [show rd xF (0 : Int) = xF.getD 0 0 from rd_nat xF 0] at hx1
  rw [show rd_T70 l (0 : Int) = l.getD 0 zRow from rdR_nat l 0] at hr0
  replace hx1 : w16a.cell? (ad.add 0) = some (.int .i64 (xF.getD 0 0)) := hx1
  replace hr0 : w16a.cell? (ad3.add 0) = some (.int .i64 (dipN l 0)) := hr0
  have e0 : ad.add 0 = ad := by simp [Addr.add]
  have e1 : ad3.add 0 = ad3 := by simp [Addr.add]
  rw [e0] at hx1
  rw [e1] at hr0
  have p1 : (0 : Int) < (xF.length : Int) := by omega
  have p2 : (0 : Int) < (l.length : Int) := by omega
  have p3 : 0 < xF.length := by omega
  have p4 : 0 < l.length := by omega
  have hsame := HO.out.low.same
  obtain ⟨y0, ey0⟩ : ∃ z, z = xF.getD 0 0 := ⟨_, rfl⟩
  obtain ⟨f0, ef0⟩ : ∃ z, z = dipN l 0 := ⟨_, rfl⟩
  have HBT := Aside0.mk HO.out.low.btw
  rw [← ey0] at hx1 hsame
  rw [← ef0] at hr0 HBT
  clear ey0 ef0 hr1 hr2 hxl h2 e0 e1
  have hcase : (u1F = z1F ∧ u2F = z2F) ∨ ((u1F == z1F && u2F == z2F) = false ∧ (y0 == 0) = false) := by
   by_cases hy : y0 = 0
   ·exact Or.inl (hsame hy)
   cases hc : (u1F == z1F && u2F == z2F) with
   | true => rw [Bool.and_eq_true, beq_iff_eq, beq_iff_eq] at hc; exact Or.inl hc
   | false => exact Or.inr ⟨rfl, by simpa using hy⟩
  clear hsame
  have hH := HF_16a.out.get tb #[.slice (some ad3) l.length c, .int .i64 p] 24 (by simp)
  have hltb := blk_lt hH
  have ctb0 : w16a.cell? ⟨tb, 0, none⟩ = some (.slice (some ad3) l.length c) := (blk_cell hH 0).trans rfl
  have ctb1 : w16a.cell? ⟨tb, 1, none⟩ = some (.int .i64 p) := (blk_cell hH 1).trans rfl
  clear hH
  have hH := HF_16a.out.get xb #[.int .i64 dF, .int .i64 eF] 51 (by simp)
  have hlxb := blk_lt hH
  have cxb0 : w16a.cell? ⟨xb, 0, none⟩ = some (.int .i64 dF) := (blk_cell hH 0).trans rfl
  have cxb1 : w16a.cell? ⟨xb, 1, none⟩ = some (.int .i64 eF) := (blk_cell hH 1).trans rfl
  clear hH
  have hH := HF_16a.out.get ub #[.int .i64 u1F, .int .i64 u2F] 39 (by simp)
  have hlub := blk_lt hH
  have cub0 : w16a.cell? ⟨ub, 0, none⟩ = some (.int .i64 u1F) := (blk_cell hH 0).trans rfl
  have cub1 : w16a.cell? ⟨ub, 1, none⟩ = some (.int .i64 u2F) := (blk_cell hH 1).trans rfl
  clear hH
  have hH := HF_16a.out.get vb #[.int .i64 v1F, .int .i64 v2F] 39 (by simp)
  have hlvb := blk_lt hH
  have cvb0 : w16a.cell? ⟨vb, 0, none⟩ = some (.int .i64 v1F) := (blk_cell hH 0).trans rfl
  have cvb1 : w16a.cell? ⟨vb, 1, none⟩ = some (.int .i64 v2F) := (blk_cell hH 1).trans rfl
  clear hH
  rcases hcase with ⟨q1, q2⟩ | ⟨hq, hq0⟩
  ·skip
   rw [← q1, ← q2] at HBT
   clear q1 q2
   go_wp2_with fail
   (refine start_ (n := 31) (S := fun w' => Below (World.heap _).size _ w') (ds := []) (List.toArray (false :: false :: false :: false :: false :: false :: false :: false :: false :: false :: false :: false :: false :: false :: false :: false :: false :: false :: false :: false :: false :: false :: false :: false :: false :: false :: false :: false :: false :: false :: false :: [])) (by kernel_rfl) rfl rfl (belowDrew _) (fun plS => ?_); refine pureY (i := 0) (N := (some 237)) ?_; refine pureY (i := 1) (N := (some 238)) ?_; refine pureY (i := 2) (N := (some 239)) ?_; refine pureY (i := 3) (N := (some 240)) ?_; refine pureY (i := 4) (N := (some 241)) ?_; refine pureY (i := 5) (N := (some 242)) ?_; refine pureY (i := 6) (N := (some 243)) ?_; refine pureY (i := 9) (N := (some 246)) ?_; refine pureY (i := 10) (N := (some 247)) ?_; refine pureY (i := 15) (N := (some 252)) ?_; refine takeF (i := 7) (N := (some 244)) (hS := plS) (hy := by (intro w' hw'; replace hw' : Below (World.heap w16a).size w16a w' := hw'; have q0 := pw_cell_below hw' hx1; have q1 := pw_cell_below hw' hr0; have q2 := pw_cell_below hw' ctb0; have q3 := pw_cell_below hw' ctb1; have q4 := pw_cell_below hw' cxb0; have q5 := pw_cell_below hw' cxb1; have q6 := pw_cell_below hw' cub0; have q7 := pw_cell_below hw' cub1; have q8 := pw_cell_below hw' cvb0; have q9 := pw_cell_below hw' cvb1; exact yieldA)) (h := ?_); refine takeF (i := 8) (N := (some 245)) (hS := plS) (hy := by (intro w' hw'; replace hw' : Below (World.heap w16a).size w16a w' := hw'; have q0 := pw_cell_below hw' hx1; have q1 := pw_cell_below hw' hr0; have q2 := pw_cell_below hw' ctb0; have q3 := pw_cell_below hw' ctb1; have q4 := pw_cell_below hw' cxb0; have q5 := pw_cell_below hw' cxb1; have q6 := pw_cell_below hw' cub0; have q7 := pw_cell_below hw' cub1; have q8 := pw_cell_below hw' cvb0; have q9 := pw_cell_below hw' cvb1; exact yieldA)) (h := ?_); refine takeF (i := 11) (N := (some 248)) (hS := plS) (hy := by (intro w' hw'; replace hw' : Below (World.heap w16a).size w16a w' := hw'; have q0 := pw_cell_below hw' hx1; have q1 := pw_cell_below hw' hr0; have q2 := pw_cell_below hw' ctb0; have q3 := pw_cell_below hw' ctb1; have q4 := pw_cell_below hw' cxb0; have q5 := pw_cell_below hw' cxb1; have q6 := pw_cell_below hw' cub0; have q7 := pw_cell_below hw' cub1; have q8 := pw_cell_below hw' cvb0; have q9 := pw_cell_below hw' cvb1; exact yieldA)) (h := ?_); refine pureY (i := 12) (N := (some 249)) ?_; refine pureY (i := 13) (N := (some 250)) ?_; refine takeF (i := 14) (N := (some 251)) (hS := plS) (hy := by (intro w' hw'; replace hw' : Below (World.heap w16a).size w16a w' := hw'; have q0 := pw_cell_below hw' hx1; have q1 := pw_cell_below hw' hr0; have q2 := pw_cell_below hw' ctb0; have q3 := pw_cell_below hw' ctb1; have q4 := pw_cell_below hw' cxb0; have q5 := pw_cell_below hw' cxb1; have q6 := pw_cell_below hw' cub0; have q7 := pw_cell_below hw' cub1; have q8 := pw_cell_below hw' cvb0; have q9 := pw_cell_below hw' cvb1; exact yieldA)) (h := ?_); refine takeF (i := 16) (N := (some 253)) (hS := plS) (hy := by (intro w' hw'; replace hw' : Below (World.heap w16a).size w16a w' := hw'; have q0 := pw_cell_below hw' hx1; have q1 := pw_cell_below hw' hr0; have q2 := pw_cell_below hw' ctb0; have q3 := pw_cell_below hw' ctb1; have q4 := pw_cell_below hw' cxb0; have q5 := pw_cell_below hw' cxb1; have q6 := pw_cell_below hw' cub0; have q7 := pw_cell_below hw' cub1; have q8 := pw_cell_below hw' cvb0; have q9 := pw_cell_below hw' cvb1; exact yieldA)) (h := ?_); refine oneY (i := 17) (fun plK plH => ?_); rw [if_pos (by rfl)]; (first | gi_big_move | go_big_op | go_simp))
   refine (forecourtref01_Between.calls k (some ad3) c l p (some ad) cx xF f0 dF u1F u2F w16a.drew (Kd.C_below HR_16a.out ((Below.refl _ _).drew)) HC.out (Kd.C_below Hx_16a.out ((Below.refl _ _).drew)) Hx_L.out HBT.out).mono ?_
   rintro e y1 ⟨rfl, hb⟩
   have hB1 : Below w16a.heap.size w16a y1 := ((Below.refl _ w16a).drew).trans hb
   clear hb
   ((try simp only [Act.put, List.getElem_toArray, List.getElem_cons_succ, List.getElem_cons_zero, List.setIfInBounds_toArray, List.set_cons_succ, List.set_cons_zero]); refine plH _ _ hB1 (fun plS => ?_); clear plH plK; refine pureY (i := 18) (N := (some 255)) ?_; refine pureY (i := 19) (N := (some 256)) ?_; refine pureN (i := 20) (N := (some 257)) ?_; refine pureN (i := 21) (N := (some 258)) ?_; refine pureN (i := 22) (N := (some 259)) ?_; refine pureN (i := 23) (N := (some 260)) ?_; refine pureY (i := 24) (N := (some 261)) ?_; refine pureY (i := 25) (N := (some 262)) ?_; refine pureY (i := 26) (N := (some 263)) ?_; refine takeF (i := 27) (N := (some 264)) (hS := plS) (hy := by (intro w' hw'; replace hw' : Below (World.heap w16a).size w16a w' := hw'; have q0 := pw_cell_below hw' hx1; have q1 := pw_cell_below hw' hr0; have q2 := pw_cell_below hw' ctb0; have q3 := pw_cell_below hw' ctb1; have q4 := pw_cell_below hw' cxb0; have q5 := pw_cell_below hw' cxb1; have q6 := pw_cell_below hw' cub0; have q7 := pw_cell_below hw' cub1; have q8 := pw_cell_below hw' cvb0; have q9 := pw_cell_below hw' cvb1; exact yieldA)) (h := ?_); refine takeF (i := 28) (N := (some 265)) (hS := plS) (hy := by (intro w' hw'; replace hw' : Below (World.heap w16a).size w16a w' := hw'; have q0 := pw_cell_below hw' hx1; have q1 := pw_cell_below hw' hr0; have q2 := pw_cell_below hw' ctb0; have q3 := pw_cell_below hw' ctb1; have q4 := pw_cell_below hw' cxb0; have q5 := pw_cell_below hw' cxb1; have q6 := pw_cell_below hw' cub0; have q7 := pw_cell_below hw' cub1; have q8 := pw_cell_below hw' cvb0; have q9 := pw_cell_below hw' cvb1; exact yieldA)) (h := ?_); refine oneY (i := 29) (fun plK plH => ?_); rw [if_pos (by rfl)]; (first | gi_big_move | go_big_op | go_simp))
   refine (forecourtref01_Less.calls v1F v2F u1F u2F false y1 HO.out.low.less).mono ?_
   rintro e y2 ⟨rfl, hb⟩
   have hB2 : Below w16a.heap.size w16a y2 := below_then hB1 hb
   clear hb
   ((try simp only [Act.put, List.getElem_toArray, List.getElem_cons_succ, List.getElem_cons_zero, List.setIfInBounds_toArray, List.set_cons_succ, List.set_cons_zero]); refine plH _ _ hB2 (fun plS => ?_); clear plH plK; refine pureY (i := 30) (N := (some 267)) ?_; refine done_ (by kernel_rfl) ?_)
   clear plS
   go_wp2_with fail
   go_roundw
   case rel => exact ⟨1, by omega, by go_num, below_then HBi.out (below_then HJ_16a.out hB2)⟩
   case measure => simp [RowKit.intOf]
  skip
  go_wp2_with fail
  (refine start_ (n := 31) (S := fun w' => Below (World.heap _).size _ w') (ds := []) (List.toArray (false :: false :: false :: false :: false :: false :: false :: false :: false :: false :: false :: false :: false :: false :: false :: false :: false :: false :: false :: false :: false :: false :: false :: false :: false :: false :: false :: false :: false :: false :: false :: [])) (by kernel_rfl) rfl rfl (belowDrew _) (fun plS => ?_); refine pureY (i := 0) (N := (some 237)) ?_; refine pureY (i := 1) (N := (some 238)) ?_; refine pureY (i := 2) (N := (some 239)) ?_; refine pureY (i := 3) (N := (some 240)) ?_; refine pureY (i := 4) (N := (some 241)) ?_; refine pureY (i := 5) (N := (some 242)) ?_; refine pureY (i := 6) (N := (some 243)) ?_; refine pureY (i := 9) (N := (some 246)) ?_; refine pureY (i := 10) (N := (some 247)) ?_; refine pureY (i := 15) (N := (some 252)) ?_; refine takeF (i := 7) (N := (some 244)) (hS := plS) (hy := by (intro w' hw'; replace hw' : Below (World.heap w16a).size w16a w' := hw'; have q0 := pw_cell_below hw' hx1; have q1 := pw_cell_below hw' hr0; have q2 := pw_cell_below hw' ctb0; have q3 := pw_cell_below hw' ctb1; have q4 := pw_cell_below hw' cxb0; have q5 := pw_cell_below hw' cxb1; have q6 := pw_cell_below hw' cub0; have q7 := pw_cell_below hw' cub1; have q8 := pw_cell_below hw' cvb0; have q9 := pw_cell_below hw' cvb1; exact yieldA)) (h := ?_); refine takeF (i := 8) (N := (some 245)) (hS := plS) (hy := by (intro w' hw'; replace hw' : Below (World.heap w16a).size w16a w' := hw'; have q0 := pw_cell_below hw' hx1; have q1 := pw_cell_below hw' hr0; have q2 := pw_cell_below hw' ctb0; have q3 := pw_cell_below hw' ctb1; have q4 := pw_cell_below hw' cxb0; have q5 := pw_cell_below hw' cxb1; have q6 := pw_cell_below hw' cub0; have q7 := pw_cell_below hw' cub1; have q8 := pw_cell_below hw' cvb0; have q9 := pw_cell_below hw' cvb1; exact yieldA)) (h := ?_); refine takeF (i := 11) (N := (some 248)) (hS := plS) (hy := by (intro w' hw'; replace hw' : Below (World.heap w16a).size w16a w' := hw'; have q0 := pw_cell_below hw' hx1; have q1 := pw_cell_below hw' hr0; have q2 := pw_cell_below hw' ctb0; have q3 := pw_cell_below hw' ctb1; have q4 := pw_cell_below hw' cxb0; have q5 := pw_cell_below hw' cxb1; have q6 := pw_cell_below hw' cub0; have q7 := pw_cell_below hw' cub1; have q8 := pw_cell_below hw' cvb0; have q9 := pw_cell_below hw' cvb1; exact yieldA)) (h := ?_); refine pureY (i := 12) (N := (some 249)) ?_; refine pureY (i := 13) (N := (some 250)) ?_; refine takeF (i := 14) (N := (some 251)) (hS := plS) (hy := by (intro w' hw'; replace hw' : Below (World.heap w16a).size w16a w' := hw'; have q0 := pw_cell_below hw' hx1; have q1 := pw_cell_below hw' hr0; have q2 := pw_cell_below hw' ctb0; have q3 := pw_cell_below hw' ctb1; have q4 := pw_cell_below hw' cxb0; have q5 := pw_cell_below hw' cxb1; have q6 := pw_cell_below hw' cub0; have q7 := pw_cell_below hw' cub1; have q8 := pw_cell_below hw' cvb0; have q9 := pw_cell_below hw' cvb1; exact yieldA)) (h := ?_); refine takeF (i := 16) (N := (some 253)) (hS := plS) (hy := by (intro w' hw'; replace hw' : Below (World.heap w16a).size w16a w' := hw'; have q0 := pw_cell_below hw' hx1; have q1 := pw_cell_below hw' hr0; have q2 := pw_cell_below hw' ctb0; have q3 := pw_cell_below hw' ctb1; have q4 := pw_cell_below hw' cxb0; have q5 := pw_cell_below hw' cxb1; have q6 := pw_cell_below hw' cub0; have q7 := pw_cell_below hw' cub1; have q8 := pw_cell_below hw' cvb0; have q9 := pw_cell_below hw' cvb1; exact yieldA)) (h := ?_); refine oneY (i := 17) (fun plK plH => ?_); rw [if_pos (by rfl)]; (first | gi_big_move | go_big_op | go_simp))
  refine (forecourtref01_Between.calls k (some ad3) c l p (some ad) cx xF f0 dF z1F z2F w16a.drew (Kd.C_below HR_16a.out ((Below.refl _ _).drew)) HC.out (Kd.C_below Hx_16a.out ((Below.refl _ _).drew)) Hx_L.out HBT.out).mono ?_
  rintro e y1 ⟨rfl, hb⟩
  have hB1 : Below w16a.heap.size w16a y1 := ((Below.refl _ w16a).drew).trans hb
  clear hb
  ((try simp only [Act.put, List.getElem_toArray, List.getElem_cons_succ, List.getElem_cons_zero, List.setIfInBounds_toArray, List.set_cons_succ, List.set_cons_zero]); refine plH _ _ hB1 (fun plS => ?_); clear plH plK; refine pureY (i := 18) (N := (some 255)) ?_; refine pureY (i := 19) (N := (some 256)) ?_; refine pureY (i := 20) (N := (some 257)) ?_; refine pureY (i := 21) (N := (some 258)) ?_; refine takeF (i := 22) (N := (some 259)) (hS := plS) (hy := by (intro w' hw'; replace hw' : Below (World.heap w16a).size w16a w' := hw'; have q0 := pw_cell_below hw' hx1; have q1 := pw_cell_below hw' hr0; have q2 := pw_cell_below hw' ctb0; have q3 := pw_cell_below hw' ctb1; have q4 := pw_cell_below hw' cxb0; have q5 := pw_cell_below hw' cxb1; have q6 := pw_cell_below hw' cub0; have q7 := pw_cell_below hw' cub1; have q8 := pw_cell_below hw' cvb0; have q9 := pw_cell_below hw' cvb1; exact yieldA)) (h := ?_); refine pureY (i := 23) (N := (some 260)) ?_; refine pureY (i := 24) (N := (some 261)) ?_; refine pureY (i := 25) (N := (some 262)) ?_; refine pureY (i := 26) (N := (some 263)) ?_; refine takeF (i := 27) (N := (some 264)) (hS := plS) (hy := by (intro w' hw'; replace hw' : Below (World.heap w16a).size w16a w' := hw'; have q0 := pw_cell_below hw' hx1; have q1 := pw_cell_below hw' hr0; have q2 := pw_cell_below hw' ctb0; have q3 := pw_cell_below hw' ctb1; have q4 := pw_cell_below hw' cxb0; have q5 := pw_cell_below hw' cxb1; have q6 := pw_cell_below hw' cub0; have q7 := pw_cell_below hw' cub1; have q8 := pw_cell_below hw' cvb0; have q9 := pw_cell_below hw' cvb1; exact yieldA)) (h := ?_); refine takeF (i := 28) (N := (some 265)) (hS := plS) (hy := by (intro w' hw'; replace hw' : Below (World.heap w16a).size w16a w' := hw'; have q0 := pw_cell_below hw' hx1; have q1 := pw_cell_below hw' hr0; have q2 := pw_cell_below hw' ctb0; have q3 := pw_cell_below hw' ctb1; have q4 := pw_cell_below hw' cxb0; have q5 := pw_cell_below hw' cxb1; have q6 := pw_cell_below hw' cub0; have q7 := pw_cell_below hw' cub1; have q8 := pw_cell_below hw' cvb0; have q9 := pw_cell_below hw' cvb1; exact yieldA)) (h := ?_); refine oneY (i := 29) (fun plK plH => ?_); rw [if_pos (by rfl)]; (first | gi_big_move | go_big_op | go_simp))
  refine (forecourtref01_Less.calls v1F v2F u1F u2F false y1 HO.out.low.less).mono ?_
  rintro e y2 ⟨rfl, hb⟩
  have hB2 : Below w16a.heap.size w16a y2 := below_then hB1 hb
  clear hb
  ((try simp only [Act.put, List.getElem_toArray, List.getElem_cons_succ, List.getElem_cons_zero, List.setIfInBounds_toArray, List.set_cons_succ, List.set_cons_zero]); refine plH _ _ hB2 (fun plS => ?_); clear plH plK; refine pureY (i := 30) (N := (some 267)) ?_; refine done_ (by kernel_rfl) ?_)
  clear plS
  go_wp2_with fail
  go_roundw
  case rel => exact ⟨1, by omega, by go_num, below_then HBi.out (below_then HJ_16a.out hB2)⟩
  case measure => simp [RowKit.intOf]
 ·as_aux_lemma =>
  have hH := HF_11.out.get nb #[.int .i64 n1, .int .i64 n2, .int .i64 n3, .int .i64 n4] 48 (by simp)
  have hlnb := blk_lt hH
  have cnb0 : w11.cell? ⟨nb, 0, none⟩ = some (.int .i64 n1) := (blk_cell hH 0).trans rfl
  have cnb1 : w11.cell? ⟨nb, 1, none⟩ = some (.int .i64 n2) := (blk_cell hH 1).trans rfl
  have cnb2 : w11.cell? ⟨nb, 2, none⟩ = some (.int .i64 n3) := (blk_cell hH 2).trans rfl
  have cnb3 : w11.cell? ⟨nb, 3, none⟩ = some (.int .i64 n4) := (blk_cell hH 3).trans rfl
  clear hH
  have hH := HF_11.out.get tb #[.slice A l.length c, .int .i64 p] 24 (by simp)
  have hltb := blk_lt hH
  have ctb0 : w11.cell? ⟨tb, 0, none⟩ = some (.slice A l.length c) := (blk_cell hH 0).trans rfl
  have ctb1 : w11.cell? ⟨tb, 1, none⟩ = some (.int .i64 p) := (blk_cell hH 1).trans rfl
  clear hH
  go_wp2_with fail
  clear hlnb cnb0 cnb1 cnb2 cnb3 hltb ctb0 ctb1
  obtain ⟨w11a, hZ⟩ : ∃ Z, w11.alloc (.cells #[.int .i64 n3, .int .i64 n4] 39) = Z := ⟨_, rfl⟩
  obtain ⟨wb, hbk⟩ : ∃ b, b = w11.heap.size := ⟨_, rfl⟩
  have HF_11a : Aside0 (Held [(wb, #[.int .i64 n3, .int .i64 n4], 39), (g', #[.int .i64 s0, .int .i64 s1], 43), (g, #[.int .i64 t0, .int .i64 t1], 43), (nb, #[.int .i64 n1, .int .i64 n2, .int .i64 n3, .int .i64 n4], 48), (ob, #[.int .u8 o0, .int .u8 o1], 62), (db, #[.int .u16 x0, .int .u16 x1], 61), (tb, #[.slice A l.length c, .int .i64 p], 24)] w11a) := ⟨by rw [← hZ, hbk]; exact HF_11.out.new _ _⟩
  have HR_11a : Aside0 (Kd.C k70 w11a A l.length l) := ⟨by rw [← hZ]; exact Kd.C_below HR_11.out ((Below.refl _ _).alloc (Nat.le_refl _) _)⟩
  have HQ_11a : Aside0 (Kd.C (Kd.int .u32) w11a A1 l1.length l1) := ⟨by rw [← hZ]; exact Kd.C_below HQ_11.out ((Below.refl _ _).alloc (Nat.le_refl _) _)⟩
  have Hn_11a : Aside0 (Kd.C (Kd.int .i64) w11a An q.length q) := ⟨by rw [← hZ]; exact Kd.C_below Hn_11.out ((Below.refl _ _).alloc (Nat.le_refl _) _)⟩
  have Ht_11a : Aside0 (Kd.C k43 w11a At (tightL l).length (tightL l)) := ⟨by rw [← hZ]; exact Kd.C_below Ht_11.out ((Below.refl _ _).alloc (Nat.le_refl _) _)⟩
  have HJ_11a : Aside0 (Below w11.heap.size w11 w11a) := ⟨by rw [← hZ]; exact HJ_11.out.alloc HJ_11.out.size _⟩
  have HB_11a : Aside0 (Below w.heap.size w w11a) := ⟨by rw [← hZ]; exact HB_11.out.alloc HB_11.out.size _⟩
  rw [hZ, ← hbk]
  clear hZ hbk HF_11 HB_11 HR_11 HQ_11 Hn_11 Ht_11 HJ_11 
  refine (chart_End.calls A c l p wa le true xT dT eT 0 w11a HR_11a.out HC.out HO.out.high.fin).mono ?_
  rintro e w12 ⟨v, rfl, Hx, hB⟩
  obtain ⟨Ax, cx, rfl, Hxl, Hxr⟩ := Kd.R_reads Hx
  have Hx_L := Lib.hid Hxl
  have Hx_12 := Aside0.mk Hxr
  clear Hx Hxl Hxr
  have HF_12 := Aside0.mk (HF_11a.out.below hB)
  have HB_12 := Aside0.mk (below_then HB_11a.out hB)
  have HR_12 := Aside0.mk (Kd.C_below HR_11a.out hB)
  have HQ_12 := Aside0.mk (Kd.C_below HQ_11a.out hB)
  have Hn_12 := Aside0.mk (Kd.C_below Hn_11a.out hB)
  have Ht_12 := Aside0.mk (Kd.C_below Ht_11a.out hB)
  have HJ_12 := Aside0.mk (below_then HJ_11a.out hB)
  clear hB HF_11a HB_11a HR_11a HQ_11a Hn_11a Ht_11a HJ_11a w11a
  have hH := HF_12.out.get tb #[.slice A l.length c, .int .i64 p] 24 (by simp)
  have hltb := blk_lt hH
  have ctb0 : w12.cell? ⟨tb, 0, none⟩ = some (.slice A l.length c) := (blk_cell hH 0).trans rfl
  have ctb1 : w12.cell? ⟨tb, 1, none⟩ = some (.int .i64 p) := (blk_cell hH 1).trans rfl
  clear hH
  have hH := HF_12.out.get wb #[.int .i64 n3, .int .i64 n4] 39 (by simp)
  have hlwb := blk_lt hH
  have cwb0 : w12.cell? ⟨wb, 0, none⟩ = some (.int .i64 n3) := (blk_cell hH 0).trans rfl
  have cwb1 : w12.cell? ⟨wb, 1, none⟩ = some (.int .i64 n4) := (blk_cell hH 1).trans rfl
  clear hH
  go_wp2_with fail
  clear hltb ctb0 ctb1 hlwb cwb0 cwb1
  obtain ⟨w12a, hZ⟩ : ∃ Z, w12.alloc (.cells #[.int .i64 dT, .int .i64 eT] 51) = Z := ⟨_, rfl⟩
  obtain ⟨xb, hbk⟩ : ∃ b, b = w12.heap.size := ⟨_, rfl⟩
  have HF_12a : Aside0 (Held [(xb, #[.int .i64 dT, .int .i64 eT], 51), (wb, #[.int .i64 n3, .int .i64 n4], 39), (g', #[.int .i64 s0, .int .i64 s1], 43), (g, #[.int .i64 t0, .int .i64 t1], 43), (nb, #[.int .i64 n1, .int .i64 n2, .int .i64 n3, .int .i64 n4], 48), (ob, #[.int .u8 o0, .int .u8 o1], 62), (db, #[.int .u16 x0, .int .u16 x1], 61), (tb, #[.slice A l.length c, .int .i64 p], 24)] w12a) := ⟨by rw [← hZ, hbk]; exact HF_12.out.new _ _⟩
  have HR_12a : Aside0 (Kd.C k70 w12a A l.length l) := ⟨by rw [← hZ]; exact Kd.C_below HR_12.out ((Below.refl _ _).alloc (Nat.le_refl _) _)⟩
  have HQ_12a : Aside0 (Kd.C (Kd.int .u32) w12a A1 l1.length l1) := ⟨by rw [← hZ]; exact Kd.C_below HQ_12.out ((Below.refl _ _).alloc (Nat.le_refl _) _)⟩
  have Hn_12a : Aside0 (Kd.C (Kd.int .i64) w12a An q.length q) := ⟨by rw [← hZ]; exact Kd.C_below Hn_12.out ((Below.refl _ _).alloc (Nat.le_refl _) _)⟩
  have Ht_12a : Aside0 (Kd.C k43 w12a At (tightL l).length (tightL l)) := ⟨by rw [← hZ]; exact Kd.C_below Ht_12.out ((Below.refl _ _).alloc (Nat.le_refl _) _)⟩
  have HJ_12a : Aside0 (Below w11.heap.size w11 w12a) := ⟨by rw [← hZ]; exact HJ_12.out.alloc HJ_12.out.size _⟩
  have Hx_12a : Aside0 (Kd.C (Kd.int .i64) w12a Ax xT.length xT) := ⟨by rw [← hZ]; exact Kd.C_below Hx_12.out ((Below.refl _ _).alloc (Nat.le_refl _) _)⟩
  have HB_12a : Aside0 (Below w.heap.size w w12a) := ⟨by rw [← hZ]; exact HB_12.out.alloc HB_12.out.size _⟩
  rw [hZ, ← hbk]
  clear hZ hbk HF_12 HB_12 HR_12 HQ_12 Hn_12 Ht_12 HJ_12 Hx_12 w12
  refine (chart_CheckChart.calls k A c l p Ax cx xT 0 w12a HR_12a.out HC.out Hx_12a.out Hx_L.out HO.out.high.check).mono ?_
  rintro e w13 ⟨rfl, hB⟩
  have HF_13 := Aside0.mk (HF_12a.out.below hB)
  have HB_13 := Aside0.mk (below_then HB_12a.out hB)
  have HR_13 := Aside0.mk (Kd.C_below HR_12a.out hB)
  have HQ_13 := Aside0.mk (Kd.C_below HQ_12a.out hB)
  have Hn_13 := Aside0.mk (Kd.C_below Hn_12a.out hB)
  have Ht_13 := Aside0.mk (Kd.C_below Ht_12a.out hB)
  have HJ_13 := Aside0.mk (below_then HJ_12a.out hB)
  have Hx_13 := Aside0.mk (Kd.C_below Hx_12a.out hB)
  clear hB HF_12a HB_12a HR_12a HQ_12a Hn_12a Ht_12a HJ_12a Hx_12a w12a
  have hH := HF_13.out.get tb #[.slice A l.length c, .int .i64 p] 24 (by simp)
  have hltb := blk_lt hH
  have ctb0 : w13.cell? ⟨tb, 0, none⟩ = some (.slice A l.length c) := (blk_cell hH 0).trans rfl
  have ctb1 : w13.cell? ⟨tb, 1, none⟩ = some (.int .i64 p) := (blk_cell hH 1).trans rfl
  clear hH
  have hH := HF_13.out.get wb #[.int .i64 n3, .int .i64 n4] 39 (by simp)
  have hlwb := blk_lt hH
  have cwb0 : w13.cell? ⟨wb, 0, none⟩ = some (.int .i64 n3) := (blk_cell hH 0).trans rfl
  have cwb1 : w13.cell? ⟨wb, 1, none⟩ = some (.int .i64 n4) := (blk_cell hH 1).trans rfl
  clear hH
  have hH := HF_13.out.get xb #[.int .i64 dT, .int .i64 eT] 51 (by simp)
  have hlxb := blk_lt hH
  have cxb0 : w13.cell? ⟨xb, 0, none⟩ = some (.int .i64 dT) := (blk_cell hH 0).trans rfl
  have cxb1 : w13.cell? ⟨xb, 1, none⟩ = some (.int .i64 eT) := (blk_cell hH 1).trans rfl
  clear hH
  go_wp2_with fail
  clear hltb ctb0 ctb1 hlwb cwb0 cwb1 hlxb cxb0 cxb1
  refine (forecourtlaw01_reached.calls k A c l p wa le Ax cx xT dT eT n3 n4 true w13 HR_13.out HC.out Hx_13.out Hx_L.out ⟨rfl⟩ HO.out.high.reached).mono ?_
  rintro e w14 ⟨rfl, hB⟩
  have HF_14 := Aside0.mk (HF_13.out.below hB)
  have HB_14 := Aside0.mk (below_then HB_13.out hB)
  have HR_14 := Aside0.mk (Kd.C_below HR_13.out hB)
  have HQ_14 := Aside0.mk (Kd.C_below HQ_13.out hB)
  have Hn_14 := Aside0.mk (Kd.C_below Hn_13.out hB)
  have Ht_14 := Aside0.mk (Kd.C_below Ht_13.out hB)
  have HJ_14 := Aside0.mk (below_then HJ_13.out hB)
  have Hx_14 := Aside0.mk (Kd.C_below Hx_13.out hB)
  clear hB HF_13 HB_13 HR_13 HQ_13 Hn_13 Ht_13 HJ_13 Hx_13 w13
  have hH := HF_14.out.get tb #[.slice A l.length c, .int .i64 p] 24 (by simp)
  have hltb := blk_lt hH
  have ctb0 : w14.cell? ⟨tb, 0, none⟩ = some (.slice A l.length c) := (blk_cell hH 0).trans rfl
  have ctb1 : w14.cell? ⟨tb, 1, none⟩ = some (.int .i64 p) := (blk_cell hH 1).trans rfl
  clear hH
  have hH := HF_14.out.get xb #[.int .i64 dT, .int .i64 eT] 51 (by simp)
  have hlxb := blk_lt hH
  have cxb0 : w14.cell? ⟨xb, 0, none⟩ = some (.int .i64 dT) := (blk_cell hH 0).trans rfl
  have cxb1 : w14.cell? ⟨xb, 1, none⟩ = some (.int .i64 eT) := (blk_cell hH 1).trans rfl
  clear hH
  go_wp2_with fail
  clear hltb ctb0 ctb1 hlxb cxb0 cxb1
  refine (chart_Below.calls A c l p Ax cx xT dT u1T u2T 0 w14 HR_14.out HC.out Hx_14.out Hx_L.out HO.out.high.b0).mono ?_
  rintro e w15 ⟨rfl, hB⟩
  have HF_15 := Aside0.mk (HF_14.out.below hB)
  have HB_15 := Aside0.mk (below_then HB_14.out hB)
  have HR_15 := Aside0.mk (Kd.C_below HR_14.out hB)
  have HQ_15 := Aside0.mk (Kd.C_below HQ_14.out hB)
  have Hn_15 := Aside0.mk (Kd.C_below Hn_14.out hB)
  have Ht_15 := Aside0.mk (Kd.C_below Ht_14.out hB)
  have HJ_15 := Aside0.mk (below_then HJ_14.out hB)
  have Hx_15 := Aside0.mk (Kd.C_below Hx_14.out hB)
  clear hB HF_14 HB_14 HR_14 HQ_14 Hn_14 Ht_14 HJ_14 Hx_14 w14
  have hH := HF_15.out.get tb #[.slice A l.length c, .int .i64 p] 24 (by simp)
  have hltb := blk_lt hH
  have ctb0 : w15.cell? ⟨tb, 0, none⟩ = some (.slice A l.length c) := (blk_cell hH 0).trans rfl
  have ctb1 : w15.cell? ⟨tb, 1, none⟩ = some (.int .i64 p) := (blk_cell hH 1).trans rfl
  clear hH
  have hH := HF_15.out.get xb #[.int .i64 dT, .int .i64 eT] 51 (by simp)
  have hlxb := blk_lt hH
  have cxb0 : w15.cell? ⟨xb, 0, none⟩ = some (.int .i64 dT) := (blk_cell hH 0).trans rfl
  have cxb1 : w15.cell? ⟨xb, 1, none⟩ = some (.int .i64 eT) := (blk_cell hH 1).trans rfl
  clear hH
  go_wp2_with fail
  clear hltb ctb0 ctb1 hlxb cxb0 cxb1
  obtain ⟨w15a, hZ⟩ : ∃ Z, w15.alloc (.cells #[.int .i64 u1T, .int .i64 u2T] 39) = Z := ⟨_, rfl⟩
  obtain ⟨ub, hbk⟩ : ∃ b, b = w15.heap.size := ⟨_, rfl⟩
  have HF_15a : Aside0 (Held [(ub, #[.int .i64 u1T, .int .i64 u2T], 39), (xb, #[.int .i64 dT, .int .i64 eT], 51), (wb, #[.int .i64 n3, .int .i64 n4], 39), (g', #[.int .i64 s0, .int .i64 s1], 43), (g, #[.int .i64 t0, .int .i64 t1], 43), (nb, #[.int .i64 n1, .int .i64 n2, .int .i64 n3, .int .i64 n4], 48), (ob, #[.int .u8 o0, .int .u8 o1], 62), (db, #[.int .u16 x0, .int .u16 x1], 61), (tb, #[.slice A l.length c, .int .i64 p], 24)] w15a) := ⟨by rw [← hZ, hbk]; exact HF_15.out.new _ _⟩
  have HR_15a : Aside0 (Kd.C k70 w15a A l.length l) := ⟨by rw [← hZ]; exact Kd.C_below HR_15.out ((Below.refl _ _).alloc (Nat.le_refl _) _)⟩
  have HQ_15a : Aside0 (Kd.C (Kd.int .u32) w15a A1 l1.length l1) := ⟨by rw [← hZ]; exact Kd.C_below HQ_15.out ((Below.refl _ _).alloc (Nat.le_refl _) _)⟩
  have Hn_15a : Aside0 (Kd.C (Kd.int .i64) w15a An q.length q) := ⟨by rw [← hZ]; exact Kd.C_below Hn_15.out ((Below.refl _ _).alloc (Nat.le_refl _) _)⟩
  have Ht_15a : Aside0 (Kd.C k43 w15a At (tightL l).length (tightL l)) := ⟨by rw [← hZ]; exact Kd.C_below Ht_15.out ((Below.refl _ _).alloc (Nat.le_refl _) _)⟩
  have HJ_15a : Aside0 (Below w11.heap.size w11 w15a) := ⟨by rw [← hZ]; exact HJ_15.out.alloc HJ_15.out.size _⟩
  have Hx_15a : Aside0 (Kd.C (Kd.int .i64) w15a Ax xT.length xT) := ⟨by rw [← hZ]; exact Kd.C_below Hx_15.out ((Below.refl _ _).alloc (Nat.le_refl _) _)⟩
  have HB_15a : Aside0 (Below w.heap.size w w15a) := ⟨by rw [← hZ]; exact HB_15.out.alloc HB_15.out.size _⟩
  rw [hZ, ← hbk]
  clear hZ hbk HF_15 HB_15 HR_15 HQ_15 Hn_15 Ht_15 HJ_15 Hx_15 w15
  refine (chart_Below.calls A c l p Ax cx xT eT v1T v2T 0 w15a HR_15a.out HC.out Hx_15a.out Hx_L.out HO.out.high.b1).mono ?_
  rintro e w16 ⟨rfl, hB⟩
  have HF_16 := Aside0.mk (HF_15a.out.below hB)
  have HB_16 := Aside0.mk (below_then HB_15a.out hB)
  have HR_16 := Aside0.mk (Kd.C_below HR_15a.out hB)
  have HQ_16 := Aside0.mk (Kd.C_below HQ_15a.out hB)
  have Hn_16 := Aside0.mk (Kd.C_below Hn_15a.out hB)
  have Ht_16 := Aside0.mk (Kd.C_below Ht_15a.out hB)
  have HJ_16 := Aside0.mk (below_then HJ_15a.out hB)
  have Hx_16 := Aside0.mk (Kd.C_below Hx_15a.out hB)
  clear hB HF_15a HB_15a HR_15a HQ_15a Hn_15a Ht_15a HJ_15a Hx_15a w15a
  go_wp2_with fail
  obtain ⟨w16a, hZ⟩ : ∃ Z, w16.alloc (.cells #[.int .i64 v1T, .int .i64 v2T] 39) = Z := ⟨_, rfl⟩
  obtain ⟨vb, hbk⟩ : ∃ b, b = w16.heap.size := ⟨_, rfl⟩
  have HF_16a : Aside0 (Held [(vb, #[.int .i64 v1T, .int .i64 v2T], 39), (ub, #[.int .i64 u1T, .int .i64 u2T], 39), (xb, #[.int .i64 dT, .int .i64 eT], 51), (wb, #[.int .i64 n3, .int .i64 n4], 39), (g', #[.int .i64 s0, .int .i64 s1], 43), (g, #[.int .i64 t0, .int .i64 t1], 43), (nb, #[.int .i64 n1, .int .i64 n2, .int .i64 n3, .int .i64 n4], 48), (ob, #[.int .u8 o0, .int .u8 o1], 62), (db, #[.int .u16 x0, .int .u16 x1], 61), (tb, #[.slice A l.length c, .int .i64 p], 24)] w16a) := ⟨by rw [← hZ, hbk]; exact HF_16.out.new _ _⟩
  have HR_16a : Aside0 (Kd.C k70 w16a A l.length l) := ⟨by rw [← hZ]; exact Kd.C_below HR_16.out ((Below.refl _ _).alloc (Nat.le_refl _) _)⟩
  have HQ_16a : Aside0 (Kd.C (Kd.int .u32) w16a A1 l1.length l1) := ⟨by rw [← hZ]; exact Kd.C_below HQ_16.out ((Below.refl _ _).alloc (Nat.le_refl _) _)⟩
  have Hn_16a : Aside0 (Kd.C (Kd.int .i64) w16a An q.length q) := ⟨by rw [← hZ]; exact Kd.C_below Hn_16.out ((Below.refl _ _).alloc (Nat.le_refl _) _)⟩
  have Ht_16a : Aside0 (Kd.C k43 w16a At (tightL l).length (tightL l)) := ⟨by rw [← hZ]; exact Kd.C_below Ht_16.out ((Below.refl _ _).alloc (Nat.le_refl _) _)⟩
  have HJ_16a : Aside0 (Below w11.heap.size w11 w16a) := ⟨by rw [← hZ]; exact HJ_16.out.alloc HJ_16.out.size _⟩
  have Hx_16a : Aside0 (Kd.C (Kd.int .i64) w16a Ax xT.length xT) := ⟨by rw [← hZ]; exact Kd.C_below Hx_16.out ((Below.refl _ _).alloc (Nat.le_refl _) _)⟩
  have HB_16a : Aside0 (Below w.heap.size w w16a) := ⟨by rw [← hZ]; exact HB_16.out.alloc HB_16.out.size _⟩
  rw [hZ, ← hbk]
  clear hZ hbk HF_16 HB_16 HR_16 HQ_16 Hn_16 Ht_16 HJ_16 Hx_16 w16
  have hxl := HO.out.high.len
  have h2 := HM.out.fine.tank.n2
  obtain ⟨ad, ea, hx1⟩ := Kd.at_int Hx_16a.out 0 (by omega) (by omega)
  cases ea
  obtain ⟨ad3, ea, hr0, hr1, hr2⟩ := at_T70 HR_16a.out 0 (by omega) (by omega)
  cases ea
  rw [show rd xT (0 : Int) = xT.getD 0 0 from rd_nat xT 0] at hx1
  rw [show rd_T70 l (0 : Int) = l.getD 0 zRow from rdR_nat l 0] at hr0
  replace hx1 : w16a.cell? (ad.add 0) = some (.int .i64 (xT.getD 0 0)) := hx1
  replace hr0 : w16a.cell? (ad3.add 0) = some (.int .i64 (dipN l 0)) := hr0
  have e0 : ad.add 0 = ad := by simp [Addr.add]
  have e1 : ad3.add 0 = ad3 := by simp [Addr.add]
  rw [e0] at hx1
  rw [e1] at hr0
  have p1 : (0 : Int) < (xT.length : Int) := by omega
  have p2 : (0 : Int) < (l.length : Int) := by omega
  have p3 : 0 < xT.length := by omega
  have p4 : 0 < l.length := by omega
  have hsame := HO.out.high.same
  obtain ⟨y0, ey0⟩ : ∃ z, z = xT.getD 0 0 := ⟨_, rfl⟩
  obtain ⟨f0, ef0⟩ : ∃ z, z = dipN l 0 := ⟨_, rfl⟩
  have HBT := Aside0.mk HO.out.high.btw
  rw [← ey0] at hx1 hsame
  rw [← ef0] at hr0 HBT
  clear ey0 ef0 hr1 hr2 hxl h2 e0 e1
  have hcase : (u1T = z1T ∧ u2T = z2T) ∨ ((u1T == z1T && u2T == z2T) = false ∧ (y0 == 0) = false) := by
   by_cases hy : y0 = 0
   ·exact Or.inl (hsame hy)
   cases hc : (u1T == z1T && u2T == z2T) with
   | true => rw [Bool.and_eq_true, beq_iff_eq, beq_iff_eq] at hc; exact Or.inl hc
   | false => exact Or.inr ⟨rfl, by simpa using hy⟩
  clear hsame
  have hH := HF_16a.out.get tb #[.slice (some ad3) l.length c, .int .i64 p] 24 (by simp)
  have hltb := blk_lt hH
  have ctb0 : w16a.cell? ⟨tb, 0, none⟩ = some (.slice (some ad3) l.length c) := (blk_cell hH 0).trans rfl
  have ctb1 : w16a.cell? ⟨tb, 1, none⟩ = some (.int .i64 p) := (blk_cell hH 1).trans rfl
  clear hH
  have hH := HF_16a.out.get xb #[.int .i64 dT, .int .i64 eT] 51 (by simp)
  have hlxb := blk_lt hH
  have cxb0 : w16a.cell? ⟨xb, 0, none⟩ = some (.int .i64 dT) := (blk_cell hH 0).trans rfl
  have cxb1 : w16a.cell? ⟨xb, 1, none⟩ = some (.int .i64 eT) := (blk_cell hH 1).trans rfl
  clear hH
  have hH := HF_16a.out.get ub #[.int .i64 u1T, .int .i64 u2T] 39 (by simp)
  have hlub := blk_lt hH
  have cub0 : w16a.cell? ⟨ub, 0, none⟩ = some (.int .i64 u1T) := (blk_cell hH 0).trans rfl
  have cub1 : w16a.cell? ⟨ub, 1, none⟩ = some (.int .i64 u2T) := (blk_cell hH 1).trans rfl
  clear hH
  have hH := HF_16a.out.get vb #[.int .i64 v1T, .int .i64 v2T] 39 (by simp)
  have hlvb := blk_lt hH
  have cvb0 : w16a.cell? ⟨vb, 0, none⟩ = some (.int .i64 v1T) := (blk_cell hH 0).trans rfl
  have cvb1 : w16a.cell? ⟨vb, 1, none⟩ = some (.int .i64 v2T) := (blk_cell hH 1).trans rfl
  clear hH
  rcases hcase with ⟨q1, q2⟩ | ⟨hq, hq0⟩
  ·skip
   rw [← q1, ← q2] at HBT
   clear q1 q2
   go_wp2_with fail
   (refine start_ (n := 31) (S := fun w' => Below (World.heap _).size _ w') (ds := []) (List.toArray (false :: false :: false :: false :: false :: false :: false :: false :: false :: false :: false :: false :: false :: false :: false :: false :: false :: false :: false :: false :: false :: false :: false :: false :: false :: false :: false :: false :: false :: false :: false :: [])) (by kernel_rfl) rfl rfl (belowDrew _) (fun plS => ?_); refine pureY (i := 0) (N := (some 237)) ?_; refine pureY (i := 1) (N := (some 238)) ?_; refine pureY (i := 2) (N := (some 239)) ?_; refine pureY (i := 3) (N := (some 240)) ?_; refine pureY (i := 4) (N := (some 241)) ?_; refine pureY (i := 5) (N := (some 242)) ?_; refine pureY (i := 6) (N := (some 243)) ?_; refine pureY (i := 9) (N := (some 246)) ?_; refine pureY (i := 10) (N := (some 247)) ?_; refine pureY (i := 15) (N := (some 252)) ?_; refine takeF (i := 7) (N := (some 244)) (hS := plS) (hy := by (intro w' hw'; replace hw' : Below (World.heap w16a).size w16a w' := hw'; have q0 := pw_cell_below hw' hx1; have q1 := pw_cell_below hw' hr0; have q2 := pw_cell_below hw' ctb0; have q3 := pw_cell_below hw' ctb1; have q4 := pw_cell_below hw' cxb0; have q5 := pw_cell_below hw' cxb1; have q6 := pw_cell_below hw' cub0; have q7 := pw_cell_below hw' cub1; have q8 := pw_cell_below hw' cvb0; have q9 := pw_cell_below hw' cvb1; exact yieldA)) (h := ?_); refine takeF (i := 8) (N := (some 245)) (hS := plS) (hy := by (intro w' hw'; replace hw' : Below (World.heap w16a).size w16a w' := hw'; have q0 := pw_cell_below hw' hx1; have q1 := pw_cell_below hw' hr0; have q2 := pw_cell_below hw' ctb0; have q3 := pw_cell_below hw' ctb1; have q4 := pw_cell_below hw' cxb0; have q5 := pw_cell_below hw' cxb1; have q6 := pw_cell_below hw' cub0; have q7 := pw_cell_below hw' cub1; have q8 := pw_cell_below hw' cvb0; have q9 := pw_cell_below hw' cvb1; exact yieldA)) (h := ?_); refine takeF (i := 11) (N := (some 248)) (hS := plS) (hy := by (intro w' hw'; replace hw' : Below (World.heap w16a).size w16a w' := hw'; have q0 := pw_cell_below hw' hx1; have q1 := pw_cell_below hw' hr0; have q2 := pw_cell_below hw' ctb0; have q3 := pw_cell_below hw' ctb1; have q4 := pw_cell_below hw' cxb0; have q5 := pw_cell_below hw' cxb1; have q6 := pw_cell_below hw' cub0; have q7 := pw_cell_below hw' cub1; have q8 := pw_cell_below hw' cvb0; have q9 := pw_cell_below hw' cvb1; exact yieldA)) (h := ?_); refine pureY (i := 12) (N := (some 249)) ?_; refine pureY (i := 13) (N := (some 250)) ?_; refine takeF (i := 14) (N := (some 251)) (hS := plS) (hy := by (intro w' hw'; replace hw' : Below (World.heap w16a).size w16a w' := hw'; have q0 := pw_cell_below hw' hx1; have q1 := pw_cell_below hw' hr0; have q2 := pw_cell_below hw' ctb0; have q3 := pw_cell_below hw' ctb1; have q4 := pw_cell_below hw' cxb0; have q5 := pw_cell_below hw' cxb1; have q6 := pw_cell_below hw' cub0; have q7 := pw_cell_below hw' cub1; have q8 := pw_cell_below hw' cvb0; have q9 := pw_cell_below hw' cvb1; exact yieldA)) (h := ?_); refine takeF (i := 16) (N := (some 253)) (hS := plS) (hy := by (intro w' hw'; replace hw' : Below (World.heap w16a).size w16a w' := hw'; have q0 := pw_cell_below hw' hx1; have q1 := pw_cell_below hw' hr0; have q2 := pw_cell_below hw' ctb0; have q3 := pw_cell_below hw' ctb1; have q4 := pw_cell_below hw' cxb0; have q5 := pw_cell_below hw' cxb1; have q6 := pw_cell_below hw' cub0; have q7 := pw_cell_below hw' cub1; have q8 := pw_cell_below hw' cvb0; have q9 := pw_cell_below hw' cvb1; exact yieldA)) (h := ?_); refine oneY (i := 17) (fun plK plH => ?_); rw [if_pos (by rfl)]; (first | gi_big_move | go_big_op | go_simp))
   refine (forecourtref01_Between.calls k (some ad3) c l p (some ad) cx xT f0 dT u1T u2T w16a.drew (Kd.C_below HR_16a.out ((Below.refl _ _).drew)) HC.out (Kd.C_below Hx_16a.out ((Below.refl _ _).drew)) Hx_L.out HBT.out).mono ?_
   rintro e y1 ⟨rfl, hb⟩
   have hB1 : Below w16a.heap.size w16a y1 := ((Below.refl _ w16a).drew).trans hb
   clear hb
   ((try simp only [Act.put, List.getElem_toArray, List.getElem_cons_succ, List.getElem_cons_zero, List.setIfInBounds_toArray, List.set_cons_succ, List.set_cons_zero]); refine plH _ _ hB1 (fun plS => ?_); clear plH plK; refine pureY (i := 18) (N := (some 255)) ?_; refine pureY (i := 19) (N := (some 256)) ?_; refine pureN (i := 20) (N := (some 257)) ?_; refine pureN (i := 21) (N := (some 258)) ?_; refine pureN (i := 22) (N := (some 259)) ?_; refine pureN (i := 23) (N := (some 260)) ?_; refine pureY (i := 24) (N := (some 261)) ?_; refine pureY (i := 25) (N := (some 262)) ?_; refine pureY (i := 26) (N := (some 263)) ?_; refine takeF (i := 27) (N := (some 264)) (hS := plS) (hy := by (intro w' hw'; replace hw' : Below (World.heap w16a).size w16a w' := hw'; have q0 := pw_cell_below hw' hx1; have q1 := pw_cell_below hw' hr0; have q2 := pw_cell_below hw' ctb0; have q3 := pw_cell_below hw' ctb1; have q4 := pw_cell_below hw' cxb0; have q5 := pw_cell_below hw' cxb1; have q6 := pw_cell_below hw' cub0; have q7 := pw_cell_below hw' cub1; have q8 := pw_cell_below hw' cvb0; have q9 := pw_cell_below hw' cvb1; exact yieldA)) (h := ?_); refine takeF (i := 28) (N := (some 265)) (hS := plS) (hy := by (intro w' hw'; replace hw' : Below (World.heap w16a).size w16a w' := hw'; have q0 := pw_cell_below hw' hx1; have q1 := pw_cell_below hw' hr0; have q2 := pw_cell_below hw' ctb0; have q3 := pw_cell_below hw' ctb1; have q4 := pw_cell_below hw' cxb0; have q5 := pw_cell_below hw' cxb1; have q6 := pw_cell_below hw' cub0; have q7 := pw_cell_below hw' cub1; have q8 := pw_cell_below hw' cvb0; have q9 := pw_cell_below hw' cvb1; exact yieldA)) (h := ?_); refine oneY (i := 29) (fun plK plH => ?_); rw [if_pos (by rfl)]; (first | gi_big_move | go_big_op | go_simp))
   refine (forecourtref01_Less.calls v1T v2T u1T u2T false y1 HO.out.high.less).mono ?_
   rintro e y2 ⟨rfl, hb⟩
   have hB2 : Below w16a.heap.size w16a y2 := below_then hB1 hb
   clear hb
   ((try simp only [Act.put, List.getElem_toArray, List.getElem_cons_succ, List.getElem_cons_zero, List.setIfInBounds_toArray, List.set_cons_succ, List.set_cons_zero]); refine plH _ _ hB2 (fun plS => ?_); clear plH plK; refine pureY (i := 30) (N := (some 267)) ?_; refine done_ (by kernel_rfl) ?_)
   clear plS
   go_wp2_with fail
   go_roundw
   case rel => exact ⟨2, by omega, by go_num, below_then HBi.out (below_then HJ_16a.out hB2)⟩
   case measure => simp [RowKit.intOf]
  skip
  go_wp2_with fail
  (refine start_ (n := 31) (S := fun w' => Below (World.heap _).size _ w') (ds := []) (List.toArray (false :: false :: false :: false :: false :: false :: false :: false :: false :: false :: false :: false :: false :: false :: false :: false :: false :: false :: false :: false :: false :: false :: false :: false :: false :: false :: false :: false :: false :: false :: false :: [])) (by kernel_rfl) rfl rfl (belowDrew _) (fun plS => ?_); refine pureY (i := 0) (N := (some 237)) ?_; refine pureY (i := 1) (N := (some 238)) ?_; refine pureY (i := 2) (N := (some 239)) ?_; refine pureY (i := 3) (N := (some 240)) ?_; refine pureY (i := 4) (N := (some 241)) ?_; refine pureY (i := 5) (N := (some 242)) ?_; refine pureY (i := 6) (N := (some 243)) ?_; refine pureY (i := 9) (N := (some 246)) ?_; refine pureY (i := 10) (N := (some 247)) ?_; refine pureY (i := 15) (N := (some 252)) ?_; refine takeF (i := 7) (N := (some 244)) (hS := plS) (hy := by (intro w' hw'; replace hw' : Below (World.heap w16a).size w16a w' := hw'; have q0 := pw_cell_below hw' hx1; have q1 := pw_cell_below hw' hr0; have q2 := pw_cell_below hw' ctb0; have q3 := pw_cell_below hw' ctb1; have q4 := pw_cell_below hw' cxb0; have q5 := pw_cell_below hw' cxb1; have q6 := pw_cell_below hw' cub0; have q7 := pw_cell_below hw' cub1; have q8 := pw_cell_below hw' cvb0; have q9 := pw_cell_below hw' cvb1; exact yieldA)) (h := ?_); refine takeF (i := 8) (N := (some 245)) (hS := plS) (hy := by (intro w' hw'; replace hw' : Below (World.heap w16a).size w16a w' := hw'; have q0 := pw_cell_below hw' hx1; have q1 := pw_cell_below hw' hr0; have q2 := pw_cell_below hw' ctb0; have q3 := pw_cell_below hw' ctb1; have q4 := pw_cell_below hw' cxb0; have q5 := pw_cell_below hw' cxb1; have q6 := pw_cell_below hw' cub0; have q7 := pw_cell_below hw' cub1; have q8 := pw_cell_below hw' cvb0; have q9 := pw_cell_below hw' cvb1; exact yieldA)) (h := ?_); refine takeF (i := 11) (N := (some 248)) (hS := plS) (hy := by (intro w' hw'; replace hw' : Below (World.heap w16a).size w16a w' := hw'; have q0 := pw_cell_below hw' hx1; have q1 := pw_cell_below hw' hr0; have q2 := pw_cell_below hw' ctb0; have q3 := pw_cell_below hw' ctb1; have q4 := pw_cell_below hw' cxb0; have q5 := pw_cell_below hw' cxb1; have q6 := pw_cell_below hw' cub0; have q7 := pw_cell_below hw' cub1; have q8 := pw_cell_below hw' cvb0; have q9 := pw_cell_below hw' cvb1; exact yieldA)) (h := ?_); refine pureY (i := 12) (N := (some 249)) ?_; refine pureY (i := 13) (N := (some 250)) ?_; refine takeF (i := 14) (N := (some 251)) (hS := plS) (hy := by (intro w' hw'; replace hw' : Below (World.heap w16a).size w16a w' := hw'; have q0 := pw_cell_below hw' hx1; have q1 := pw_cell_below hw' hr0; have q2 := pw_cell_below hw' ctb0; have q3 := pw_cell_below hw' ctb1; have q4 := pw_cell_below hw' cxb0; have q5 := pw_cell_below hw' cxb1; have q6 := pw_cell_below hw' cub0; have q7 := pw_cell_below hw' cub1; have q8 := pw_cell_below hw' cvb0; have q9 := pw_cell_below hw' cvb1; exact yieldA)) (h := ?_); refine takeF (i := 16) (N := (some 253)) (hS := plS) (hy := by (intro w' hw'; replace hw' : Below (World.heap w16a).size w16a w' := hw'; have q0 := pw_cell_below hw' hx1; have q1 := pw_cell_below hw' hr0; have q2 := pw_cell_below hw' ctb0; have q3 := pw_cell_below hw' ctb1; have q4 := pw_cell_below hw' cxb0; have q5 := pw_cell_below hw' cxb1; have q6 := pw_cell_below hw' cub0; have q7 := pw_cell_below hw' cub1; have q8 := pw_cell_below hw' cvb0; have q9 := pw_cell_below hw' cvb1; exact yieldA)) (h := ?_); refine oneY (i := 17) (fun plK plH => ?_); rw [if_pos (by rfl)]; (first | gi_big_move | go_big_op | go_simp))
  refine (forecourtref01_Between.calls k (some ad3) c l p (some ad) cx xT f0 dT z1T z2T w16a.drew (Kd.C_below HR_16a.out ((Below.refl _ _).drew)) HC.out (Kd.C_below Hx_16a.out ((Below.refl _ _).drew)) Hx_L.out HBT.out).mono ?_
  rintro e y1 ⟨rfl, hb⟩
  have hB1 : Below w16a.heap.size w16a y1 := ((Below.refl _ w16a).drew).trans hb
  clear hb
  ((try simp only [Act.put, List.getElem_toArray, List.getElem_cons_succ, List.getElem_cons_zero, List.setIfInBounds_toArray, List.set_cons_succ, List.set_cons_zero]); refine plH _ _ hB1 (fun plS => ?_); clear plH plK; refine pureY (i := 18) (N := (some 255)) ?_; refine pureY (i := 19) (N := (some 256)) ?_; refine pureY (i := 20) (N := (some 257)) ?_; refine pureY (i := 21) (N := (some 258)) ?_; refine takeF (i := 22) (N := (some 259)) (hS := plS) (hy := by (intro w' hw'; replace hw' : Below (World.heap w16a).size w16a w' := hw'; have q0 := pw_cell_below hw' hx1; have q1 := pw_cell_below hw' hr0; have q2 := pw_cell_below hw' ctb0; have q3 := pw_cell_below hw' ctb1; have q4 := pw_cell_below hw' cxb0; have q5 := pw_cell_below hw' cxb1; have q6 := pw_cell_below hw' cub0; have q7 := pw_cell_below hw' cub1; have q8 := pw_cell_below hw' cvb0; have q9 := pw_cell_below hw' cvb1; exact yieldA)) (h := ?_); refine pureY (i := 23) (N := (some 260)) ?_; refine pureY (i := 24) (N := (some 261)) ?_; refine pureY (i := 25) (N := (some 262)) ?_; refine pureY (i := 26) (N := (some 263)) ?_; refine takeF (i := 27) (N := (some 264)) (hS := plS) (hy := by (intro w' hw'; replace hw' : Below (World.heap w16a).size w16a w' := hw'; have q0 := pw_cell_below hw' hx1; have q1 := pw_cell_below hw' hr0; have q2 := pw_cell_below hw' ctb0; have q3 := pw_cell_below hw' ctb1; have q4 := pw_cell_below hw' cxb0; have q5 := pw_cell_below hw' cxb1; have q6 := pw_cell_below hw' cub0; have q7 := pw_cell_below hw' cub1; have q8 := pw_cell_below hw' cvb0; have q9 := pw_cell_below hw' cvb1; exact yieldA)) (h := ?_); refine takeF (i := 28) (N := (some 265)) (hS := plS) (hy := by (intro w' hw'; replace hw' : Below (World.heap w16a).size w16a w' := hw'; have q0 := pw_cell_below hw' hx1; have q1 := pw_cell_below hw' hr0; have q2 := pw_cell_below hw' ctb0; have q3 := pw_cell_below hw' ctb1; have q4 := pw_cell_below hw' cxb0; have q5 := pw_cell_below hw' cxb1; have q6 := pw_cell_below hw' cub0; have q7 := pw_cell_below hw' cub1; have q8 := pw_cell_below hw' cvb0; have q9 := pw_cell_below hw' cvb1; exact yieldA)) (h := ?_); refine oneY (i := 29) (fun plK plH => ?_); rw [if_pos (by rfl)]; (first | gi_big_move | go_big_op | go_simp))
  refine (forecourtref01_Less.calls v1T v2T u1T u2T false y1 HO.out.high.less).mono ?_
  rintro e y2 ⟨rfl, hb⟩
  have hB2 : Below w16a.heap.size w16a y2 := below_then hB1 hb
  clear hb
  ((try simp only [Act.put, List.getElem_toArray, List.getElem_cons_succ, List.getElem_cons_zero, List.setIfInBounds_toArray, List.set_cons_succ, List.set_cons_zero]); refine plH _ _ hB2 (fun plS => ?_); clear plH plK; refine pureY (i := 30) (N := (some 267)) ?_; refine done_ (by kernel_rfl) ?_)
  clear plS
  go_wp2_with fail
  go_roundw
  case rel => exact ⟨2, by omega, by go_num, below_then HBi.out (below_then HJ_16a.out hB2)⟩
  case measure => simp [RowKit.intOf]
 go_wp2_with fail
 refine (forecourtlaw01_Works.calls true w11 ⟨rfl⟩ rfl).mono ?_
 rintro e wz ⟨rfl, hB⟩
 go_wp2_with fail
 go_ret
 exact ⟨rfl, below_then HB_11.out hB⟩
end Go.Proofs.Ytpkajhmchcbbhaa.P
end
