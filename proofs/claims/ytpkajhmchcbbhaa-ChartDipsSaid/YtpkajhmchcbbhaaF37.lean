/- Part 37 of 39. -/
import Derived.Test.YtpkajhmchcbbhaaF31
import Derived.Test.YtpkajhmchcbbhaaF20
import Derived.Test.YtpkajhmchcbbhaaF36
import Derived.Test.YtpkajhmchcbbhaaF17
import Derived.Test.YtpkajhmchcbbhaaF6
import Derived.Test.YtpkajhmchcbbhaaF7
set_option linter.unusedSimpArgs false
set_option linter.unusedVariables false
section
namespace Go.Proofs.Ytpkajhmchcbbhaa.P
open Go Go.BigFrame Go.RowKit Go.Proofs.YtpkajhmchcbbhaaW.PrintWords Go.Proofs.YtpkajhmchcbbhaaW.PrintLast Go.Proofs.YtpkajhmchcbbhaaW.PrintMore
set_option maxRecDepth 100000 in
set_option maxHeartbeats 20000000 in
theorem refDips_walk (A : Option Addr) (c : Nat) (l : List SRow) (p : Int) (v : Int) (r1 : Int) (r2 : Int) (r3 : Int) (k1 k2 k3 : Nat) (w w0 : World) (HR_0 : Aside0 (Kd.C kRow w0 A l.length l)) (HC : Hid (l.length ≤ c)) (HB_0 : Aside0 (Below w.heap.size w w0)) (HE : Aside0 (chart_Dips.f l p v = some (r1, r2, r3)))
  (HK1 : Hid (forecourtref01_CheckTank.f k1 l p = some (checkTank l p))) (HK2 : Hid (checkTank l p = 0 → forecourtref01_Clashes.f k2 l p = some (!tightOk l))) (HK3 : Hid (forecourtref01_tight.f k3 l p = some (tightL l))) :
  Calls Try.prog 35 #[.agg #[.slice A l.length c, .int .i64 p], .int .i64 v] w0 fun e w' => e = .returned (.tuple #[.agg #[.int .i64 r1, .int .i64 r2], .int .i64 r3]) ∧ Below w.heap.size w w' := by
 replace HE := Aside0.mk (Option.some.inj HE.out)
 have hu1 := Try.underlying24
 have hu2 := Try.underlying70
 have hu3 := Try.underlying43
 have hu4 := Try.underlying28
 have HF_0 : Aside0 (Held [] w0) := ⟨⟨fun b cs t hm => by simp at hm⟩⟩
 go_enter Try.func35, Try.ntmps35
 go_wp2_with fail
 obtain ⟨w0a, hZ⟩ : ∃ Z, w0.alloc (.cells #[.slice A l.length c, .int .i64 p] 24) = Z := ⟨_, rfl⟩
 obtain ⟨tb, hbk⟩ : ∃ b, b = w0.heap.size := ⟨_, rfl⟩
 have HF_0a : Aside0 (Held [(tb, #[.slice A l.length c, .int .i64 p], 24)] w0a) := ⟨by rw [← hZ, hbk]; exact HF_0.out.new _ _⟩
 have HSZ := Lib.hid (show w0a.heap.size = tb + 1 by rw [← hZ, hbk]; simp)
 have HR_0a : Aside0 (Kd.C kRow w0a A l.length l) := ⟨by rw [← hZ]; exact Kd.C_below HR_0.out ((Below.refl _ _).alloc (Nat.le_refl _) _)⟩
 have HB_0a : Aside0 (Below w.heap.size w w0a) := ⟨by rw [← hZ]; exact HB_0.out.alloc HB_0.out.size _⟩
 rw [hZ, ← hbk]
 clear hZ hbk HF_0 HB_0 HR_0 w0
 obtain ⟨w0aa, hZ⟩ : ∃ Z, w0a.alloc (.cells #[.int .i64 0, .int .i64 0] 43) = Z := ⟨_, rfl⟩
 obtain ⟨ob, hbk⟩ : ∃ b, b = tb + 1 := ⟨_, rfl⟩
 have HF_0aa : Aside0 (Held [(ob, #[.int .i64 0, .int .i64 0], 43), (tb, #[.slice A l.length c, .int .i64 p], 24)] w0aa) := ⟨by rw [← hZ, hbk, ← HSZ.out]; exact HF_0a.out.new _ _⟩
 have HLob := Lib.hid (show w.heap.size ≤ ob by have hz1 := HB_0a.out.size; have hz2 := HSZ.out; omega)
 have HR_0aa : Aside0 (Kd.C kRow w0aa A l.length l) := ⟨by rw [← hZ]; exact Kd.C_below HR_0a.out ((Below.refl _ _).alloc (Nat.le_refl _) _)⟩
 have HB_0aa : Aside0 (Below w.heap.size w w0aa) := ⟨by rw [← hZ]; exact HB_0a.out.alloc HB_0a.out.size _⟩
 rw [hZ, ← hbk]
 clear hZ hbk HSZ HF_0a HB_0a HR_0a w0a
 have HFAIL : Aside0 (∀ (W : World) (x y : Int), W.heap[ob]? = some (.cells #[.int .i64 x, .int .i64 y] 43 (0, 0)) → Below w.heap.size w W → ∀ (tmps : Array Value) (r : Int), tmps.getD 4 undef = .pointer (some ⟨ob, 0, none⟩) → tmps.getD 5 undef = .int .i64 r → x = r1 → y = r2 → r = r3 →
   bodyPost Try.prog Try.f35 (fun e w' => e = .returned (.tuple #[.agg #[.int .i64 r1, .int .i64 r2], .int .i64 r3]) ∧ Below w.heap.size w w') .ret { tmps := tmps, defers := [] } W) := ⟨by
  intro W x y hW hB tmps r h4 h5 e1 e2 e3
  subst e1 e2 e3
  refine bodyPost_ret (results_arr2 rfl h4 isAggR sizeOfR (SegOk.mk' hW 0 2 (by simp))) rfl ⟨?_, hB⟩
  rw [seg_whole (n := 2) hW rfl, h5]⟩
 refine (forecourtref01_CheckTank.calls k1 A c l p (checkTank l p) w0aa HR_0aa.out HC.out HK1.out).mono ?_
 rintro e w1 ⟨rfl, hB⟩
 have HF_1 := Aside0.mk (HF_0aa.out.below hB)
 have HB_1 := Aside0.mk (below_then HB_0aa.out hB)
 have HR_1 := Aside0.mk (Kd.C_below HR_0aa.out hB)
 clear hB HF_0aa HB_0aa HR_0aa w0aa
 by_cases h0 : checkTank l p = 0
 rotate_left
 ·skip
  obtain ⟨e1, e2, e3⟩ : r1 = 0 ∧ r2 = 0 ∧ r3 = checkTank l p := by
   have := HE.out
   rw [if_pos h0] at this
   first | (simpa using this; done) | (simpa using this.symm; done)
  have HE3 := Lib.hid e1
  have HE4 := Lib.hid e2
  have HE5 := Lib.hid e3
  clear HE e1 e2 e3
  obtain ⟨q, hq⟩ : ∃ q, q = checkTank l p := ⟨_, rfl⟩
  rw [← hq] at h0 HK1 HE5 ⊢
  have hb0 : (q != 0) = true := by simpa using h0
  clear hq
  have hH := HF_1.out.get tb #[.slice A l.length c, .int .i64 p] 24 (by simp)
  have hltb := blk_lt hH
  have ctb0 : w1.cell? ⟨tb, 0, none⟩ = some (.slice A l.length c) := (blk_cell hH 0).trans rfl
  have ctb1 : w1.cell? ⟨tb, 1, none⟩ = some (.int .i64 p) := (blk_cell hH 1).trans rfl
  clear hH
  have hH := HF_1.out.get ob #[.int .i64 0, .int .i64 0] 43 (by simp)
  have hlob := blk_lt hH
  have cob0 : w1.cell? ⟨ob, 0, none⟩ = some (.int .i64 0) := (blk_cell hH 0).trans rfl
  have cob1 : w1.cell? ⟨ob, 1, none⟩ = some (.int .i64 0) := (blk_cell hH 1).trans rfl
  clear hH
  go_wp2_with fail
  clear hltb ctb0 ctb1 hlob cob0 cob1
  refine (forecourtref01_CheckTank.calls k1 A c l p q w1 HR_1.out HC.out HK1.out).mono ?_
  rintro e w2 ⟨rfl, hB⟩
  have HF_2 := Aside0.mk (HF_1.out.below hB)
  have HB_2 := Aside0.mk (below_then HB_1.out hB)
  have HR_2 := Aside0.mk (Kd.C_below HR_1.out hB)
  clear hB HF_1 HB_1 HR_1 w1
  have hH := HF_2.out.get ob #[.int .i64 0, .int .i64 0] 43 (by simp)
  have hlob := blk_lt hH
  have cob0 : w2.cell? ⟨ob, 0, none⟩ = some (.int .i64 0) := (blk_cell hH 0).trans rfl
  have cob1 : w2.cell? ⟨ob, 1, none⟩ = some (.int .i64 0) := (blk_cell hH 1).trans rfl
  have fob0 := blk_frozen hH 0
  have fob1 := blk_frozen hH 1
  clear hH
  go_wp2
  have hM := HF_2.out.get ob #[.int .i64 0, .int .i64 0] 43 (by simp)
  exact HFAIL.out _ 0 0 (put2 _ _ hM) (put2_below _ _ HB_2.out HLob.out) _ _ rfl rfl HE3.out.symm HE4.out.symm HE5.out.symm
 rw [h0]
 have H0 := Lib.hid h0
 replace HE := Aside0.mk (HE.out.symm.trans (if_neg (by rw [h0]; simp)))
 have HK4 := Lib.hid (HK2.out h0)
 clear h0 HK1 HK2
 by_cases hv0 : v < 0
 ·have hb0 : decide (v < 0) = true := decide_eq_true hv0
  obtain ⟨e1, e2, e3⟩ : r1 = 0 ∧ r2 = 0 ∧ r3 = 3 := by
   have := HE.out
   rw [if_pos (show inB 0 100000 v = false by cases hq : inB 0 100000 v with | false => rfl | true => have := (inB_iff _ _ _).1 hq; omega)] at this
   first | (simpa using this; done) | (simpa using this.symm; done)
  have HE3 := Lib.hid e1
  have HE4 := Lib.hid e2
  have HE5 := Lib.hid e3
  clear HE e1 e2 e3
  have hH := HF_1.out.get ob #[.int .i64 0, .int .i64 0] 43 (by simp)
  have hlob := blk_lt hH
  have cob0 : w1.cell? ⟨ob, 0, none⟩ = some (.int .i64 0) := (blk_cell hH 0).trans rfl
  have cob1 : w1.cell? ⟨ob, 1, none⟩ = some (.int .i64 0) := (blk_cell hH 1).trans rfl
  have fob0 := blk_frozen hH 0
  have fob1 := blk_frozen hH 1
  clear hH
  go_wp2
  have hM := HF_1.out.get ob #[.int .i64 0, .int .i64 0] 43 (by simp)
  exact HFAIL.out _ 0 0 (put2 _ _ hM) (put2_below _ _ HB_1.out HLob.out) _ _ rfl rfl HE3.out.symm HE4.out.symm HE5.out.symm
 by_cases hv1 : v > 100000
 ·have hb0 : decide (v < 0) = false := decide_eq_false hv0
  have hb1 : decide (v > 100000) = true := decide_eq_true hv1
  obtain ⟨e1, e2, e3⟩ : r1 = 0 ∧ r2 = 0 ∧ r3 = 3 := by
   have := HE.out
   rw [if_pos (show inB 0 100000 v = false by cases hq : inB 0 100000 v with | false => rfl | true => have := (inB_iff _ _ _).1 hq; omega)] at this
   first | (simpa using this; done) | (simpa using this.symm; done)
  have HE3 := Lib.hid e1
  have HE4 := Lib.hid e2
  have HE5 := Lib.hid e3
  clear HE e1 e2 e3
  have hH := HF_1.out.get ob #[.int .i64 0, .int .i64 0] 43 (by simp)
  have hlob := blk_lt hH
  have cob0 : w1.cell? ⟨ob, 0, none⟩ = some (.int .i64 0) := (blk_cell hH 0).trans rfl
  have cob1 : w1.cell? ⟨ob, 1, none⟩ = some (.int .i64 0) := (blk_cell hH 1).trans rfl
  have fob0 := blk_frozen hH 0
  have fob1 := blk_frozen hH 1
  clear hH
  go_wp2
  have hM := HF_1.out.get ob #[.int .i64 0, .int .i64 0] 43 (by simp)
  exact HFAIL.out _ 0 0 (put2 _ _ hM) (put2_below _ _ HB_1.out HLob.out) _ _ rfl rfl HE3.out.symm HE4.out.symm HE5.out.symm
 have hb0 : decide (v < 0) = false := decide_eq_false hv0
 have hb1 : decide (v > 100000) = false := decide_eq_false hv1
 have HV : Hid (0 ≤ v ∧ v ≤ 100000) := Lib.hid (by omega)
 replace HE := Aside0.mk (HE.out.trans (if_neg (by rw [(inB_iff _ _ _).2 HV.out]; simp)))
 have hH := HF_1.out.get tb #[.slice A l.length c, .int .i64 p] 24 (by simp)
 have hltb := blk_lt hH
 have ctb0 : w1.cell? ⟨tb, 0, none⟩ = some (.slice A l.length c) := (blk_cell hH 0).trans rfl
 have ctb1 : w1.cell? ⟨tb, 1, none⟩ = some (.int .i64 p) := (blk_cell hH 1).trans rfl
 clear hH
 go_wp2_with fail
 clear hltb ctb0 ctb1 hv0 hv1 hb0 hb1
 refine (forecourtref01_Clashes.calls k2 A c l p (!tightOk l) w1 HR_1.out HC.out HK4.out).mono ?_
 rintro e w2 ⟨rfl, hB⟩
 have HF_2 := Aside0.mk (HF_1.out.below hB)
 have HB_2 := Aside0.mk (below_then HB_1.out hB)
 have HR_2 := Aside0.mk (Kd.C_below HR_1.out hB)
 clear hB HF_1 HB_1 HR_1 w1
 cases ht : tightOk l with
 | false =>
  simp only [Bool.not_false]
  replace HE := Aside0.mk (show (r1, r2, r3) = (0, 0, 21) from HE.out.trans (if_pos ht))
  obtain ⟨e1, e2, e3⟩ : r1 = 0 ∧ r2 = 0 ∧ r3 = 21 := by
   have := HE.out
   skip
   first | (simpa using this; done) | (simpa using this.symm; done)
  have HE3 := Lib.hid e1
  have HE4 := Lib.hid e2
  have HE5 := Lib.hid e3
  clear HE e1 e2 e3
  have hH := HF_2.out.get ob #[.int .i64 0, .int .i64 0] 43 (by simp)
  have hlob := blk_lt hH
  have cob0 : w2.cell? ⟨ob, 0, none⟩ = some (.int .i64 0) := (blk_cell hH 0).trans rfl
  have cob1 : w2.cell? ⟨ob, 1, none⟩ = some (.int .i64 0) := (blk_cell hH 1).trans rfl
  have fob0 := blk_frozen hH 0
  have fob1 := blk_frozen hH 1
  clear hH
  go_wp2
  have hM := HF_2.out.get ob #[.int .i64 0, .int .i64 0] 43 (by simp)
  exact HFAIL.out _ 0 0 (put2 _ _ hM) (put2_below _ _ HB_2.out HLob.out) _ _ rfl rfl HE3.out.symm HE4.out.symm HE5.out.symm
 | true =>
 simp only [Bool.not_true]
 have HFI := Aside0.mk (Fine.mk (tankOk_of H0.out) H0.out ht)
 replace HE := Aside0.mk (HE.out.trans (if_neg (by rw [ht]; simp)))
 clear ht HK4
 have hH := HF_2.out.get tb #[.slice A l.length c, .int .i64 p] 24 (by simp)
 have hltb := blk_lt hH
 have ctb0 : w2.cell? ⟨tb, 0, none⟩ = some (.slice A l.length c) := (blk_cell hH 0).trans rfl
 have ctb1 : w2.cell? ⟨tb, 1, none⟩ = some (.int .i64 p) := (blk_cell hH 1).trans rfl
 clear hH
 go_wp2_with fail
 clear hltb ctb0 ctb1
 refine (forecourtref01_tight.calls k3 A c l p (tightL l) w2 HR_2.out HC.out HK3.out).mono ?_
 rintro e w3 ⟨v0, rfl, Ht, hB⟩
 obtain ⟨At, ct, rfl, Htl, Htr⟩ := Kd.R_reads Ht
 have Ht_L := Lib.hid Htl
 have Ht_3 := Aside0.mk Htr
 clear Ht Htl Htr
 have HF_3 := Aside0.mk (HF_2.out.below hB)
 have HB_3 := Aside0.mk (below_then HB_2.out hB)
 have HR_3 := Aside0.mk (Kd.C_below HR_2.out hB)
 clear hB HF_2 HB_2 HR_2 w2
 have htl := Lib.hid (tightL_len l)
 go_wp2_with fail
 have HJ_3 : Aside0 (Below w3.heap.size w3 w3) := ⟨Below.refl _ _⟩
 go_loopw [6, 7, 9] (fun v6 v7 v9 w' => ∃ i : Nat, i ≤ l.length ∧ v9 = .int .i64 i ∧ Below w3.heap.size w3 w' ∧ Two w3.heap.size w' v6 v7 i i ((lows l).take i) ((highs l).take i)) (fun v6 v7 v9 _ => l.length - (RowKit.intOf v9).toNat)
 case atStart => exact ⟨0, Nat.zero_le _, rfl, Below.refl _ _, Two.start _ _⟩
 case round =>
 obtain ⟨i, hi, rfl, hBi, hTwo⟩ := hrel
 have HTW := Aside0.mk hTwo
 clear hTwo
 obtain ⟨w4, hZ⟩ : ∃ Z, wr = Z := ⟨_, rfl⟩
 have hB := hBi
 rw [hZ] at hB
 rw [hZ]
 have HF_4 := Aside0.mk (HF_3.out.below hB)
 have HB_4 := Aside0.mk (below_then HB_3.out hB)
 have HR_4 := Aside0.mk (Kd.C_below HR_3.out hB)
 have Ht_4 := Aside0.mk (Kd.C_below Ht_3.out hB)
 have HJ_4 := Aside0.mk (below_then HJ_3.out hB)
 rw [hZ] at HTW
 have HBi := Aside0.mk hB
 clear hZ hB
 by_cases hlt : i < l.length
 ·obtain ⟨ad2, ea, hx2, hx3⟩ := at_T43 Ht_3.out (i : Int) (by omega) (by have := htl.out; omega)
  cases ea
  rw [rdTight l i hlt, Int.toNat_natCast] at hx2 hx3
  obtain ⟨lo, elo⟩ : ∃ z, z = lowN l i := ⟨_, rfl⟩
  obtain ⟨hi2, ehi⟩ : ∃ z, z = highN l i := ⟨_, rfl⟩
  rw [← elo] at hx2
  rw [← ehi] at hx3
  replace hx2 : w3.cell? (ad2.add (i * 2)) = some (.int .i64 lo) := hx2
  replace hx3 : w3.cell? ⟨(ad2.add (i * 2)).block, (ad2.add (i * 2)).off + 1, none⟩ = some (.int .i64 hi2) := hx3
  have p1 : (0 : Int) ≤ (i : Int) := by omega
  have p3 : (i : Int) < (tightL l).length := by have := htl.out; omega
  have p4 : (i : Int) ≤ 1000 := by have := HFI.out.tank.n16; omega
  have ELO := Lib.hid elo
  have EHI := Lib.hid ehi
  clear elo ehi
  go_wp2_with fail
  have hB0 : Below w3.heap.size w3 w4.drew := HBi.out.drew
  (refine start_ (n := 18) (S := fun w' => Below (World.heap w3).size w3 w') (ds := []) (List.toArray (false :: false :: false :: false :: false :: false :: false :: false :: false :: false :: false :: false :: false :: false :: false :: false :: false :: false :: [])) (by kernel_rfl) rfl rfl hB0 (fun plS => ?_); refine pureY (i := 0) (N := (some 41)) ?_; refine pureY (i := 1) (N := (some 42)) ?_; refine pureY (i := 2) (N := (some 43)) ?_; refine pureY (i := 3) (N := (some 44)) ?_; refine pureY (i := 4) (N := (some 45)) ?_; refine pureY (i := 8) (N := (some 49)) ?_; refine pureY (i := 9) (N := (some 50)) ?_; refine pureY (i := 10) (N := (some 51)) ?_; refine pureY (i := 11) (N := (some 52)) ?_; refine pureY (i := 12) (N := (some 53)) ?_; refine takeF (i := 5) (N := (some 46)) (hS := plS) (hy := by (intro w' hw'; replace hw' : Below (World.heap w3).size w3 w' := hw'; have q0 := pw_cell_below hw' hx2; have q1 := pw_cell_below hw' hx3; exact yieldA)) (h := ?_); refine takeF (i := 13) (N := (some 54)) (hS := plS) (hy := by (intro w' hw'; replace hw' : Below (World.heap w3).size w3 w' := hw'; have q0 := pw_cell_below hw' hx2; have q1 := pw_cell_below hw' hx3; exact yieldA)) (h := ?_))
  have HT0 := HTW.out.below (belowDrew w4)
  obtain ⟨y0, hy0⟩ : ∃ Y, w4.drew = Y := ⟨_, rfl⟩
  rw [hy0] at hB0 HT0 ⊢
  clear hy0 plS
  have hN1 := own_lt HT0.a
  have hN2 := own_lt HT0.b
  have hS0 : w3.heap.size ≤ y0.heap.size := hB0.size
  refine join_ (σ := Value × Value × Nat × Nat) 2 (List.toArray (true :: true :: true :: true :: true :: true :: true :: true :: true :: true :: true :: true :: true :: true :: true :: true :: false :: false :: [])) (fun s => [(47, .slice (some ⟨s.2.2.1, 0, none⟩) 1 1), (48, s.1), (55, .slice (some ⟨s.2.2.2, 0, none⟩) 1 1), (56, s.2.1)])
   (fun s W => Below w3.heap.size w3 W ∧ Two w3.heap.size W s.1 s.2.1 (i + 1) (i + 1) ((lows l).take i ++ [lo]) ((highs l).take i ++ [hi2])) ?_ ?_
  rotate_left
  ·intro hJ
   (refine two_ (i := 6) (j := 14) (List.toArray (true :: true :: true :: true :: true :: true :: true :: false :: true :: true :: true :: true :: true :: true :: false :: false :: false :: false :: [])) (List.toArray (true :: true :: true :: true :: true :: true :: false :: false :: true :: true :: true :: true :: true :: true :: true :: false :: false :: false :: [])) rfl rfl rfl rfl (by kernel_rfl) (by decide) (by decide) (fun plK plH => ?_) (fun plK plH => ?_))
   all_goals (first | ((try (rw [if_pos (by rfl)]; (first | gi_big_move | go_big_op | go_simp))); obtain ⟨y1, hy⟩ : ∃ Y, World.alloc y0 (.cells #[.int .i64 lo] 2) = Y := ⟨_, rfl⟩; obtain ⟨b1, hb⟩ : ∃ b, b = y0.heap.size := ⟨_, rfl⟩; have hx1 : Below y0.heap.size y0 y1 := (by rw [← hy]; exact below_own _ _); have hM1 : y1.heap[b1]? = some (.cells #[.int .i64 lo] 2 (0, 0)) := (by rw [← hy, hb]; exact blk_new _ _); have hL1 : y0.heap.size ≤ b1 := (by omega); have hB1 := below_then hB0 hx1; have HT1 := HT0.below hx1; have hS1 : y0.heap.size ≤ y1.heap.size := Nat.le_trans (by omega) hx1.size; rw [hy, ← hb]; clear hy hb) | ((try (rw [if_pos (by rfl)]; (first | gi_big_move | go_big_op | go_simp))); obtain ⟨y1, hy⟩ : ∃ Y, World.alloc y0 (.cells #[.int .i64 hi2] 2) = Y := ⟨_, rfl⟩; obtain ⟨b1, hb⟩ : ∃ b, b = y0.heap.size := ⟨_, rfl⟩; have hx1 : Below y0.heap.size y0 y1 := (by rw [← hy]; exact below_own _ _); have hM1 : y1.heap[b1]? = some (.cells #[.int .i64 hi2] 2 (0, 0)) := (by rw [← hy, hb]; exact blk_new _ _); have hL1 : y0.heap.size ≤ b1 := (by omega); have hB1 := below_then hB0 hx1; have HT1 := HT0.below hx1; have hS1 : y0.heap.size ≤ y1.heap.size := Nat.le_trans (by omega) hx1.size; rw [hy, ← hb]; clear hy hb) | (refine step_fst HT0 rfl _ _ rfl rfl _ rfl _ _ (by assumption) hB0 (by omega) (by omega) hN1 ?_; intro v1 y1 hT hB1 hO1 hS; have HT1 := hT; have hS1 : y0.heap.size ≤ y1.heap.size := (by omega); clear hT hS) | (refine step_fst HT0.swap rfl _ _ rfl rfl _ rfl _ _ (by assumption) hB0 (by omega) (by omega) hN2 ?_; intro v1 y1 hT hB1 hO1 hS; have HT1 := hT.swap; have hS1 : y0.heap.size ≤ y1.heap.size := (by omega); clear hT hS))
   all_goals (first | ((try simp only [Act.put, List.getElem_toArray, List.getElem_cons_succ, List.getElem_cons_zero, List.setIfInBounds_toArray, List.set_cons_succ, List.set_cons_zero]); refine plH _ _ hB1  (fun plS => ?_); clear plH plK; refine at_ #[true, true, true, true, true, true, true, false, true, true, true, true, true, true, false, false, false, false] rfl ?_; refine two_ (i := 7) (j := 14) (List.toArray (true :: true :: true :: true :: true :: true :: true :: true :: true :: true :: true :: true :: true :: true :: false :: false :: false :: false :: [])) (List.toArray (true :: true :: true :: true :: true :: true :: true :: false :: true :: true :: true :: true :: true :: true :: true :: false :: false :: false :: [])) rfl rfl rfl rfl (by kernel_rfl) (by decide) (by decide) (fun plK plH => ?_) (fun plK plH => ?_)) | ((try simp only [Act.put, List.getElem_toArray, List.getElem_cons_succ, List.getElem_cons_zero, List.setIfInBounds_toArray, List.set_cons_succ, List.set_cons_zero]); refine plH _ _ hB1  (fun plS => ?_); clear plH plK; refine at_ #[true, true, true, true, true, true, false, false, true, true, true, true, true, true, true, false, false, false] rfl ?_; refine oneY (i := 6) (fun plK plH => ?_); rw [if_pos (by rfl)]; (first | gi_big_move | go_big_op | go_simp)))
   all_goals (first | ((try (rw [if_pos (by rfl)]; (first | gi_big_move | go_big_op | go_simp))); obtain ⟨y2, hy⟩ : ∃ Y, World.alloc y1 (.cells #[.int .i64 lo] 2) = Y := ⟨_, rfl⟩; obtain ⟨b2, hb⟩ : ∃ b, b = y1.heap.size := ⟨_, rfl⟩; have hx2 : Below y1.heap.size y1 y2 := (by rw [← hy]; exact below_own _ _); have hM2 : y2.heap[b2]? = some (.cells #[.int .i64 lo] 2 (0, 0)) := (by rw [← hy, hb]; exact blk_new _ _); have hL2 : y0.heap.size ≤ b2 := (by omega); have hB2 := below_then hB1 hx2; have HT2 := HT1.below hx2; have hS2 : y0.heap.size ≤ y2.heap.size := Nat.le_trans (by omega) hx2.size; rw [hy, ← hb]; clear hy hb) | ((try (rw [if_pos (by rfl)]; (first | gi_big_move | go_big_op | go_simp))); obtain ⟨y2, hy⟩ : ∃ Y, World.alloc y1 (.cells #[.int .i64 hi2] 2) = Y := ⟨_, rfl⟩; obtain ⟨b2, hb⟩ : ∃ b, b = y1.heap.size := ⟨_, rfl⟩; have hx2 : Below y1.heap.size y1 y2 := (by rw [← hy]; exact below_own _ _); have hM2 : y2.heap[b2]? = some (.cells #[.int .i64 hi2] 2 (0, 0)) := (by rw [← hy, hb]; exact blk_new _ _); have hL2 : y0.heap.size ≤ b2 := (by omega); have hB2 := below_then hB1 hx2; have HT2 := HT1.below hx2; have hS2 : y0.heap.size ≤ y2.heap.size := Nat.le_trans (by omega) hx2.size; rw [hy, ← hb]; clear hy hb) | (refine step_fst HT1 rfl _ _ rfl rfl _ rfl _ _ (by assumption) hB1 (by omega) (by omega) hN1 ?_; intro v2 y2 hT hB2 hO2 hS; have HT2 := hT; have hS2 : y0.heap.size ≤ y2.heap.size := (by omega); clear hT hS) | (refine step_fst HT1.swap rfl _ _ rfl rfl _ rfl _ _ (by assumption) hB1 (by omega) (by omega) hN2 ?_; intro v2 y2 hT hB2 hO2 hS; have HT2 := hT.swap; have hS2 : y0.heap.size ≤ y2.heap.size := (by omega); clear hT hS))
   all_goals (try replace hM1 := (by first | exact blk_call hx2 hM1 | exact hO2 _ _ hM1 hL1))
   all_goals (first | ((try simp only [Act.put, List.getElem_toArray, List.getElem_cons_succ, List.getElem_cons_zero, List.setIfInBounds_toArray, List.set_cons_succ, List.set_cons_zero]); refine plH _ _ hB2  (fun plS => ?_); clear plH plK; refine at_ #[true, true, true, true, true, true, true, true, true, true, true, true, true, true, false, false, false, false] rfl ?_; refine oneY (i := 14) (fun plK plH => ?_); rw [if_pos (by rfl)]; (first | gi_big_move | go_big_op | go_simp)) | ((try simp only [Act.put, List.getElem_toArray, List.getElem_cons_succ, List.getElem_cons_zero, List.setIfInBounds_toArray, List.set_cons_succ, List.set_cons_zero]); refine plH _ _ hB2  (fun plS => ?_); clear plH plK; refine at_ #[true, true, true, true, true, true, true, false, true, true, true, true, true, true, true, false, false, false] rfl ?_; refine oneY (i := 7) (fun plK plH => ?_)))
   all_goals (first | ((try (rw [if_pos (by rfl)]; (first | gi_big_move | go_big_op | go_simp))); obtain ⟨y3, hy⟩ : ∃ Y, World.alloc y2 (.cells #[.int .i64 lo] 2) = Y := ⟨_, rfl⟩; obtain ⟨b3, hb⟩ : ∃ b, b = y2.heap.size := ⟨_, rfl⟩; have hx3 : Below y2.heap.size y2 y3 := (by rw [← hy]; exact below_own _ _); have hM3 : y3.heap[b3]? = some (.cells #[.int .i64 lo] 2 (0, 0)) := (by rw [← hy, hb]; exact blk_new _ _); have hL3 : y0.heap.size ≤ b3 := (by omega); have hB3 := below_then hB2 hx3; have HT3 := HT2.below hx3; have hS3 : y0.heap.size ≤ y3.heap.size := Nat.le_trans (by omega) hx3.size; rw [hy, ← hb]; clear hy hb) | ((try (rw [if_pos (by rfl)]; (first | gi_big_move | go_big_op | go_simp))); obtain ⟨y3, hy⟩ : ∃ Y, World.alloc y2 (.cells #[.int .i64 hi2] 2) = Y := ⟨_, rfl⟩; obtain ⟨b3, hb⟩ : ∃ b, b = y2.heap.size := ⟨_, rfl⟩; have hx3 : Below y2.heap.size y2 y3 := (by rw [← hy]; exact below_own _ _); have hM3 : y3.heap[b3]? = some (.cells #[.int .i64 hi2] 2 (0, 0)) := (by rw [← hy, hb]; exact blk_new _ _); have hL3 : y0.heap.size ≤ b3 := (by omega); have hB3 := below_then hB2 hx3; have HT3 := HT2.below hx3; have hS3 : y0.heap.size ≤ y3.heap.size := Nat.le_trans (by omega) hx3.size; rw [hy, ← hb]; clear hy hb) | (refine step_fst HT2 rfl _ _ rfl rfl _ rfl _ _ (by assumption) hB2 (by omega) (by omega) hN1 ?_; intro v3 y3 hT hB3 hO3 hS; have HT3 := hT; have hS3 : y0.heap.size ≤ y3.heap.size := (by omega); clear hT hS) | (refine step_fst HT2.swap rfl _ _ rfl rfl _ rfl _ _ (by assumption) hB2 (by omega) (by omega) hN2 ?_; intro v3 y3 hT hB3 hO3 hS; have HT3 := hT.swap; have hS3 : y0.heap.size ≤ y3.heap.size := (by omega); clear hT hS))
   all_goals (try replace hM1 := (by first | exact blk_call hx3 hM1 | exact hO3 _ _ hM1 hL1))
   all_goals (try replace hM2 := (by first | exact blk_call hx3 hM2 | exact hO3 _ _ hM2 hL2))
   all_goals ((try simp only [Act.put, List.getElem_toArray, List.getElem_cons_succ, List.getElem_cons_zero, List.setIfInBounds_toArray, List.set_cons_succ, List.set_cons_zero]); refine plH _ _ hB3  (fun plS => ?_); clear plH plK; refine oneY (i := 15) (fun plK plH => ?_))
   all_goals (first | ((try (rw [if_pos (by rfl)]; (first | gi_big_move | go_big_op | go_simp))); obtain ⟨y4, hy⟩ : ∃ Y, World.alloc y3 (.cells #[.int .i64 lo] 2) = Y := ⟨_, rfl⟩; obtain ⟨b4, hb⟩ : ∃ b, b = y3.heap.size := ⟨_, rfl⟩; have hx4 : Below y3.heap.size y3 y4 := (by rw [← hy]; exact below_own _ _); have hM4 : y4.heap[b4]? = some (.cells #[.int .i64 lo] 2 (0, 0)) := (by rw [← hy, hb]; exact blk_new _ _); have hL4 : y0.heap.size ≤ b4 := (by omega); have hB4 := below_then hB3 hx4; have HT4 := HT3.below hx4; have hS4 : y0.heap.size ≤ y4.heap.size := Nat.le_trans (by omega) hx4.size; rw [hy, ← hb]; clear hy hb) | ((try (rw [if_pos (by rfl)]; (first | gi_big_move | go_big_op | go_simp))); obtain ⟨y4, hy⟩ : ∃ Y, World.alloc y3 (.cells #[.int .i64 hi2] 2) = Y := ⟨_, rfl⟩; obtain ⟨b4, hb⟩ : ∃ b, b = y3.heap.size := ⟨_, rfl⟩; have hx4 : Below y3.heap.size y3 y4 := (by rw [← hy]; exact below_own _ _); have hM4 : y4.heap[b4]? = some (.cells #[.int .i64 hi2] 2 (0, 0)) := (by rw [← hy, hb]; exact blk_new _ _); have hL4 : y0.heap.size ≤ b4 := (by omega); have hB4 := below_then hB3 hx4; have HT4 := HT3.below hx4; have hS4 : y0.heap.size ≤ y4.heap.size := Nat.le_trans (by omega) hx4.size; rw [hy, ← hb]; clear hy hb) | (refine step_fst HT3 rfl _ _ rfl rfl _ rfl _ _ (by assumption) hB3 (by omega) (by omega) hN1 ?_; intro v4 y4 hT hB4 hO4 hS; have HT4 := hT; have hS4 : y0.heap.size ≤ y4.heap.size := (by omega); clear hT hS) | (refine step_fst HT3.swap rfl _ _ rfl rfl _ rfl _ _ (by assumption) hB3 (by omega) (by omega) hN2 ?_; intro v4 y4 hT hB4 hO4 hS; have HT4 := hT.swap; have hS4 : y0.heap.size ≤ y4.heap.size := (by omega); clear hT hS))
   all_goals (try replace hM1 := (by first | exact blk_call hx4 hM1 | exact hO4 _ _ hM1 hL1))
   all_goals (try replace hM2 := (by first | exact blk_call hx4 hM2 | exact hO4 _ _ hM2 hL2))
   all_goals (try replace hM3 := (by first | exact blk_call hx4 hM3 | exact hO4 _ _ hM3 hL3))
   all_goals (refine plH _ _ hB4 (fun plS => ?_); clear plH plK plS; (try simp only [Act.put, List.getElem_toArray, List.getElem_cons_succ, List.getElem_cons_zero, List.setIfInBounds_toArray, List.set_cons_succ, List.set_cons_zero]); first | exact hJ (v2, v4, b1, b3) y4 ⟨hB4, HT4⟩ | exact hJ (v3, v4, b1, b2) y4 ⟨hB4, HT4⟩ | exact hJ (v3, v4, b2, b1) y4 ⟨hB4, HT4⟩)
  rintro ⟨t6, t7, g1, g2⟩ V ⟨hBV, hTV⟩
  simp only at hTV
  refine norm_ (a' := ?_) (by (simp only [putAll, Act.put, List.setIfInBounds_toArray, List.set_cons_zero, List.set_cons_succ]; rfl)) ?_
  (refine pureY (i := 16) (N := (some 6)) ?_; refine pureY (i := 17) (N := (some 7)) ?_; refine done_ (by kernel_rfl) ?_)
  go_wp2_with fail
  go_roundw
  case rel => exact ⟨i + 1, by omega, by go_num, hBV, by rw [lows_succ l i hlt, highs_succ l i hlt, ← ELO.out, ← EHI.out]; exact hTV⟩
  case measure => simp [RowKit.intOf]; omega
 obtain rfl : i = l.length := by omega
 rw [lows_all, highs_all] at HTW
 have hS := HTW.out.slices
 clear HTW hlt hi
 obtain ⟨Hl, Hh⟩ := hS
 obtain ⟨Al, cl, rfl, Hll, Hlr⟩ := Kd.R_reads Hl
 have Hl_L := Lib.hid Hll
 have Hl_Y := Aside0.mk Hlr
 clear Hl Hll Hlr
 obtain ⟨Ah, ch, rfl, Hhl, Hhr⟩ := Kd.R_reads Hh
 have Hh_L := Lib.hid Hhl
 have Hh_Y := Aside0.mk Hhr
 clear Hh Hhl Hhr
 have Hl_4 := Hl_Y
 have Hh_4 := Hh_Y
 clear Hl_Y Hh_Y HBi
 have hn2 := HFI.out.tank.n2
 have hn16 := HFI.out.tank.n16
 have hq3 : decide ((l.length : Int) < ((tightL l).length : Int)) = false := decide_eq_false (by have := htl.out; omega)
 have hq4 : decide (l.length < (tightL l).length) = false := decide_eq_false (by have := htl.out; omega)
 have hq5 : ¬ l.length < (tightL l).length := by have := htl.out; omega
 obtain ⟨ad3, ea, hq0, hq1, hq2⟩ := at_T70 HR_4.out 0 (by omega) (by omega)
 cases ea
 clear hq0 hq1 hq2 Ht_3 Ht_4 HJ_4
 obtain ⟨_, ea, hr0, hr1, hr2⟩ := at_T70 HR_4.out 0 (by omega) (by omega)
 cases ea
 rw [show rd_T70 l (0 : Int) = l.getD 0 zRow from rdR_nat l 0] at hr0
 replace hr0 : w4.cell? (ad3.add 0) = some (.int .i64 (firstD l)) := hr0
 rw [addr_add0] at hr0
 have p1 : (0 : Int) < (l.length : Int) := by omega
 have p2 : 0 < l.length := by omega
 have p3 := cell_lt hr0
 clear hr1 hr2
 have hH := HF_4.out.get tb #[.slice (some ad3) l.length c, .int .i64 p] 24 (by simp)
 have hltb := blk_lt hH
 have ctb0 : w4.cell? ⟨tb, 0, none⟩ = some (.slice (some ad3) l.length c) := (blk_cell hH 0).trans rfl
 have ctb1 : w4.cell? ⟨tb, 1, none⟩ = some (.int .i64 p) := (blk_cell hH 1).trans rfl
 clear hH
 go_wp2_with fail
 clear hltb ctb0 ctb1 hr0 p3 hq3 hq4 hq5
 obtain ⟨nb, hnb⟩ : ∃ b, b = w4.heap.size := ⟨_, rfl⟩
 have hK1 := blk_lt (HF_4.out.get tb #[.slice (some ad3) l.length c, .int .i64 p] 24 (by simp))
 have hK2 := blk_lt (HF_4.out.get ob #[.int .i64 0, .int .i64 0] 43 (by simp))
 rw [← hnb] at hK1 hK2
 have NEt := Lib.hid (show tb ≠ nb by omega)
 have NEo := Lib.hid (show ob ≠ nb by omega)
 have NBS := Lib.hid (show w4.heap.size ≤ nb by omega)
 have hHN : Held ((nb, #[.int .i64 0, .int .i64 0], 43) :: [(ob, #[.int .i64 0, .int .i64 0], 43), (tb, #[.slice (some ad3) l.length c, .int .i64 p], 24)]) (w4.alloc (.cells #[.int .i64 0, .int .i64 0] 43)) := by rw [hnb]; exact HF_4.out.new _ _
 have hfl := HFI.out.tank.first_last
 rw [← hnb]
 clear hK1 hK2 hnb
 go_loopw [10, 12, 13, 14, 15, 16] (fun v10 v12 v13 v14 v15 v16 w' => ∃ (d x y : Int) (b : Bool), firstD l ≤ d ∧ d ≤ lastD l + 1 ∧ v10 = .bool b ∧ v12 = .int .i64 d ∧ Seen (dipsFrom l v) (dipsTo l v) d b x y ∧ Held ((nb, #[.int .i64 x, .int .i64 y], 43) :: [(ob, #[.int .i64 0, .int .i64 0], 43), (tb, #[.slice (some ad3) l.length c, .int .i64 p], 24)]) w' ∧ Below w4.heap.size w4 w') (fun v10 v12 v13 v14 v15 v16 _ => (lastD l + 1 - RowKit.intOf v12).toNat)
 case atStart => exact ⟨firstD l, 0, 0, false, Int.le_refl _, by omega, rfl, rfl, Seen.start (from_in HFI.out v).1, hHN, below_own _ _⟩
 case round =>
 obtain ⟨d, x, y, b, hd0, hd1, rfl, rfl, hSeen, hF, hB1⟩ := hrel
 clear hHN
 obtain ⟨w20, hZ⟩ : ∃ Z, wr = Z := ⟨_, rfl⟩
 rw [hZ] at hF hB1
 rw [hZ]
 clear hZ
 have HS := Aside0.mk hSeen
 have HF_20 := Aside0.mk hF
 have HJ_20 := Aside0.mk hB1
 have HB_20 := Aside0.mk (below_then HB_4.out hB1)
 have HR_20 := Aside0.mk (Kd.C_below HR_4.out hB1)
 have Hl_20 := Aside0.mk (Kd.C_below Hl_4.out hB1)
 have Hh_20 := Aside0.mk (Kd.C_below Hh_4.out hB1)
 clear hSeen hF hB1
 have hlo0 := HFI.out.tank.d0
 have hhi0 := HFI.out.tank.top (l.length - 1) (by omega)
 have hfd : 0 ≤ firstD l := hlo0
 have hld : lastD l ≤ 4000 := hhi0
 clear hlo0 hhi0
 obtain ⟨n1, hn1⟩ : ∃ n1 : Nat, n1 + 1 = l.length := ⟨l.length - 1, by omega⟩
 by_cases hdl : d ≤ lastD l
 ·have hb0 : decide (d ≤ lastD l) = true := decide_eq_true hdl
  obtain ⟨a1, b1, a2, b2, kq, e1, e2, hvb, hiff⟩ := good_at HFI.out HV.out hd0 hdl
  have E1 := Lib.hid e1
  have E2 := Lib.hid e2
  have HVB := Lib.hid hvb
  have HIF := Lib.hid hiff
  clear e1 e2 hvb hiff
  obtain ⟨_, ea, hr0, hr1, hr2⟩ := at_T70 HR_20.out (n1 : Int) (by omega) (by omega)
  cases ea
  rw [show rd_T70 l (n1 : Int) = l.getD n1 zRow from rdR_nat l n1] at hr0
  replace hr0 : w20.cell? (ad3.add (n1 * 3)) = some (.int .i64 (dipN l n1)) := hr0
  rw [show dipN l n1 = lastD l from by unfold lastD; rw [← hn1, Nat.add_sub_cancel]] at hr0
  have p1 : IntKind.i64.wrap ((l.length : Int) - 1) = (n1 : Int) := by rw [i64_w, wrap_id (by omega)]; omega
  have p2 : (n1 : Int) < (l.length : Int) := by omega
  have p3 : (0 : Int) ≤ (n1 : Int) := by omega
  clear hr1 hr2
  have hH := HF_20.out.get tb #[.slice (some ad3) l.length c, .int .i64 p] 24 (by simp)
  have hltb := blk_lt hH
  have ctb0 : w20.cell? ⟨tb, 0, none⟩ = some (.slice (some ad3) l.length c) := (blk_cell hH 0).trans rfl
  have ctb1 : w20.cell? ⟨tb, 1, none⟩ = some (.int .i64 p) := (blk_cell hH 1).trans rfl
  clear hH
  go_wp2_with fail
  clear hltb ctb0 ctb1 hr0 p1 p2 p3
  refine (forecourtref01_below.calls kq (some ad3) c l p Al cl (lows l) d a1 b1 w20 HR_20.out HC.out Hl_20.out Hl_L.out E1.out).mono ?_
  rintro e w21 ⟨rfl, hB⟩
  have HF_21 := Aside0.mk (HF_20.out.below hB)
  have HB_21 := Aside0.mk (below_then HB_20.out hB)
  have HR_21 := Aside0.mk (Kd.C_below HR_20.out hB)
  have Hl_21 := Aside0.mk (Kd.C_below Hl_20.out hB)
  have Hh_21 := Aside0.mk (Kd.C_below Hh_20.out hB)
  have HJ_21 := Aside0.mk (below_then HJ_20.out hB)
  clear hB HF_20 HB_20 HR_20 Hl_20 Hh_20 HJ_20 w20
  have hH := HF_21.out.get tb #[.slice (some ad3) l.length c, .int .i64 p] 24 (by simp)
  have hltb := blk_lt hH
  have ctb0 : w21.cell? ⟨tb, 0, none⟩ = some (.slice (some ad3) l.length c) := (blk_cell hH 0).trans rfl
  have ctb1 : w21.cell? ⟨tb, 1, none⟩ = some (.int .i64 p) := (blk_cell hH 1).trans rfl
  clear hH
  go_wp2_with fail
  clear hltb ctb0 ctb1
  refine (forecourtref01_below.calls kq (some ad3) c l p Ah ch (highs l) d a2 b2 w21 HR_21.out HC.out Hh_21.out Hh_L.out E2.out).mono ?_
  rintro e w22 ⟨rfl, hB⟩
  have HF_22 := Aside0.mk (HF_21.out.below hB)
  have HB_22 := Aside0.mk (below_then HB_21.out hB)
  have HR_22 := Aside0.mk (Kd.C_below HR_21.out hB)
  have Hl_22 := Aside0.mk (Kd.C_below Hl_21.out hB)
  have Hh_22 := Aside0.mk (Kd.C_below Hh_21.out hB)
  have HJ_22 := Aside0.mk (below_then HJ_21.out hB)
  clear hB HF_21 HB_21 HR_21 Hl_21 Hh_21 HJ_21 w21
  obtain ⟨m, hm⟩ : ∃ m, m = v * b1 := ⟨_, rfl⟩
  have hmw : IntKind.i64.wrap (v * b1) = m := by rw [hm, i64_w]; exact wrap_id (by have := HVB.out; omega)
  have hif := HIF.out
  rw [← hm] at hif
  have pd1 : -1 ≤ d := by omega
  have pd2 : d ≤ 4000 := by omega
  clear hm HIF HVB E1 E2
  by_cases hg : dipsFrom l v ≤ d ∧ d ≤ dipsTo l v
  ·obtain ⟨hg1, hg2⟩ := hif.2 hg
   have hc1 : decide (a1 ≤ m) = true := decide_eq_true hg1
   have hc2 : decide (a2 ≥ m) = true := decide_eq_true hg2
   clear hg1 hg2 hif
   cases b with
   | false =>
    have hH := HF_22.out.get nb #[.int .i64 x, .int .i64 y] 43 (by simp)
    have hlnb := blk_lt hH
    have cnb0 : w22.cell? ⟨nb, 0, none⟩ = some (.int .i64 x) := (blk_cell hH 0).trans rfl
    have cnb1 : w22.cell? ⟨nb, 1, none⟩ = some (.int .i64 y) := (blk_cell hH 1).trans rfl
    have fnb0 := blk_frozen hH 0
    have fnb1 := blk_frozen hH 1
    clear hH
    go_wp2_with fail
    go_roundw
    case rel => exact ⟨d + 1, d, d, true, by omega, by omega, rfl, by go_num, HS.out.good hg.1 hg.2, Held.cons (by have hq := HF_22.out.get nb #[.int .i64 x, .int .i64 y] 43 (by simp); exact (blk_put (blk_put hq 0 _ rfl) 1 _ rfl)) (Held.cons ((Below.heap_setCell _ _ _ _ NEo.out).trans ((Below.heap_setCell _ _ _ _ NEo.out).trans (HF_22.out.get ob #[.int .i64 0, .int .i64 0] 43 (by simp)))) (Held.cons ((Below.heap_setCell _ _ _ _ NEt.out).trans ((Below.heap_setCell _ _ _ _ NEt.out).trans (HF_22.out.get tb #[.slice (some ad3) l.length c, .int .i64 p] 24 (by simp)))) (⟨fun b cs t hm => by simp at hm⟩))), ((HJ_22.out).setCell (p := ⟨nb, 0, none⟩) NBS.out _).setCell (p := ⟨nb, 1, none⟩) NBS.out _⟩
    case measure => simp [RowKit.intOf]; omega
   | true =>
    have hH := HF_22.out.get nb #[.int .i64 x, .int .i64 y] 43 (by simp)
    have hlnb := blk_lt hH
    have cnb0 : w22.cell? ⟨nb, 0, none⟩ = some (.int .i64 x) := (blk_cell hH 0).trans rfl
    have cnb1 : w22.cell? ⟨nb, 1, none⟩ = some (.int .i64 y) := (blk_cell hH 1).trans rfl
    have fnb0 := blk_frozen hH 0
    have fnb1 := blk_frozen hH 1
    clear hH
    go_wp2_with fail
    go_roundw
    case rel => exact ⟨d + 1, x, d, true, by omega, by omega, rfl, by go_num, HS.out.good hg.1 hg.2, Held.cons (by have hq := HF_22.out.get nb #[.int .i64 x, .int .i64 y] 43 (by simp); exact (blk_put hq 1 _ rfl)) (Held.cons ((Below.heap_setCell _ _ _ _ NEo.out).trans (HF_22.out.get ob #[.int .i64 0, .int .i64 0] 43 (by simp))) (Held.cons ((Below.heap_setCell _ _ _ _ NEt.out).trans (HF_22.out.get tb #[.slice (some ad3) l.length c, .int .i64 p] 24 (by simp))) (⟨fun b cs t hm => by simp at hm⟩))), (HJ_22.out).setCell (p := ⟨nb, 1, none⟩) NBS.out _⟩
    case measure => simp [RowKit.intOf]; omega
  have hgn : ¬ (a1 ≤ m ∧ m ≤ a2) := fun hh => hg (hif.1 hh)
  by_cases hg1 : a1 ≤ m
  ·have hc1 : decide (a1 ≤ m) = true := decide_eq_true hg1
   have hc2 : decide (a2 ≥ m) = false := decide_eq_false (fun hh => hgn ⟨hg1, hh⟩)
   clear hg1 hgn hif
   go_wp2_with fail
   go_roundw
   case rel => exact ⟨d + 1, x, y, b, by omega, by omega, rfl, by go_num, HS.out.bad hg, HF_22.out, HJ_22.out⟩
   case measure => simp [RowKit.intOf]; omega
  have hc1 : decide (a1 ≤ m) = false := decide_eq_false hg1
  clear hg1 hgn hif
  go_wp2_with fail
  go_roundw
  case rel => exact ⟨d + 1, x, y, b, by omega, by omega, rfl, by go_num, HS.out.bad hg, HF_22.out, HJ_22.out⟩
  case measure => simp [RowKit.intOf]; omega
 obtain rfl : d = lastD l + 1 := by omega
 have hb0 : decide (lastD l + 1 ≤ lastD l) = false := decide_eq_false (by omega)
 have hlast := HS.out.last (from_in HFI.out v).2 (to_in HFI.out v).2
 obtain ⟨_, ea, hr0, hr1, hr2⟩ := at_T70 HR_20.out (n1 : Int) (by omega) (by omega)
 cases ea
 rw [show rd_T70 l (n1 : Int) = l.getD n1 zRow from rdR_nat l n1] at hr0
 replace hr0 : w20.cell? (ad3.add (n1 * 3)) = some (.int .i64 (dipN l n1)) := hr0
 rw [show dipN l n1 = lastD l from by unfold lastD; rw [← hn1, Nat.add_sub_cancel]] at hr0
 have p1 : IntKind.i64.wrap ((l.length : Int) - 1) = (n1 : Int) := by rw [i64_w, wrap_id (by omega)]; omega
 have p2 : (n1 : Int) < (l.length : Int) := by omega
 have p3 : (0 : Int) ≤ (n1 : Int) := by omega
 clear hr1 hr2
 cases b with
 | true =>
  obtain ⟨q1, q2, q3⟩ := hlast.1 rfl
  replace HE := Aside0.mk (HE.out.trans (if_neg (by omega)))
  obtain ⟨e1, e2, e3⟩ : r1 = dipsFrom l v ∧ r2 = dipsTo l v ∧ r3 = 0 := by simpa using HE.out
  rw [← q2] at e1
  rw [← q3] at e2
  have HE3 := Lib.hid e1
  have HE4 := Lib.hid e2
  have HE5 := Lib.hid e3
  clear HE e1 e2 e3 q1 q2 q3 hlast
  have hH := HF_20.out.get tb #[.slice (some ad3) l.length c, .int .i64 p] 24 (by simp)
  have hltb := blk_lt hH
  have ctb0 : w20.cell? ⟨tb, 0, none⟩ = some (.slice (some ad3) l.length c) := (blk_cell hH 0).trans rfl
  have ctb1 : w20.cell? ⟨tb, 1, none⟩ = some (.int .i64 p) := (blk_cell hH 1).trans rfl
  clear hH
  have hH := HF_20.out.get ob #[.int .i64 0, .int .i64 0] 43 (by simp)
  have hlob := blk_lt hH
  have cob0 : w20.cell? ⟨ob, 0, none⟩ = some (.int .i64 0) := (blk_cell hH 0).trans rfl
  have cob1 : w20.cell? ⟨ob, 1, none⟩ = some (.int .i64 0) := (blk_cell hH 1).trans rfl
  have fob0 := blk_frozen hH 0
  have fob1 := blk_frozen hH 1
  clear hH
  have hH := HF_20.out.get nb #[.int .i64 x, .int .i64 y] 43 (by simp)
  have hlnb := blk_lt hH
  have cnb0 : w20.cell? ⟨nb, 0, none⟩ = some (.int .i64 x) := (blk_cell hH 0).trans rfl
  have cnb1 : w20.cell? ⟨nb, 1, none⟩ = some (.int .i64 y) := (blk_cell hH 1).trans rfl
  clear hH
  go_wp2
  have hM := HF_20.out.get ob #[.int .i64 0, .int .i64 0] 43 (by simp)
  exact HFAIL.out _ x y (put2 _ _ hM) (put2_below _ _ HB_20.out HLob.out) _ _ rfl rfl HE3.out.symm HE4.out.symm HE5.out.symm
 | false =>
  have q1 := hlast.2 rfl
  replace HE := Aside0.mk (HE.out.trans (if_pos q1))
  obtain ⟨e1, e2, e3⟩ : r1 = 0 ∧ r2 = 0 ∧ r3 = 17 := by
   have := HE.out
   skip
   first | (simpa using this; done) | (simpa using this.symm; done)
  have HE3 := Lib.hid e1
  have HE4 := Lib.hid e2
  have HE5 := Lib.hid e3
  clear HE e1 e2 e3 q1 hlast
  have hH := HF_20.out.get tb #[.slice (some ad3) l.length c, .int .i64 p] 24 (by simp)
  have hltb := blk_lt hH
  have ctb0 : w20.cell? ⟨tb, 0, none⟩ = some (.slice (some ad3) l.length c) := (blk_cell hH 0).trans rfl
  have ctb1 : w20.cell? ⟨tb, 1, none⟩ = some (.int .i64 p) := (blk_cell hH 1).trans rfl
  clear hH
  have hH := HF_20.out.get ob #[.int .i64 0, .int .i64 0] 43 (by simp)
  have hlob := blk_lt hH
  have cob0 : w20.cell? ⟨ob, 0, none⟩ = some (.int .i64 0) := (blk_cell hH 0).trans rfl
  have cob1 : w20.cell? ⟨ob, 1, none⟩ = some (.int .i64 0) := (blk_cell hH 1).trans rfl
  have fob0 := blk_frozen hH 0
  have fob1 := blk_frozen hH 1
  clear hH
  have hH := HF_20.out.get nb #[.int .i64 x, .int .i64 y] 43 (by simp)
  have hlnb := blk_lt hH
  have cnb0 : w20.cell? ⟨nb, 0, none⟩ = some (.int .i64 x) := (blk_cell hH 0).trans rfl
  have cnb1 : w20.cell? ⟨nb, 1, none⟩ = some (.int .i64 y) := (blk_cell hH 1).trans rfl
  clear hH
  go_wp2
  have hM := HF_20.out.get ob #[.int .i64 0, .int .i64 0] 43 (by simp)
  exact HFAIL.out _ 0 0 (put2 _ _ hM) (put2_below _ _ HB_20.out HLob.out) _ _ rfl rfl HE3.out.symm HE4.out.symm HE5.out.symm
theorem forecourtref01_Dips.calls (A : Option Addr) (c : Nat) (l : List SRow) (p : Int) (v : Int) (r1 : Int) (r2 : Int) (r3 : Int) (w : World) (hr0_0 : Kd.C kRow w A l.length l) (hc0_0 : l.length ≤ c) (h : forecourtref01_Dips.f l p v = some (r1, r2, r3)) :
  Calls Try.prog 35 #[.agg #[.slice A l.length c, .int .i64 p], .int .i64 v] w fun e w' => e = .returned (.tuple #[.agg #[.int .i64 r1, .int .i64 r2], .int .i64 r3]) ∧ Below w.heap.size w w' := by
 have hn : l.length ≤ 1000 := by
  unfold forecourtref01_Dips.f at h
  by_cases hq : l.length ≤ 1000
  ·exact hq
  rw [if_neg hq] at h; cases h
 unfold forecourtref01_Dips.f at h
 rw [if_pos hn] at h
 obtain ⟨k1, hk1⟩ := (refCheckTank_ev l p hn).rounds
 obtain ⟨k2, hk2⟩ := (refClashes_ev l p hn).rounds
 obtain ⟨k3, hk3⟩ := (reftight_ev l p hn).rounds
 exact refDips_walk A c l p v r1 r2 r3 k1 k2 k3 w w ⟨hr0_0⟩ (Lib.hid hc0_0) ⟨Below.refl _ _⟩ ⟨h⟩ (Lib.hid hk1) (Lib.hid (fun h0 => by rw [clashes_of h0] at hk2; exact hk2)) (Lib.hid hk3)
end Go.Proofs.Ytpkajhmchcbbhaa.P
end
