/- Part 35 of 38. -/
import Derived.Test.YtpkajhmchcbbhaaH0
import Derived.Test.YtpkajhmchcbbhaaH14
import Derived.Test.YtpkajhmchcbbhaaH33
import Derived.Test.YtpkajhmchcbbhaaH31
import Derived.Test.YtpkajhmchcbbhaaH20
import Derived.Test.YtpkajhmchcbbhaaH27
import Derived.Test.YtpkajhmchcbbhaaH28
import Derived.Test.YtpkajhmchcbbhaaH9
import Derived.Test.YtpkajhmchcbbhaaH7
import Derived.Test.YtpkajhmchcbbhaaH8
import Derived.Test.YtpkajhmchcbbhaaH11
set_option linter.unusedSimpArgs false
set_option linter.unusedVariables false
section
namespace Go.Proofs.Ytpkajhmchcbbhaa.P
open Go Go.BigFrame Go.RowKit Go.Proofs.YtpkajhmchcbbhaaW.PrintWords Go.Proofs.YtpkajhmchcbbhaaW.PrintLast Go.Proofs.YtpkajhmchcbbhaaW.PrintMore
set_option maxRecDepth 100000 in
set_option maxHeartbeats 40000000 in
theorem eitherB_calls (A : Option Addr) (c : Nat) (l : List SRow) (p : Int) (A1 : Option Addr) (c1 : Nat) (l1 : List Int) (x0 x1 : Int) (k : Nat) (w w0 : World)
  (HR_0 : Aside0 (Kd.C kRow w0 A l.length l)) (HC : Hid (l.length ≤ c)) (HQ_0 : Aside0 (Kd.C (Kd.int .i64) w0 A1 l1.length l1)) (HC1 : Hid (l1.length ≤ c1)) (HB_0 : Aside0 (Below w.heap.size w w0))
  (i j e a b la hb : Int) (H1 : Hid (forecourtlaw01_great.f l p = some false)) (H2 : Hid (forecourtref01_CheckTank.f k l p = some 0)) (H3 : Hid ((l1.length : Int) ≤ 40)) (HN : Hid (2 ≤ l.length ∧ l.length ≤ 16))
  (H4 : Hid (chart_Clash.f l p = some (i, j, e)))
  (HX : Hid (0 ≤ x0 ∧ x0 ≤ 255 ∧ 0 ≤ x1 ∧ x1 ≤ 255)) (HM : Hid (x0.tmod (l.length : Int) = a ∧ x1.tmod (l.length : Int) = b)) (HAB : Hid (0 ≤ a ∧ a < l.length ∧ 0 ≤ b ∧ b < l.length)) (HL : Hid ((rd_T70 l a).f1.f0 = la ∧ (rd_T70 l b).f1.f1 = hb))
  (H5 : Hid (chart_Tight.f l p = some (tightL l, 0))) (HE : Hid (e = 5)) (HFI : Hid (a < b → ¬ la > hb))
  (H6 : Hid (forecourtref01_CheckChart.f k l p (lows l) = some 0)) (H7 : Hid (forecourtref01_CheckChart.f k l p (highs l) = some 0)) (H8 : Hid (chart_CheckChart.f k l p (lows l) = some 0)) (H9 : Hid (chart_CheckChart.f k l p (highs l) = some 0)) :
  Calls Try.prog 8 #[.agg #[.slice A l.length c, .int .i64 p], .slice A1 l1.length c1, .agg #[.int .u8 x0, .int .u8 x1]] w0 fun e w' => e = .returned (.bool true) ∧ Below w.heap.size w w' := by
 have hu1 := Try.underlying24
 have hu2 := Try.underlying70
 have hu3 := Try.underlying43
 have hu4 := Try.underlying28
 have hu5 := Try.underlying22
 have hu6 := Try.underlying62
 have HF_0 : Aside0 (Held [] w0) := ⟨⟨fun b cs t hm => by simp at hm⟩⟩
 go_enter Try.func8, Try.ntmps8
 go_wp2_with fail
 obtain ⟨w0a, hZ⟩ : ∃ Z, w0.alloc (.cells #[.slice A l.length c, .int .i64 p] 24) = Z := ⟨_, rfl⟩
 obtain ⟨tb, hbk⟩ : ∃ b, b = w0.heap.size := ⟨_, rfl⟩
 have HF_0a : Aside0 (Held [(tb, #[.slice A l.length c, .int .i64 p], 24)] w0a) := ⟨by rw [← hZ, hbk]; exact HF_0.out.new _ _⟩
 have HSZ := Lib.hid (show w0a.heap.size = tb + 1 by rw [← hZ, hbk]; simp)
 have HR_0a : Aside0 (Kd.C kRow w0a A l.length l) := ⟨by rw [← hZ]; exact Kd.C_below HR_0.out ((Below.refl _ _).alloc (Nat.le_refl _) _)⟩
 have HQ_0a : Aside0 (Kd.C (Kd.int .i64) w0a A1 l1.length l1) := ⟨by rw [← hZ]; exact Kd.C_below HQ_0.out ((Below.refl _ _).alloc (Nat.le_refl _) _)⟩
 have HB_0a : Aside0 (Below w.heap.size w w0a) := ⟨by rw [← hZ]; exact HB_0.out.alloc HB_0.out.size _⟩
 rw [hZ, ← hbk]
 clear hZ hbk HF_0 HB_0 HR_0 HQ_0 w0
 obtain ⟨w0aa, hZ⟩ : ∃ Z, w0a.alloc (.cells #[.int .u8 x0, .int .u8 x1] 62) = Z := ⟨_, rfl⟩
 obtain ⟨rb, hbk⟩ : ∃ b, b = tb + 1 := ⟨_, rfl⟩
 have HF_0aa : Aside0 (Held [(rb, #[.int .u8 x0, .int .u8 x1], 62), (tb, #[.slice A l.length c, .int .i64 p], 24)] w0aa) := ⟨by rw [← hZ, hbk, ← HSZ.out]; exact HF_0a.out.new _ _⟩
 have HR_0aa : Aside0 (Kd.C kRow w0aa A l.length l) := ⟨by rw [← hZ]; exact Kd.C_below HR_0a.out ((Below.refl _ _).alloc (Nat.le_refl _) _)⟩
 have HQ_0aa : Aside0 (Kd.C (Kd.int .i64) w0aa A1 l1.length l1) := ⟨by rw [← hZ]; exact Kd.C_below HQ_0a.out ((Below.refl _ _).alloc (Nat.le_refl _) _)⟩
 have HB_0aa : Aside0 (Below w.heap.size w w0aa) := ⟨by rw [← hZ]; exact HB_0a.out.alloc HB_0a.out.size _⟩
 rw [hZ, ← hbk]
 clear hZ hbk HSZ HF_0a HB_0a HR_0a HQ_0a w0a
 refine (forecourtlaw01_great.calls A c l p false w0aa HR_0aa.out HC.out H1.out).mono ?_
 rintro e w1 ⟨rfl, hB⟩
 have HF_1 := Aside0.mk (HF_0aa.out.below hB)
 have HB_1 := Aside0.mk (below_then HB_0aa.out hB)
 have HR_1 := Aside0.mk (Kd.C_below HR_0aa.out hB)
 have HQ_1 := Aside0.mk (Kd.C_below HQ_0aa.out hB)
 clear hB HF_0aa HB_0aa HR_0aa HQ_0aa w0aa
 have hH := HF_1.out.get tb #[.slice A l.length c, .int .i64 p] 24 (by simp)
 have hltb := blk_lt hH
 have ctb0 : w1.cell? ⟨tb, 0, none⟩ = some (.slice A l.length c) := (blk_cell hH 0).trans rfl
 have ctb1 : w1.cell? ⟨tb, 1, none⟩ = some (.int .i64 p) := (blk_cell hH 1).trans rfl
 clear hH
 go_wp2_with fail
 clear hltb ctb0 ctb1
 refine (forecourtref01_CheckTank.calls k A c l p 0 w1 HR_1.out HC.out H2.out).mono ?_
 rintro e w2 ⟨rfl, hB⟩
 have HF_2 := Aside0.mk (HF_1.out.below hB)
 have HB_2 := Aside0.mk (below_then HB_1.out hB)
 have HR_2 := Aside0.mk (Kd.C_below HR_1.out hB)
 have HQ_2 := Aside0.mk (Kd.C_below HQ_1.out hB)
 clear hB HF_1 HB_1 HR_1 HQ_1 w1
 have h40 : decide ((l1.length : Int) > 40) = false := decide_eq_false (by have := H3.out; omega)
 have hH := HF_2.out.get tb #[.slice A l.length c, .int .i64 p] 24 (by simp)
 have hltb := blk_lt hH
 have ctb0 : w2.cell? ⟨tb, 0, none⟩ = some (.slice A l.length c) := (blk_cell hH 0).trans rfl
 have ctb1 : w2.cell? ⟨tb, 1, none⟩ = some (.int .i64 p) := (blk_cell hH 1).trans rfl
 clear hH
 go_wp2_with fail
 clear hltb ctb0 ctb1 h40
 refine (chart_Clash.calls A c l p i j e w2 HR_2.out HC.out H4.out).mono ?_
 rintro e w3 ⟨rfl, hB⟩
 have HF_3 := Aside0.mk (HF_2.out.below hB)
 have HB_3 := Aside0.mk (below_then HB_2.out hB)
 have HR_3 := Aside0.mk (Kd.C_below HR_2.out hB)
 have HQ_3 := Aside0.mk (Kd.C_below HQ_2.out hB)
 clear hB HF_2 HB_2 HR_2 HQ_2 w2
 have hH := HF_3.out.get tb #[.slice A l.length c, .int .i64 p] 24 (by simp)
 have hltb := blk_lt hH
 have ctb0 : w3.cell? ⟨tb, 0, none⟩ = some (.slice A l.length c) := (blk_cell hH 0).trans rfl
 have ctb1 : w3.cell? ⟨tb, 1, none⟩ = some (.int .i64 p) := (blk_cell hH 1).trans rfl
 clear hH
 go_wp2_with fail
 clear hltb ctb0 ctb1
 refine (chart_Tight.calls A c l p (tightL l) 0 w3 HR_3.out HC.out H5.out).mono ?_
 rintro e w4 ⟨v, rfl, Ht, hB⟩
 obtain ⟨At, ct, rfl, Htl, Htr⟩ := Kd.R_reads Ht
 have Ht_L := Lib.hid Htl
 have Ht_4 := Aside0.mk Htr
 clear Ht Htl Htr
 have HF_4 := Aside0.mk (HF_3.out.below hB)
 have HB_4 := Aside0.mk (below_then HB_3.out hB)
 have HR_4 := Aside0.mk (Kd.C_below HR_3.out hB)
 have HQ_4 := Aside0.mk (Kd.C_below HQ_3.out hB)
 clear hB HF_3 HB_3 HR_3 HQ_3 w3
 have hn := HN.out
 obtain ⟨ad3, ea, hq0, hq1, hq2⟩ := at_T70 HR_4.out 0 (by omega) (by omega)
 cases ea
 clear hq0 hq1 hq2
 obtain ⟨X1, X2, X3, X4⟩ := HX.out
 obtain ⟨M1, M2⟩ := HM.out
 have hn0 : ¬ (l.length : Int) = 0 := by omega
 have hne : ¬ l = [] := fun e => by rw [e] at hn; simp at hn
 have hn1 : (0 : Int) < (l.length : Int) := by omega
 have hH := HF_4.out.get tb #[.slice (some ad3) l.length c, .int .i64 p] 24 (by simp)
 have hltb := blk_lt hH
 have ctb0 : w4.cell? ⟨tb, 0, none⟩ = some (.slice (some ad3) l.length c) := (blk_cell hH 0).trans rfl
 have ctb1 : w4.cell? ⟨tb, 1, none⟩ = some (.int .i64 p) := (blk_cell hH 1).trans rfl
 clear hH
 have hH := HF_4.out.get rb #[.int .u8 x0, .int .u8 x1] 62 (by simp)
 have hlrb := blk_lt hH
 have crb0 : w4.cell? ⟨rb, 0, none⟩ = some (.int .u8 x0) := (blk_cell hH 0).trans rfl
 have crb1 : w4.cell? ⟨rb, 1, none⟩ = some (.int .u8 x1) := (blk_cell hH 1).trans rfl
 clear hH
 go_wp2_with fail
 (refine start_ (n := 16) (S := fun w' => Below (World.heap _).size _ w') (ds := []) (List.toArray (false :: false :: false :: false :: false :: false :: false :: false :: false :: false :: false :: false :: false :: false :: false :: false :: [])) (by kernel_rfl) rfl rfl (belowDrew _) (fun plS => ?_); refine pureY (i := 0) (N := (some 41)) ?_; refine pureY (i := 3) (N := (some 44)) ?_; refine pureY (i := 7) (N := (some 48)) ?_; refine pureY (i := 10) (N := (some 51)) ?_; refine takeF (i := 1) (N := (some 42)) (hS := plS) (hy := by (intro w' hw'; replace hw' : Below (World.heap w4).size w4 w' := hw'; have q0 := pw_cell_below hw' ctb0; have q1 := pw_cell_below hw' ctb1; have q2 := pw_cell_below hw' crb0; have q3 := pw_cell_below hw' crb1; exact yieldA)) (h := ?_); refine pureY (i := 2) (N := (some 43)) ?_; refine takeF (i := 4) (N := (some 45)) (hS := plS) (hy := by (intro w' hw'; replace hw' : Below (World.heap w4).size w4 w' := hw'; have q0 := pw_cell_below hw' ctb0; have q1 := pw_cell_below hw' ctb1; have q2 := pw_cell_below hw' crb0; have q3 := pw_cell_below hw' crb1; exact yieldA)) (h := ?_); refine pureY (i := 5) (N := (some 46)) ?_; refine pureY (i := 6) (N := (some 47)) ?_; refine pureY (i := 14) (N := (some 12)) ?_; refine takeF (i := 8) (N := (some 49)) (hS := plS) (hy := by (intro w' hw'; replace hw' : Below (World.heap w4).size w4 w' := hw'; have q0 := pw_cell_below hw' ctb0; have q1 := pw_cell_below hw' ctb1; have q2 := pw_cell_below hw' crb0; have q3 := pw_cell_below hw' crb1; exact yieldA)) (h := ?_); refine pureY (i := 9) (N := (some 50)) ?_; refine takeF (i := 11) (N := (some 52)) (hS := plS) (hy := by (intro w' hw'; replace hw' : Below (World.heap w4).size w4 w' := hw'; have q0 := pw_cell_below hw' ctb0; have q1 := pw_cell_below hw' ctb1; have q2 := pw_cell_below hw' crb0; have q3 := pw_cell_below hw' crb1; exact yieldA)) (h := ?_); refine pureY (i := 12) (N := (some 53)) ?_; refine pureY (i := 13) (N := (some 54)) ?_; refine pureY (i := 15) (N := (some 13)) ?_; refine done_ (by kernel_rfl) ?_)
 clear plS X1 X2 X3 X4 M1 M2 hn0 hne hltb ctb0 ctb1 hlrb crb0 crb1
 obtain ⟨w5, hZ⟩ : ∃ Z, w4.drew = Z := ⟨_, rfl⟩
 have hB : Below w4.heap.size w4 w5 := by rw [← hZ]; exact (Below.refl _ _).drew
 rw [hZ]
 have HF_5 := Aside0.mk (HF_4.out.below hB)
 have HB_5 := Aside0.mk (below_then HB_4.out hB)
 have HR_5 := Aside0.mk (Kd.C_below HR_4.out hB)
 have HQ_5 := Aside0.mk (Kd.C_below HQ_4.out hB)
 have Ht_5 := Aside0.mk (Kd.C_below Ht_4.out hB)
 clear hZ hB HF_4 HB_4 HR_4 HQ_4 Ht_4 w4
 obtain rfl := HE.out
 obtain ⟨J1, J2, J3, J4⟩ := HAB.out
 obtain ⟨L1, L2⟩ := HL.out
 have hfirst := HFI.out
 have htl := Lib.hid (tightL_len l)
 have b1 : ((tightL l).length : Int) = (l.length : Int) := by rw [tightL_len]
 have b2 : (((tightL l).length : Int) != (l.length : Int)) = false := by rw [tightL_len]; simp
 have b3 : ((tightL l).length != l.length) = false := by rw [tightL_len]; simp
 have hcase : (decide (a < b) = false) ∨ (decide (a < b) = true ∧ decide (la > hb) = false) := by
  by_cases t1 : a < b
  ·exact Or.inr ⟨decide_eq_true t1, decide_eq_false (by have := hfirst t1; omega)⟩
  exact Or.inl (decide_eq_false t1)
 clear hfirst b1
 obtain ⟨_, ea, raa, rab, rac⟩ := at_T70 HR_5.out a (by omega) (by omega)
 cases ea
 rw [L1] at rab
 clear raa rac
 obtain ⟨_, ea, rb_a, rb_b, rb_c⟩ := at_T70 HR_5.out b (by omega) (by omega)
 cases ea
 rw [L2] at rb_c
 clear rb_a rb_b
 go_wp2_with fail
 have hH := HF_5.out.get tb #[.slice (some ad3) l.length c, .int .i64 p] 24 (by simp)
 have hltb := blk_lt hH
 have ctb0 : w5.cell? ⟨tb, 0, none⟩ = some (.slice (some ad3) l.length c) := (blk_cell hH 0).trans rfl
 have ctb1 : w5.cell? ⟨tb, 1, none⟩ = some (.int .i64 p) := (blk_cell hH 1).trans rfl
 clear hH
 rcases hcase with d1 | ⟨d1, d2⟩
 ·as_aux_lemma =>
  (refine start_ (n := 36) (S := fun w' => Below (World.heap _).size _ w') (ds := []) (List.toArray (false :: false :: false :: false :: false :: false :: false :: false :: false :: false :: false :: false :: false :: false :: false :: false :: false :: false :: false :: false :: false :: false :: false :: false :: false :: false :: false :: false :: false :: false :: false :: false :: false :: false :: false :: false :: [])) (by kernel_rfl) rfl rfl (belowDrew _) (fun plS => ?_); refine pureY (i := 0) (N := (some 139)) ?_; refine pureY (i := 1) (N := (some 140)) ?_; refine pureY (i := 2) (N := (some 141)) ?_; refine pureY (i := 3) (N := (some 142)) ?_; refine pureY (i := 4) (N := (some 143)) ?_; refine pureY (i := 5) (N := (some 144)) ?_; refine pureY (i := 6) (N := (some 145)) ?_; refine pureY (i := 7) (N := (some 146)) ?_; refine pureY (i := 8) (N := (some 147)) ?_; refine pureY (i := 9) (N := (some 148)) ?_; refine takeF (i := 10) (N := (some 149)) (hS := plS) (hy := by (intro w' hw'; replace hw' : Below (World.heap w5).size w5 w' := hw'; have q0 := pw_cell_below hw' rab; have q1 := pw_cell_below hw' rb_c; have q2 := pw_cell_below hw' ctb0; have q3 := pw_cell_below hw' ctb1; exact yieldA)) (h := ?_); refine pureY (i := 11) (N := (some 150)) ?_; refine pureY (i := 12) (N := (some 151)) ?_; refine pureY (i := 13) (N := (some 152)) ?_; refine pureY (i := 14) (N := (some 153)) ?_; refine pureY (i := 15) (N := (some 154)) ?_; refine pureY (i := 16) (N := (some 155)) ?_; refine pureY (i := 17) (N := (some 156)) ?_; refine pureY (i := 18) (N := (some 157)) ?_; refine pureN (i := 19) (N := (some 158)) ?_; refine pureN (i := 20) (N := (some 159)) ?_; refine pureN (i := 21) (N := (some 160)) ?_; refine pureN (i := 22) (N := (some 161)) ?_; refine pureN (i := 23) (N := (some 162)) ?_; refine pureN (i := 24) (N := (some 163)) ?_; refine pureN (i := 25) (N := (some 164)) ?_; refine pureN (i := 26) (N := (some 165)) ?_; refine pureN (i := 27) (N := (some 166)) ?_; refine pureN (i := 28) (N := (some 167)) ?_; refine pureN (i := 29) (N := (some 168)) ?_; refine pureN (i := 30) (N := (some 169)) ?_; refine pureN (i := 31) (N := (some 170)) ?_; refine pureN (i := 32) (N := (some 171)) ?_; refine pureN (i := 33) (N := (some 172)) ?_; refine pureY (i := 34) (N := (some 173)) ?_; refine pureY (i := 35) (N := (some 174)) ?_; refine done_ (by kernel_rfl) ?_)
  clear plS hltb ctb0 ctb1 rab rb_c b2 b3 d1
  obtain ⟨w6, hZ⟩ : ∃ Z, w5.drew = Z := ⟨_, rfl⟩
  have hB : Below w5.heap.size w5 w6 := by rw [← hZ]; exact (Below.refl _ _).drew
  rw [hZ]
  have HF_6 := Aside0.mk (HF_5.out.below hB)
  have HB_6 := Aside0.mk (below_then HB_5.out hB)
  have HR_6 := Aside0.mk (Kd.C_below HR_5.out hB)
  have HQ_6 := Aside0.mk (Kd.C_below HQ_5.out hB)
  have Ht_6 := Aside0.mk (Kd.C_below Ht_5.out hB)
  clear hZ hB HF_5 HB_5 HR_5 HQ_5 Ht_5 w5
  go_wp2_with fail
  have HJ_6 : Aside0 (Below w6.heap.size w6 w6) := ⟨Below.refl _ _⟩
  go_loopw [14, 15, 16] (fun v6 v7 v9 w' => ∃ i : Nat, i ≤ l.length ∧ v9 = .int .i64 i ∧ Below w6.heap.size w6 w' ∧ Two w6.heap.size w' v6 v7 i i ((lows l).take i) ((highs l).take i)) (fun v6 v7 v9 _ => l.length - (RowKit.intOf v9).toNat)
  case atStart => exact ⟨0, Nat.zero_le _, rfl, Below.refl _ _, Two.start _ _⟩
  case round =>
  obtain ⟨i, hi, rfl, hBi, hTwo⟩ := hrel
  have HTW := Aside0.mk hTwo
  clear hTwo
  obtain ⟨w7, hZ⟩ : ∃ Z, wr = Z := ⟨_, rfl⟩
  have hB := hBi
  rw [hZ] at hB
  rw [hZ]
  have HF_7 := Aside0.mk (HF_6.out.below hB)
  have HB_7 := Aside0.mk (below_then HB_6.out hB)
  have HR_7 := Aside0.mk (Kd.C_below HR_6.out hB)
  have HQ_7 := Aside0.mk (Kd.C_below HQ_6.out hB)
  have Ht_7 := Aside0.mk (Kd.C_below Ht_6.out hB)
  have HJ_7 := Aside0.mk (below_then HJ_6.out hB)
  rw [hZ] at HTW
  have HBi := Aside0.mk hB
  clear hZ hB
  by_cases hlt : i < l.length
  ·as_aux_lemma =>
   obtain ⟨ad2, ea, hx2, hx3⟩ := at_T43 Ht_6.out (i : Int) (by omega) (by have := htl.out; omega)
   cases ea
   rw [rdTight l i hlt, Int.toNat_natCast] at hx2 hx3
   obtain ⟨lo, elo⟩ : ∃ z, z = lowN l i := ⟨_, rfl⟩
   obtain ⟨hi2, ehi⟩ : ∃ z, z = highN l i := ⟨_, rfl⟩
   rw [← elo] at hx2
   rw [← ehi] at hx3
   replace hx2 : w6.cell? (ad2.add (i * 2)) = some (.int .i64 lo) := hx2
   replace hx3 : w6.cell? ⟨(ad2.add (i * 2)).block, (ad2.add (i * 2)).off + 1, none⟩ = some (.int .i64 hi2) := hx3
   have p1 : (0 : Int) ≤ (i : Int) := by omega
   have p3 : (i : Int) < (tightL l).length := by have := htl.out; omega
   have p4 : (i : Int) ≤ 1000 := by omega
   have ELO := Lib.hid elo
   have EHI := Lib.hid ehi
   clear elo ehi
   go_wp2_with fail
   have hB0 : Below w6.heap.size w6 w7.drew := HBi.out.drew
   (refine start_ (n := 18) (S := fun w' => Below (World.heap w6).size w6 w') (ds := []) (List.toArray (false :: false :: false :: false :: false :: false :: false :: false :: false :: false :: false :: false :: false :: false :: false :: false :: false :: false :: [])) (by kernel_rfl) rfl rfl hB0 (fun plS => ?_); refine pureY (i := 0) (N := (some 181)) ?_; refine pureY (i := 1) (N := (some 182)) ?_; refine pureY (i := 2) (N := (some 183)) ?_; refine pureY (i := 3) (N := (some 184)) ?_; refine pureY (i := 4) (N := (some 185)) ?_; refine pureY (i := 8) (N := (some 189)) ?_; refine pureY (i := 9) (N := (some 190)) ?_; refine pureY (i := 10) (N := (some 191)) ?_; refine pureY (i := 11) (N := (some 192)) ?_; refine pureY (i := 12) (N := (some 193)) ?_; refine takeF (i := 5) (N := (some 186)) (hS := plS) (hy := by (intro w' hw'; replace hw' : Below (World.heap w6).size w6 w' := hw'; have q0 := pw_cell_below hw' hx2; have q1 := pw_cell_below hw' hx3; exact yieldA)) (h := ?_); refine takeF (i := 13) (N := (some 194)) (hS := plS) (hy := by (intro w' hw'; replace hw' : Below (World.heap w6).size w6 w' := hw'; have q0 := pw_cell_below hw' hx2; have q1 := pw_cell_below hw' hx3; exact yieldA)) (h := ?_))
   have HT0 := HTW.out.below (belowDrew w7)
   obtain ⟨y0, hy0⟩ : ∃ Y, w7.drew = Y := ⟨_, rfl⟩
   rw [hy0] at hB0 HT0 ⊢
   clear hy0 plS
   have hN1 := own_lt HT0.a
   have hN2 := own_lt HT0.b
   have hS0 : w6.heap.size ≤ y0.heap.size := hB0.size
   refine join_ (σ := Value × Value × Nat × Nat) 2 (List.toArray (true :: true :: true :: true :: true :: true :: true :: true :: true :: true :: true :: true :: true :: true :: true :: true :: false :: false :: [])) (fun s => [(187, .slice (some ⟨s.2.2.1, 0, none⟩) 1 1), (188, s.1), (195, .slice (some ⟨s.2.2.2, 0, none⟩) 1 1), (196, s.2.1)])
    (fun s W => Below w6.heap.size w6 W ∧ Two w6.heap.size W s.1 s.2.1 (i + 1) (i + 1) ((lows l).take i ++ [lo]) ((highs l).take i ++ [hi2])) ?_ ?_
   rotate_left
   ·intro hJ
    (refine two_ (i := 6) (j := 14) (List.toArray (true :: true :: true :: true :: true :: true :: true :: false :: true :: true :: true :: true :: true :: true :: false :: false :: false :: false :: [])) (List.toArray (true :: true :: true :: true :: true :: true :: false :: false :: true :: true :: true :: true :: true :: true :: true :: false :: false :: false :: [])) rfl rfl rfl rfl (by kernel_rfl) (by decide) (by decide) (fun plK plH => ?_) (fun plK plH => ?_))
    all_goals (first | ((try (rw [if_pos (by rfl)]; (first | gi_big_move | go_big_op | go_simp))); obtain ⟨y1, hy⟩ : ∃ Y, World.alloc y0 (.cells #[.int .i64 lo] 2) = Y := ⟨_, rfl⟩; obtain ⟨b1, hb⟩ : ∃ b, b = y0.heap.size := ⟨_, rfl⟩; have hx1 : Below y0.heap.size y0 y1 := (by rw [← hy]; exact below_own _ _); have hM1 : y1.heap[b1]? = some (.cells #[.int .i64 lo] 2 (0, 0)) := (by rw [← hy, hb]; exact blk_new _ _); have hL1 : y0.heap.size ≤ b1 := (by omega); have hB1 := below_then hB0 hx1; have HT1 := HT0.below hx1; have hS1 : y0.heap.size ≤ y1.heap.size := Nat.le_trans (by omega) hx1.size; rw [hy, ← hb]; clear hy hb) | ((try (rw [if_pos (by rfl)]; (first | gi_big_move | go_big_op | go_simp))); obtain ⟨y1, hy⟩ : ∃ Y, World.alloc y0 (.cells #[.int .i64 hi2] 2) = Y := ⟨_, rfl⟩; obtain ⟨b1, hb⟩ : ∃ b, b = y0.heap.size := ⟨_, rfl⟩; have hx1 : Below y0.heap.size y0 y1 := (by rw [← hy]; exact below_own _ _); have hM1 : y1.heap[b1]? = some (.cells #[.int .i64 hi2] 2 (0, 0)) := (by rw [← hy, hb]; exact blk_new _ _); have hL1 : y0.heap.size ≤ b1 := (by omega); have hB1 := below_then hB0 hx1; have HT1 := HT0.below hx1; have hS1 : y0.heap.size ≤ y1.heap.size := Nat.le_trans (by omega) hx1.size; rw [hy, ← hb]; clear hy hb) | (refine step_fst HT0 rfl _ _ rfl rfl _ rfl _ _ (by assumption) hB0 (by omega) (by omega) hN1 ?_; intro v1 y1 hT hB1 hO1 hS; have HT1 := hT; have hS1 : y0.heap.size ≤ y1.heap.size := (by omega); clear hT hS) | (refine step_fst HT0.swap rfl _ _ rfl rfl _ rfl _ _ (by assumption) hB0 (by omega) (by omega) hN2 ?_; intro v1 y1 hT hB1 hO1 hS; have HT1 := hT.swap; have hS1 : y0.heap.size ≤ y1.heap.size := (by omega); clear hT hS))
    all_goals (first | ((try simp only [Act.put, List.getElem_toArray, List.getElem_cons_succ, List.getElem_cons_zero, List.setIfInBounds_toArray, List.set_cons_succ, List.set_cons_zero]); refine plH _ _ hB1  (fun plS => ?_); clear plH plK; refine at_ #[true, true, true, true, true, true, true, false, true, true, true, true, true, true, false, false, false, false] rfl ?_; refine two_ (i := 7) (j := 14) (List.toArray (true :: true :: true :: true :: true :: true :: true :: true :: true :: true :: true :: true :: true :: true :: false :: false :: false :: false :: [])) (List.toArray (true :: true :: true :: true :: true :: true :: true :: false :: true :: true :: true :: true :: true :: true :: true :: false :: false :: false :: [])) rfl rfl rfl rfl (by kernel_rfl) (by decide) (by decide) (fun plK plH => ?_) (fun plK plH => ?_)) | ((try simp only [Act.put, List.getElem_toArray, List.getElem_cons_succ, List.getElem_cons_zero, List.setIfInBounds_toArray, List.set_cons_succ, List.set_cons_zero]); refine plH _ _ hB1  (fun plS => ?_); clear plH plK; refine at_ #[true, true, true, true, true, true, false, false, true, true, true, true, true, true, true, false, false, false] rfl ?_; refine oneY (i := 6) (fun plK plH => ?_); rw [if_pos (by rfl)]; (first | gi_big_move | go_big_op | go_simp)))
    all_goals (first | ((try (rw [if_pos (by rfl)]; (first | gi_big_move | go_big_op | go_simp))); obtain ⟨y2, hy⟩ : ∃ Y, World.alloc y1 (.cells #[.int .i64 lo] 2) = Y := ⟨_, rfl⟩; obtain ⟨b2, hb⟩ : ∃ b, b = y1.heap.size := ⟨_, rfl⟩; have hx2 : Below y1.heap.size y1 y2 := (by rw [← hy]; exact below_own _ _); have hM2 : y2.heap[b2]? = some (.cells #[.int .i64 lo] 2 (0, 0)) := (by rw [← hy, hb]; exact blk_new _ _); have hL2 : y0.heap.size ≤ b2 := (by omega); have hB2 := below_then hB1 hx2; have HT2 := HT1.below hx2; have hS2 : y0.heap.size ≤ y2.heap.size := Nat.le_trans (by omega) hx2.size; rw [hy, ← hb]; clear hy hb) | ((try (rw [if_pos (by rfl)]; (first | gi_big_move | go_big_op | go_simp))); obtain ⟨y2, hy⟩ : ∃ Y, World.alloc y1 (.cells #[.int .i64 hi2] 2) = Y := ⟨_, rfl⟩; obtain ⟨b2, hb⟩ : ∃ b, b = y1.heap.size := ⟨_, rfl⟩; have hx2 : Below y1.heap.size y1 y2 := (by rw [← hy]; exact below_own _ _); have hM2 : y2.heap[b2]? = some (.cells #[.int .i64 hi2] 2 (0, 0)) := (by rw [← hy, hb]; exact blk_new _ _); have hL2 : y0.heap.size ≤ b2 := (by omega); have hB2 := below_then hB1 hx2; have HT2 := HT1.below hx2; have hS2 : y0.heap.size ≤ y2.heap.size := Nat.le_trans (by omega) hx2.size; rw [hy, ← hb]; clear hy hb) | (refine step_fst HT1 rfl _ _ rfl rfl _ rfl _ _ (by assumption) hB1 (by omega) (by omega) hN1 ?_; intro v2 y2 hT hB2 hO2 hS; have HT2 := hT; have hS2 : y0.heap.size ≤ y2.heap.size := (by omega); clear hT hS) | (refine step_fst HT1.swap rfl _ _ rfl rfl _ rfl _ _ (by assumption) hB1 (by omega) (by omega) hN2 ?_; intro v2 y2 hT hB2 hO2 hS; have HT2 := hT.swap; have hS2 : y0.heap.size ≤ y2.heap.size := (by omega); clear hT hS))
    all_goals (try replace hM1 := (by first | exact blk_call hx2 hM1 | exact hO2 _ _ hM1 hL1))
    all_goals (first | ((try simp only [Act.put, List.getElem_toArray, List.getElem_cons_succ, List.getElem_cons_zero, List.setIfInBounds_toArray, List.set_cons_succ, List.set_cons_zero]); refine plH _ _ hB2  (fun plS => ?_); clear plH plK; refine at_ #[true, true, true, true, true, true, true, true, true, true, true, true, true, true, false, false, false, false] rfl ?_; refine oneY (i := 14) (fun plK plH => ?_); rw [if_pos (by rfl)]; (first | gi_big_move | go_big_op | go_simp)) | ((try simp only [Act.put, List.getElem_toArray, List.getElem_cons_succ, List.getElem_cons_zero, List.setIfInBounds_toArray, List.set_cons_succ, List.set_cons_zero]); refine plH _ _ hB2  (fun plS => ?_); clear plH plK; refine at_ #[true, true, true, true, true, true, true, false, true, true, true, true, true, true, true, false, false, false] rfl ?_; refine oneY (i := 7) (fun plK plH => ?_)))
    all_goals (first | ((try (rw [if_pos (by rfl)]; (first | gi_big_move | go_big_op | go_simp))); obtain ⟨y3, hy⟩ : ∃ Y, World.alloc y2 (.cells #[.int .i64 lo] 2) = Y := ⟨_, rfl⟩; obtain ⟨b3, hb⟩ : ∃ b, b = y2.heap.size := ⟨_, rfl⟩; have hx3 : Below y2.heap.size y2 y3 := (by rw [← hy]; exact below_own _ _); have hM3 : y3.heap[b3]? = some (.cells #[.int .i64 lo] 2 (0, 0)) := (by rw [← hy, hb]; exact blk_new _ _); have hL3 : y0.heap.size ≤ b3 := (by omega); have hB3 := below_then hB2 hx3; have HT3 := HT2.below hx3; have hS3 : y0.heap.size ≤ y3.heap.size := Nat.le_trans (by omega) hx3.size; rw [hy, ← hb]; clear hy hb) | ((try (rw [if_pos (by rfl)]; (first | gi_big_move | go_big_op | go_simp))); obtain ⟨y3, hy⟩ : ∃ Y, World.alloc y2 (.cells #[.int .i64 hi2] 2) = Y := ⟨_, rfl⟩; obtain ⟨b3, hb⟩ : ∃ b, b = y2.heap.size := ⟨_, rfl⟩; have hx3 : Below y2.heap.size y2 y3 := (by rw [← hy]; exact below_own _ _); have hM3 : y3.heap[b3]? = some (.cells #[.int .i64 hi2] 2 (0, 0)) := (by rw [← hy, hb]; exact blk_new _ _); have hL3 : y0.heap.size ≤ b3 := (by omega); have hB3 := below_then hB2 hx3; have HT3 := HT2.below hx3; have hS3 : y0.heap.size ≤ y3.heap.size := Nat.le_trans (by omega) hx3.size; rw [hy, ← hb]; clear hy hb) | (refine step_fst HT2 rfl _ _ rfl rfl _ rfl _ _ (by assumption) hB2 (by omega) (by omega) hN1 ?_; intro v3 y3 hT hB3 hO3 hS; have HT3 := hT; have hS3 : y0.heap.size ≤ y3.heap.size := (by omega); clear hT hS) | (refine step_fst HT2.swap rfl _ _ rfl rfl _ rfl _ _ (by assumption) hB2 (by omega) (by omega) hN2 ?_; intro v3 y3 hT hB3 hO3 hS; have HT3 := hT.swap; have hS3 : y0.heap.size ≤ y3.heap.size := (by omega); clear hT hS))
    all_goals (try replace hM1 := (by first | exact blk_call hx3 hM1 | exact hO3 _ _ hM1 hL1))
    all_goals (try replace hM2 := (by first | exact blk_call hx3 hM2 | exact hO3 _ _ hM2 hL2))
    all_goals ((try simp only [Act.put, List.getElem_toArray, List.getElem_cons_succ, List.getElem_cons_zero, List.setIfInBounds_toArray, List.set_cons_succ, List.set_cons_zero]); refine plH _ _ hB3  (fun plS => ?_); clear plH plK; refine oneY (i := 15) (fun plK plH => ?_))
    all_goals (first | ((try (rw [if_pos (by rfl)]; (first | gi_big_move | go_big_op | go_simp))); obtain ⟨y4, hy⟩ : ∃ Y, World.alloc y3 (.cells #[.int .i64 lo] 2) = Y := ⟨_, rfl⟩; obtain ⟨b4, hb⟩ : ∃ b, b = y3.heap.size := ⟨_, rfl⟩; have hx4 : Below y3.heap.size y3 y4 := (by rw [← hy]; exact below_own _ _); have hM4 : y4.heap[b4]? = some (.cells #[.int .i64 lo] 2 (0, 0)) := (by rw [← hy, hb]; exact blk_new _ _); have hL4 : y0.heap.size ≤ b4 := (by omega); have hB4 := below_then hB3 hx4; have HT4 := HT3.below hx4; have hS4 : y0.heap.size ≤ y4.heap.size := Nat.le_trans (by omega) hx4.size; rw [hy, ← hb]; clear hy hb) | ((try (rw [if_pos (by rfl)]; (first | gi_big_move | go_big_op | go_simp))); obtain ⟨y4, hy⟩ : ∃ Y, World.alloc y3 (.cells #[.int .i64 hi2] 2) = Y := ⟨_, rfl⟩; obtain ⟨b4, hb⟩ : ∃ b, b = y3.heap.size := ⟨_, rfl⟩; have hx4 : Below y3.heap.size y3 y4 := (by rw [← hy]; exact below_own _ _); have hM4 : y4.heap[b4]? = some (.cells #[.int .i64 hi2] 2 (0, 0)) := (by rw [← hy, hb]; exact blk_new _ _); have hL4 : y0.heap.size ≤ b4 := (by omega); have hB4 := below_then hB3 hx4; have HT4 := HT3.below hx4; have hS4 : y0.heap.size ≤ y4.heap.size := Nat.le_trans (by omega) hx4.size; rw [hy, ← hb]; clear hy hb) | (refine step_fst HT3 rfl _ _ rfl rfl _ rfl _ _ (by assumption) hB3 (by omega) (by omega) hN1 ?_; intro v4 y4 hT hB4 hO4 hS; have HT4 := hT; have hS4 : y0.heap.size ≤ y4.heap.size := (by omega); clear hT hS) | (refine step_fst HT3.swap rfl _ _ rfl rfl _ rfl _ _ (by assumption) hB3 (by omega) (by omega) hN2 ?_; intro v4 y4 hT hB4 hO4 hS; have HT4 := hT.swap; have hS4 : y0.heap.size ≤ y4.heap.size := (by omega); clear hT hS))
    all_goals (try replace hM1 := (by first | exact blk_call hx4 hM1 | exact hO4 _ _ hM1 hL1))
    all_goals (try replace hM2 := (by first | exact blk_call hx4 hM2 | exact hO4 _ _ hM2 hL2))
    all_goals (try replace hM3 := (by first | exact blk_call hx4 hM3 | exact hO4 _ _ hM3 hL3))
    all_goals (refine plH _ _ hB4 (fun plS => ?_); clear plH plK plS; (try simp only [Act.put, List.getElem_toArray, List.getElem_cons_succ, List.getElem_cons_zero, List.setIfInBounds_toArray, List.set_cons_succ, List.set_cons_zero]); first | exact hJ (v2, v4, b1, b3) y4 ⟨hB4, HT4⟩ | exact hJ (v3, v4, b1, b2) y4 ⟨hB4, HT4⟩ | exact hJ (v3, v4, b2, b1) y4 ⟨hB4, HT4⟩)
   rintro ⟨t6, t7, g1, g2⟩ V ⟨hBV, hTV⟩
   simp only at hTV
   refine norm_ (a' := ?_) qh24 ?_
   (refine pureY (i := 16) (N := (some 14)) ?_; refine pureY (i := 17) (N := (some 15)) ?_; refine done_ (by kernel_rfl) ?_)
   go_wp2_with fail
   go_roundw
   case rel => exact ⟨i + 1, by omega, by go_num, hBV, by rw [lows_succ l i hlt, highs_succ l i hlt, ← ELO.out, ← EHI.out]; exact hTV⟩
   case measure => simp [RowKit.intOf]; omega
  obtain rfl : i = l.length := by omega
  rw [lows_all, highs_all] at HTW
  have hS := HTW.out.slices
  clear HTW hlt hi
  obtain ⟨Hl, Hh⟩ := hS
  obtain ⟨Al, cl, rfl, Hll, Hlr⟩ := Kd.R_reads Hl
  have Hl_L := Lib.hid Hll
  have Hl_Y := Aside0.mk Hlr
  clear Hl Hll Hlr
  obtain ⟨Ah, ch, rfl, Hhl, Hhr⟩ := Kd.R_reads Hh
  have Hh_L := Lib.hid Hhl
  have Hh_Y := Aside0.mk Hhr
  clear Hh Hhl Hhr
  have Hl_7 := Hl_Y
  have Hh_7 := Hh_Y
  clear Hl_Y Hh_Y HBi
  have hq3 : decide ((l.length : Int) < ((tightL l).length : Int)) = false := decide_eq_false (by have := htl.out; omega)
  have hq4 : decide (l.length < (tightL l).length) = false := decide_eq_false (by have := htl.out; omega)
  have hq5 : ¬ l.length < (tightL l).length := by have := htl.out; omega
  have hH := HF_7.out.get tb #[.slice (some ad3) l.length c, .int .i64 p] 24 (by simp)
  have hltb := blk_lt hH
  have ctb0 : w7.cell? ⟨tb, 0, none⟩ = some (.slice (some ad3) l.length c) := (blk_cell hH 0).trans rfl
  have ctb1 : w7.cell? ⟨tb, 1, none⟩ = some (.int .i64 p) := (blk_cell hH 1).trans rfl
  clear hH
  go_wp2_with fail
  clear hltb ctb0 ctb1 hq3 hq4 hq5
  refine (forecourtref01_CheckChart.calls k (some ad3) c l p Al cl (lows l) 0 w7 HR_7.out HC.out Hl_7.out Hl_L.out H6.out).mono ?_
  rintro e w8 ⟨rfl, hB⟩
  have HF_8 := Aside0.mk (HF_7.out.below hB)
  have HB_8 := Aside0.mk (below_then HB_7.out hB)
  have HR_8 := Aside0.mk (Kd.C_below HR_7.out hB)
  have HQ_8 := Aside0.mk (Kd.C_below HQ_7.out hB)
  have Ht_8 := Aside0.mk (Kd.C_below Ht_7.out hB)
  have HJ_8 := Aside0.mk (below_then HJ_7.out hB)
  have Hl_8 := Aside0.mk (Kd.C_below Hl_7.out hB)
  have Hh_8 := Aside0.mk (Kd.C_below Hh_7.out hB)
  clear hB HF_7 HB_7 HR_7 HQ_7 Ht_7 HJ_7 Hl_7 Hh_7 w7
  have hH := HF_8.out.get tb #[.slice (some ad3) l.length c, .int .i64 p] 24 (by simp)
  have hltb := blk_lt hH
  have ctb0 : w8.cell? ⟨tb, 0, none⟩ = some (.slice (some ad3) l.length c) := (blk_cell hH 0).trans rfl
  have ctb1 : w8.cell? ⟨tb, 1, none⟩ = some (.int .i64 p) := (blk_cell hH 1).trans rfl
  clear hH
  go_wp2_with fail
  clear hltb ctb0 ctb1
  refine (forecourtref01_CheckChart.calls k (some ad3) c l p Ah ch (highs l) 0 w8 HR_8.out HC.out Hh_8.out Hh_L.out H7.out).mono ?_
  rintro e w9 ⟨rfl, hB⟩
  have HF_9 := Aside0.mk (HF_8.out.below hB)
  have HB_9 := Aside0.mk (below_then HB_8.out hB)
  have HR_9 := Aside0.mk (Kd.C_below HR_8.out hB)
  have HQ_9 := Aside0.mk (Kd.C_below HQ_8.out hB)
  have Ht_9 := Aside0.mk (Kd.C_below Ht_8.out hB)
  have HJ_9 := Aside0.mk (below_then HJ_8.out hB)
  have Hl_9 := Aside0.mk (Kd.C_below Hl_8.out hB)
  have Hh_9 := Aside0.mk (Kd.C_below Hh_8.out hB)
  clear hB HF_8 HB_8 HR_8 HQ_8 Ht_8 HJ_8 Hl_8 Hh_8 w8
  have hH := HF_9.out.get tb #[.slice (some ad3) l.length c, .int .i64 p] 24 (by simp)
  have hltb := blk_lt hH
  have ctb0 : w9.cell? ⟨tb, 0, none⟩ = some (.slice (some ad3) l.length c) := (blk_cell hH 0).trans rfl
  have ctb1 : w9.cell? ⟨tb, 1, none⟩ = some (.int .i64 p) := (blk_cell hH 1).trans rfl
  clear hH
  go_wp2_with fail
  clear hltb ctb0 ctb1
  refine (chart_CheckChart.calls k (some ad3) c l p Al cl (lows l) 0 w9 HR_9.out HC.out Hl_9.out Hl_L.out H8.out).mono ?_
  rintro e w10 ⟨rfl, hB⟩
  have HF_10 := Aside0.mk (HF_9.out.below hB)
  have HB_10 := Aside0.mk (below_then HB_9.out hB)
  have HR_10 := Aside0.mk (Kd.C_below HR_9.out hB)
  have HQ_10 := Aside0.mk (Kd.C_below HQ_9.out hB)
  have Ht_10 := Aside0.mk (Kd.C_below Ht_9.out hB)
  have HJ_10 := Aside0.mk (below_then HJ_9.out hB)
  have Hl_10 := Aside0.mk (Kd.C_below Hl_9.out hB)
  have Hh_10 := Aside0.mk (Kd.C_below Hh_9.out hB)
  clear hB HF_9 HB_9 HR_9 HQ_9 Ht_9 HJ_9 Hl_9 Hh_9 w9
  have hH := HF_10.out.get tb #[.slice (some ad3) l.length c, .int .i64 p] 24 (by simp)
  have hltb := blk_lt hH
  have ctb0 : w10.cell? ⟨tb, 0, none⟩ = some (.slice (some ad3) l.length c) := (blk_cell hH 0).trans rfl
  have ctb1 : w10.cell? ⟨tb, 1, none⟩ = some (.int .i64 p) := (blk_cell hH 1).trans rfl
  clear hH
  go_wp2_with fail
  clear hltb ctb0 ctb1
  refine (chart_CheckChart.calls k (some ad3) c l p Ah ch (highs l) 0 w10 HR_10.out HC.out Hh_10.out Hh_L.out H9.out).mono ?_
  rintro e w11 ⟨rfl, hB⟩
  have HF_11 := Aside0.mk (HF_10.out.below hB)
  have HB_11 := Aside0.mk (below_then HB_10.out hB)
  have HR_11 := Aside0.mk (Kd.C_below HR_10.out hB)
  have HQ_11 := Aside0.mk (Kd.C_below HQ_10.out hB)
  have Ht_11 := Aside0.mk (Kd.C_below Ht_10.out hB)
  have HJ_11 := Aside0.mk (below_then HJ_10.out hB)
  have Hl_11 := Aside0.mk (Kd.C_below Hl_10.out hB)
  have Hh_11 := Aside0.mk (Kd.C_below Hh_10.out hB)
  clear hB HF_10 HB_10 HR_10 HQ_10 Ht_10 HJ_10 Hl_10 Hh_10 w10
  go_wp2_with fail
  refine (forecourtlaw01_Works.calls true w11 ⟨rfl⟩ rfl).mono ?_
  rintro e wz ⟨rfl, hB⟩
  go_wp2_with fail
  go_ret
  exact ⟨rfl, below_then HB_11.out hB⟩
 as_aux_lemma =>
 (refine start_ (n := 36) (S := fun w' => Below (World.heap _).size _ w') (ds := []) (List.toArray (false :: false :: false :: false :: false :: false :: false :: false :: false :: false :: false :: false :: false :: false :: false :: false :: false :: false :: false :: false :: false :: false :: false :: false :: false :: false :: false :: false :: false :: false :: false :: false :: false :: false :: false :: false :: [])) (by kernel_rfl) rfl rfl (belowDrew _) (fun plS => ?_); refine pureY (i := 0) (N := (some 139)) ?_; refine pureY (i := 1) (N := (some 140)) ?_; refine pureY (i := 2) (N := (some 141)) ?_; refine pureY (i := 3) (N := (some 142)) ?_; refine pureY (i := 4) (N := (some 143)) ?_; refine pureY (i := 5) (N := (some 144)) ?_; refine pureY (i := 6) (N := (some 145)) ?_; refine pureY (i := 7) (N := (some 146)) ?_; refine pureY (i := 8) (N := (some 147)) ?_; refine pureY (i := 9) (N := (some 148)) ?_; refine takeF (i := 10) (N := (some 149)) (hS := plS) (hy := by (intro w' hw'; replace hw' : Below (World.heap w5).size w5 w' := hw'; have q0 := pw_cell_below hw' rab; have q1 := pw_cell_below hw' rb_c; have q2 := pw_cell_below hw' ctb0; have q3 := pw_cell_below hw' ctb1; exact yieldA)) (h := ?_); refine pureY (i := 11) (N := (some 150)) ?_; refine pureY (i := 12) (N := (some 151)) ?_; refine pureY (i := 13) (N := (some 152)) ?_; refine pureY (i := 14) (N := (some 153)) ?_; refine pureY (i := 15) (N := (some 154)) ?_; refine pureY (i := 16) (N := (some 155)) ?_; refine pureY (i := 17) (N := (some 156)) ?_; refine pureY (i := 18) (N := (some 157)) ?_; refine pureY (i := 19) (N := (some 158)) ?_; refine pureY (i := 21) (N := (some 160)) ?_; refine pureY (i := 26) (N := (some 165)) ?_; refine pureY (i := 28) (N := (some 167)) ?_; refine takeF (i := 20) (N := (some 159)) (hS := plS) (hy := by (intro w' hw'; replace hw' : Below (World.heap w5).size w5 w' := hw'; have q0 := pw_cell_below hw' rab; have q1 := pw_cell_below hw' rb_c; have q2 := pw_cell_below hw' ctb0; have q3 := pw_cell_below hw' ctb1; exact yieldA)) (h := ?_); refine pureY (i := 22) (N := (some 161)) ?_; refine pureY (i := 23) (N := (some 162)) ?_; refine pureY (i := 24) (N := (some 163)) ?_; refine takeF (i := 25) (N := (some 164)) (hS := plS) (hy := by (intro w' hw'; replace hw' : Below (World.heap w5).size w5 w' := hw'; have q0 := pw_cell_below hw' rab; have q1 := pw_cell_below hw' rb_c; have q2 := pw_cell_below hw' ctb0; have q3 := pw_cell_below hw' ctb1; exact yieldA)) (h := ?_); refine takeF (i := 27) (N := (some 166)) (hS := plS) (hy := by (intro w' hw'; replace hw' : Below (World.heap w5).size w5 w' := hw'; have q0 := pw_cell_below hw' rab; have q1 := pw_cell_below hw' rb_c; have q2 := pw_cell_below hw' ctb0; have q3 := pw_cell_below hw' ctb1; exact yieldA)) (h := ?_); refine pureY (i := 29) (N := (some 168)) ?_; refine pureY (i := 30) (N := (some 169)) ?_; refine pureY (i := 31) (N := (some 170)) ?_; refine takeF (i := 32) (N := (some 171)) (hS := plS) (hy := by (intro w' hw'; replace hw' : Below (World.heap w5).size w5 w' := hw'; have q0 := pw_cell_below hw' rab; have q1 := pw_cell_below hw' rb_c; have q2 := pw_cell_below hw' ctb0; have q3 := pw_cell_below hw' ctb1; exact yieldA)) (h := ?_); refine pureY (i := 33) (N := (some 172)) ?_; refine pureY (i := 34) (N := (some 173)) ?_; refine pureY (i := 35) (N := (some 174)) ?_; refine done_ (by kernel_rfl) ?_)
 clear plS hltb ctb0 ctb1 rab rb_c b2 b3 d1 d2
 obtain ⟨w6, hZ⟩ : ∃ Z, w5.drew = Z := ⟨_, rfl⟩
 have hB : Below w5.heap.size w5 w6 := by rw [← hZ]; exact (Below.refl _ _).drew
 rw [hZ]
 have HF_6 := Aside0.mk (HF_5.out.below hB)
 have HB_6 := Aside0.mk (below_then HB_5.out hB)
 have HR_6 := Aside0.mk (Kd.C_below HR_5.out hB)
 have HQ_6 := Aside0.mk (Kd.C_below HQ_5.out hB)
 have Ht_6 := Aside0.mk (Kd.C_below Ht_5.out hB)
 clear hZ hB HF_5 HB_5 HR_5 HQ_5 Ht_5 w5
 go_wp2_with fail
 have HJ_6 : Aside0 (Below w6.heap.size w6 w6) := ⟨Below.refl _ _⟩
 go_loopw [14, 15, 16] (fun v6 v7 v9 w' => ∃ i : Nat, i ≤ l.length ∧ v9 = .int .i64 i ∧ Below w6.heap.size w6 w' ∧ Two w6.heap.size w' v6 v7 i i ((lows l).take i) ((highs l).take i)) (fun v6 v7 v9 _ => l.length - (RowKit.intOf v9).toNat)
 case atStart => exact ⟨0, Nat.zero_le _, rfl, Below.refl _ _, Two.start _ _⟩
 case round =>
 obtain ⟨i, hi, rfl, hBi, hTwo⟩ := hrel
 have HTW := Aside0.mk hTwo
 clear hTwo
 obtain ⟨w7, hZ⟩ : ∃ Z, wr = Z := ⟨_, rfl⟩
 have hB := hBi
 rw [hZ] at hB
 rw [hZ]
 have HF_7 := Aside0.mk (HF_6.out.below hB)
 have HB_7 := Aside0.mk (below_then HB_6.out hB)
 have HR_7 := Aside0.mk (Kd.C_below HR_6.out hB)
 have HQ_7 := Aside0.mk (Kd.C_below HQ_6.out hB)
 have Ht_7 := Aside0.mk (Kd.C_below Ht_6.out hB)
 have HJ_7 := Aside0.mk (below_then HJ_6.out hB)
 rw [hZ] at HTW
 have HBi := Aside0.mk hB
 clear hZ hB
 by_cases hlt : i < l.length
 ·as_aux_lemma =>
  obtain ⟨ad2, ea, hx2, hx3⟩ := at_T43 Ht_6.out (i : Int) (by omega) (by have := htl.out; omega)
  cases ea
  rw [rdTight l i hlt, Int.toNat_natCast] at hx2 hx3
  obtain ⟨lo, elo⟩ : ∃ z, z = lowN l i := ⟨_, rfl⟩
  obtain ⟨hi2, ehi⟩ : ∃ z, z = highN l i := ⟨_, rfl⟩
  rw [← elo] at hx2
  rw [← ehi] at hx3
  replace hx2 : w6.cell? (ad2.add (i * 2)) = some (.int .i64 lo) := hx2
  replace hx3 : w6.cell? ⟨(ad2.add (i * 2)).block, (ad2.add (i * 2)).off + 1, none⟩ = some (.int .i64 hi2) := hx3
  have p1 : (0 : Int) ≤ (i : Int) := by omega
  have p3 : (i : Int) < (tightL l).length := by have := htl.out; omega
  have p4 : (i : Int) ≤ 1000 := by omega
  have ELO := Lib.hid elo
  have EHI := Lib.hid ehi
  clear elo ehi
  go_wp2_with fail
  have hB0 : Below w6.heap.size w6 w7.drew := HBi.out.drew
  (refine start_ (n := 18) (S := fun w' => Below (World.heap w6).size w6 w') (ds := []) (List.toArray (false :: false :: false :: false :: false :: false :: false :: false :: false :: false :: false :: false :: false :: false :: false :: false :: false :: false :: [])) (by kernel_rfl) rfl rfl hB0 (fun plS => ?_); refine pureY (i := 0) (N := (some 181)) ?_; refine pureY (i := 1) (N := (some 182)) ?_; refine pureY (i := 2) (N := (some 183)) ?_; refine pureY (i := 3) (N := (some 184)) ?_; refine pureY (i := 4) (N := (some 185)) ?_; refine pureY (i := 8) (N := (some 189)) ?_; refine pureY (i := 9) (N := (some 190)) ?_; refine pureY (i := 10) (N := (some 191)) ?_; refine pureY (i := 11) (N := (some 192)) ?_; refine pureY (i := 12) (N := (some 193)) ?_; refine takeF (i := 5) (N := (some 186)) (hS := plS) (hy := by (intro w' hw'; replace hw' : Below (World.heap w6).size w6 w' := hw'; have q0 := pw_cell_below hw' hx2; have q1 := pw_cell_below hw' hx3; exact yieldA)) (h := ?_); refine takeF (i := 13) (N := (some 194)) (hS := plS) (hy := by (intro w' hw'; replace hw' : Below (World.heap w6).size w6 w' := hw'; have q0 := pw_cell_below hw' hx2; have q1 := pw_cell_below hw' hx3; exact yieldA)) (h := ?_))
  have HT0 := HTW.out.below (belowDrew w7)
  obtain ⟨y0, hy0⟩ : ∃ Y, w7.drew = Y := ⟨_, rfl⟩
  rw [hy0] at hB0 HT0 ⊢
  clear hy0 plS
  have hN1 := own_lt HT0.a
  have hN2 := own_lt HT0.b
  have hS0 : w6.heap.size ≤ y0.heap.size := hB0.size
  refine join_ (σ := Value × Value × Nat × Nat) 2 (List.toArray (true :: true :: true :: true :: true :: true :: true :: true :: true :: true :: true :: true :: true :: true :: true :: true :: false :: false :: [])) (fun s => [(187, .slice (some ⟨s.2.2.1, 0, none⟩) 1 1), (188, s.1), (195, .slice (some ⟨s.2.2.2, 0, none⟩) 1 1), (196, s.2.1)])
   (fun s W => Below w6.heap.size w6 W ∧ Two w6.heap.size W s.1 s.2.1 (i + 1) (i + 1) ((lows l).take i ++ [lo]) ((highs l).take i ++ [hi2])) ?_ ?_
  rotate_left
  ·intro hJ
   (refine two_ (i := 6) (j := 14) (List.toArray (true :: true :: true :: true :: true :: true :: true :: false :: true :: true :: true :: true :: true :: true :: false :: false :: false :: false :: [])) (List.toArray (true :: true :: true :: true :: true :: true :: false :: false :: true :: true :: true :: true :: true :: true :: true :: false :: false :: false :: [])) rfl rfl rfl rfl (by kernel_rfl) (by decide) (by decide) (fun plK plH => ?_) (fun plK plH => ?_))
   all_goals (first | ((try (rw [if_pos (by rfl)]; (first | gi_big_move | go_big_op | go_simp))); obtain ⟨y1, hy⟩ : ∃ Y, World.alloc y0 (.cells #[.int .i64 lo] 2) = Y := ⟨_, rfl⟩; obtain ⟨b1, hb⟩ : ∃ b, b = y0.heap.size := ⟨_, rfl⟩; have hx1 : Below y0.heap.size y0 y1 := (by rw [← hy]; exact below_own _ _); have hM1 : y1.heap[b1]? = some (.cells #[.int .i64 lo] 2 (0, 0)) := (by rw [← hy, hb]; exact blk_new _ _); have hL1 : y0.heap.size ≤ b1 := (by omega); have hB1 := below_then hB0 hx1; have HT1 := HT0.below hx1; have hS1 : y0.heap.size ≤ y1.heap.size := Nat.le_trans (by omega) hx1.size; rw [hy, ← hb]; clear hy hb) | ((try (rw [if_pos (by rfl)]; (first | gi_big_move | go_big_op | go_simp))); obtain ⟨y1, hy⟩ : ∃ Y, World.alloc y0 (.cells #[.int .i64 hi2] 2) = Y := ⟨_, rfl⟩; obtain ⟨b1, hb⟩ : ∃ b, b = y0.heap.size := ⟨_, rfl⟩; have hx1 : Below y0.heap.size y0 y1 := (by rw [← hy]; exact below_own _ _); have hM1 : y1.heap[b1]? = some (.cells #[.int .i64 hi2] 2 (0, 0)) := (by rw [← hy, hb]; exact blk_new _ _); have hL1 : y0.heap.size ≤ b1 := (by omega); have hB1 := below_then hB0 hx1; have HT1 := HT0.below hx1; have hS1 : y0.heap.size ≤ y1.heap.size := Nat.le_trans (by omega) hx1.size; rw [hy, ← hb]; clear hy hb) | (refine step_fst HT0 rfl _ _ rfl rfl _ rfl _ _ (by assumption) hB0 (by omega) (by omega) hN1 ?_; intro v1 y1 hT hB1 hO1 hS; have HT1 := hT; have hS1 : y0.heap.size ≤ y1.heap.size := (by omega); clear hT hS) | (refine step_fst HT0.swap rfl _ _ rfl rfl _ rfl _ _ (by assumption) hB0 (by omega) (by omega) hN2 ?_; intro v1 y1 hT hB1 hO1 hS; have HT1 := hT.swap; have hS1 : y0.heap.size ≤ y1.heap.size := (by omega); clear hT hS))
   all_goals (first | ((try simp only [Act.put, List.getElem_toArray, List.getElem_cons_succ, List.getElem_cons_zero, List.setIfInBounds_toArray, List.set_cons_succ, List.set_cons_zero]); refine plH _ _ hB1  (fun plS => ?_); clear plH plK; refine at_ #[true, true, true, true, true, true, true, false, true, true, true, true, true, true, false, false, false, false] rfl ?_; refine two_ (i := 7) (j := 14) (List.toArray (true :: true :: true :: true :: true :: true :: true :: true :: true :: true :: true :: true :: true :: true :: false :: false :: false :: false :: [])) (List.toArray (true :: true :: true :: true :: true :: true :: true :: false :: true :: true :: true :: true :: true :: true :: true :: false :: false :: false :: [])) rfl rfl rfl rfl (by kernel_rfl) (by decide) (by decide) (fun plK plH => ?_) (fun plK plH => ?_)) | ((try simp only [Act.put, List.getElem_toArray, List.getElem_cons_succ, List.getElem_cons_zero, List.setIfInBounds_toArray, List.set_cons_succ, List.set_cons_zero]); refine plH _ _ hB1  (fun plS => ?_); clear plH plK; refine at_ #[true, true, true, true, true, true, false, false, true, true, true, true, true, true, true, false, false, false] rfl ?_; refine oneY (i := 6) (fun plK plH => ?_); rw [if_pos (by rfl)]; (first | gi_big_move | go_big_op | go_simp)))
   all_goals (first | ((try (rw [if_pos (by rfl)]; (first | gi_big_move | go_big_op | go_simp))); obtain ⟨y2, hy⟩ : ∃ Y, World.alloc y1 (.cells #[.int .i64 lo] 2) = Y := ⟨_, rfl⟩; obtain ⟨b2, hb⟩ : ∃ b, b = y1.heap.size := ⟨_, rfl⟩; have hx2 : Below y1.heap.size y1 y2 := (by rw [← hy]; exact below_own _ _); have hM2 : y2.heap[b2]? = some (.cells #[.int .i64 lo] 2 (0, 0)) := (by rw [← hy, hb]; exact blk_new _ _); have hL2 : y0.heap.size ≤ b2 := (by omega); have hB2 := below_then hB1 hx2; have HT2 := HT1.below hx2; have hS2 : y0.heap.size ≤ y2.heap.size := Nat.le_trans (by omega) hx2.size; rw [hy, ← hb]; clear hy hb) | ((try (rw [if_pos (by rfl)]; (first | gi_big_move | go_big_op | go_simp))); obtain ⟨y2, hy⟩ : ∃ Y, World.alloc y1 (.cells #[.int .i64 hi2] 2) = Y := ⟨_, rfl⟩; obtain ⟨b2, hb⟩ : ∃ b, b = y1.heap.size := ⟨_, rfl⟩; have hx2 : Below y1.heap.size y1 y2 := (by rw [← hy]; exact below_own _ _); have hM2 : y2.heap[b2]? = some (.cells #[.int .i64 hi2] 2 (0, 0)) := (by rw [← hy, hb]; exact blk_new _ _); have hL2 : y0.heap.size ≤ b2 := (by omega); have hB2 := below_then hB1 hx2; have HT2 := HT1.below hx2; have hS2 : y0.heap.size ≤ y2.heap.size := Nat.le_trans (by omega) hx2.size; rw [hy, ← hb]; clear hy hb) | (refine step_fst HT1 rfl _ _ rfl rfl _ rfl _ _ (by assumption) hB1 (by omega) (by omega) hN1 ?_; intro v2 y2 hT hB2 hO2 hS; have HT2 := hT; have hS2 : y0.heap.size ≤ y2.heap.size := (by omega); clear hT hS) | (refine step_fst HT1.swap rfl _ _ rfl rfl _ rfl _ _ (by assumption) hB1 (by omega) (by omega) hN2 ?_; intro v2 y2 hT hB2 hO2 hS; have HT2 := hT.swap; have hS2 : y0.heap.size ≤ y2.heap.size := (by omega); clear hT hS))
   all_goals (try replace hM1 := (by first | exact blk_call hx2 hM1 | exact hO2 _ _ hM1 hL1))
   all_goals (first | ((try simp only [Act.put, List.getElem_toArray, List.getElem_cons_succ, List.getElem_cons_zero, List.setIfInBounds_toArray, List.set_cons_succ, List.set_cons_zero]); refine plH _ _ hB2  (fun plS => ?_); clear plH plK; refine at_ #[true, true, true, true, true, true, true, true, true, true, true, true, true, true, false, false, false, false] rfl ?_; refine oneY (i := 14) (fun plK plH => ?_); rw [if_pos (by rfl)]; (first | gi_big_move | go_big_op | go_simp)) | ((try simp only [Act.put, List.getElem_toArray, List.getElem_cons_succ, List.getElem_cons_zero, List.setIfInBounds_toArray, List.set_cons_succ, List.set_cons_zero]); refine plH _ _ hB2  (fun plS => ?_); clear plH plK; refine at_ #[true, true, true, true, true, true, true, false, true, true, true, true, true, true, true, false, false, false] rfl ?_; refine oneY (i := 7) (fun plK plH => ?_)))
   all_goals (first | ((try (rw [if_pos (by rfl)]; (first | gi_big_move | go_big_op | go_simp))); obtain ⟨y3, hy⟩ : ∃ Y, World.alloc y2 (.cells #[.int .i64 lo] 2) = Y := ⟨_, rfl⟩; obtain ⟨b3, hb⟩ : ∃ b, b = y2.heap.size := ⟨_, rfl⟩; have hx3 : Below y2.heap.size y2 y3 := (by rw [← hy]; exact below_own _ _); have hM3 : y3.heap[b3]? = some (.cells #[.int .i64 lo] 2 (0, 0)) := (by rw [← hy, hb]; exact blk_new _ _); have hL3 : y0.heap.size ≤ b3 := (by omega); have hB3 := below_then hB2 hx3; have HT3 := HT2.below hx3; have hS3 : y0.heap.size ≤ y3.heap.size := Nat.le_trans (by omega) hx3.size; rw [hy, ← hb]; clear hy hb) | ((try (rw [if_pos (by rfl)]; (first | gi_big_move | go_big_op | go_simp))); obtain ⟨y3, hy⟩ : ∃ Y, World.alloc y2 (.cells #[.int .i64 hi2] 2) = Y := ⟨_, rfl⟩; obtain ⟨b3, hb⟩ : ∃ b, b = y2.heap.size := ⟨_, rfl⟩; have hx3 : Below y2.heap.size y2 y3 := (by rw [← hy]; exact below_own _ _); have hM3 : y3.heap[b3]? = some (.cells #[.int .i64 hi2] 2 (0, 0)) := (by rw [← hy, hb]; exact blk_new _ _); have hL3 : y0.heap.size ≤ b3 := (by omega); have hB3 := below_then hB2 hx3; have HT3 := HT2.below hx3; have hS3 : y0.heap.size ≤ y3.heap.size := Nat.le_trans (by omega) hx3.size; rw [hy, ← hb]; clear hy hb) | (refine step_fst HT2 rfl _ _ rfl rfl _ rfl _ _ (by assumption) hB2 (by omega) (by omega) hN1 ?_; intro v3 y3 hT hB3 hO3 hS; have HT3 := hT; have hS3 : y0.heap.size ≤ y3.heap.size := (by omega); clear hT hS) | (refine step_fst HT2.swap rfl _ _ rfl rfl _ rfl _ _ (by assumption) hB2 (by omega) (by omega) hN2 ?_; intro v3 y3 hT hB3 hO3 hS; have HT3 := hT.swap; have hS3 : y0.heap.size ≤ y3.heap.size := (by omega); clear hT hS))
   all_goals (try replace hM1 := (by first | exact blk_call hx3 hM1 | exact hO3 _ _ hM1 hL1))
   all_goals (try replace hM2 := (by first | exact blk_call hx3 hM2 | exact hO3 _ _ hM2 hL2))
   all_goals ((try simp only [Act.put, List.getElem_toArray, List.getElem_cons_succ, List.getElem_cons_zero, List.setIfInBounds_toArray, List.set_cons_succ, List.set_cons_zero]); refine plH _ _ hB3  (fun plS => ?_); clear plH plK; refine oneY (i := 15) (fun plK plH => ?_))
   all_goals (first | ((try (rw [if_pos (by rfl)]; (first | gi_big_move | go_big_op | go_simp))); obtain ⟨y4, hy⟩ : ∃ Y, World.alloc y3 (.cells #[.int .i64 lo] 2) = Y := ⟨_, rfl⟩; obtain ⟨b4, hb⟩ : ∃ b, b = y3.heap.size := ⟨_, rfl⟩; have hx4 : Below y3.heap.size y3 y4 := (by rw [← hy]; exact below_own _ _); have hM4 : y4.heap[b4]? = some (.cells #[.int .i64 lo] 2 (0, 0)) := (by rw [← hy, hb]; exact blk_new _ _); have hL4 : y0.heap.size ≤ b4 := (by omega); have hB4 := below_then hB3 hx4; have HT4 := HT3.below hx4; have hS4 : y0.heap.size ≤ y4.heap.size := Nat.le_trans (by omega) hx4.size; rw [hy, ← hb]; clear hy hb) | ((try (rw [if_pos (by rfl)]; (first | gi_big_move | go_big_op | go_simp))); obtain ⟨y4, hy⟩ : ∃ Y, World.alloc y3 (.cells #[.int .i64 hi2] 2) = Y := ⟨_, rfl⟩; obtain ⟨b4, hb⟩ : ∃ b, b = y3.heap.size := ⟨_, rfl⟩; have hx4 : Below y3.heap.size y3 y4 := (by rw [← hy]; exact below_own _ _); have hM4 : y4.heap[b4]? = some (.cells #[.int .i64 hi2] 2 (0, 0)) := (by rw [← hy, hb]; exact blk_new _ _); have hL4 : y0.heap.size ≤ b4 := (by omega); have hB4 := below_then hB3 hx4; have HT4 := HT3.below hx4; have hS4 : y0.heap.size ≤ y4.heap.size := Nat.le_trans (by omega) hx4.size; rw [hy, ← hb]; clear hy hb) | (refine step_fst HT3 rfl _ _ rfl rfl _ rfl _ _ (by assumption) hB3 (by omega) (by omega) hN1 ?_; intro v4 y4 hT hB4 hO4 hS; have HT4 := hT; have hS4 : y0.heap.size ≤ y4.heap.size := (by omega); clear hT hS) | (refine step_fst HT3.swap rfl _ _ rfl rfl _ rfl _ _ (by assumption) hB3 (by omega) (by omega) hN2 ?_; intro v4 y4 hT hB4 hO4 hS; have HT4 := hT.swap; have hS4 : y0.heap.size ≤ y4.heap.size := (by omega); clear hT hS))
   all_goals (try replace hM1 := (by first | exact blk_call hx4 hM1 | exact hO4 _ _ hM1 hL1))
   all_goals (try replace hM2 := (by first | exact blk_call hx4 hM2 | exact hO4 _ _ hM2 hL2))
   all_goals (try replace hM3 := (by first | exact blk_call hx4 hM3 | exact hO4 _ _ hM3 hL3))
   all_goals (refine plH _ _ hB4 (fun plS => ?_); clear plH plK plS; (try simp only [Act.put, List.getElem_toArray, List.getElem_cons_succ, List.getElem_cons_zero, List.setIfInBounds_toArray, List.set_cons_succ, List.set_cons_zero]); first | exact hJ (v2, v4, b1, b3) y4 ⟨hB4, HT4⟩ | exact hJ (v3, v4, b1, b2) y4 ⟨hB4, HT4⟩ | exact hJ (v3, v4, b2, b1) y4 ⟨hB4, HT4⟩)
  rintro ⟨t6, t7, g1, g2⟩ V ⟨hBV, hTV⟩
  simp only at hTV
  refine norm_ (a' := ?_) qh24 ?_
  (refine pureY (i := 16) (N := (some 14)) ?_; refine pureY (i := 17) (N := (some 15)) ?_; refine done_ (by kernel_rfl) ?_)
  go_wp2_with fail
  go_roundw
  case rel => exact ⟨i + 1, by omega, by go_num, hBV, by rw [lows_succ l i hlt, highs_succ l i hlt, ← ELO.out, ← EHI.out]; exact hTV⟩
  case measure => simp [RowKit.intOf]; omega
 obtain rfl : i = l.length := by omega
 rw [lows_all, highs_all] at HTW
 have hS := HTW.out.slices
 clear HTW hlt hi
 obtain ⟨Hl, Hh⟩ := hS
 obtain ⟨Al, cl, rfl, Hll, Hlr⟩ := Kd.R_reads Hl
 have Hl_L := Lib.hid Hll
 have Hl_Y := Aside0.mk Hlr
 clear Hl Hll Hlr
 obtain ⟨Ah, ch, rfl, Hhl, Hhr⟩ := Kd.R_reads Hh
 have Hh_L := Lib.hid Hhl
 have Hh_Y := Aside0.mk Hhr
 clear Hh Hhl Hhr
 have Hl_7 := Hl_Y
 have Hh_7 := Hh_Y
 clear Hl_Y Hh_Y HBi
 have hq3 : decide ((l.length : Int) < ((tightL l).length : Int)) = false := decide_eq_false (by have := htl.out; omega)
 have hq4 : decide (l.length < (tightL l).length) = false := decide_eq_false (by have := htl.out; omega)
 have hq5 : ¬ l.length < (tightL l).length := by have := htl.out; omega
 have hH := HF_7.out.get tb #[.slice (some ad3) l.length c, .int .i64 p] 24 (by simp)
 have hltb := blk_lt hH
 have ctb0 : w7.cell? ⟨tb, 0, none⟩ = some (.slice (some ad3) l.length c) := (blk_cell hH 0).trans rfl
 have ctb1 : w7.cell? ⟨tb, 1, none⟩ = some (.int .i64 p) := (blk_cell hH 1).trans rfl
 clear hH
 go_wp2_with fail
 clear hltb ctb0 ctb1 hq3 hq4 hq5
 refine (forecourtref01_CheckChart.calls k (some ad3) c l p Al cl (lows l) 0 w7 HR_7.out HC.out Hl_7.out Hl_L.out H6.out).mono ?_
 rintro e w8 ⟨rfl, hB⟩
 have HF_8 := Aside0.mk (HF_7.out.below hB)
 have HB_8 := Aside0.mk (below_then HB_7.out hB)
 have HR_8 := Aside0.mk (Kd.C_below HR_7.out hB)
 have HQ_8 := Aside0.mk (Kd.C_below HQ_7.out hB)
 have Ht_8 := Aside0.mk (Kd.C_below Ht_7.out hB)
 have HJ_8 := Aside0.mk (below_then HJ_7.out hB)
 have Hl_8 := Aside0.mk (Kd.C_below Hl_7.out hB)
 have Hh_8 := Aside0.mk (Kd.C_below Hh_7.out hB)
 clear hB HF_7 HB_7 HR_7 HQ_7 Ht_7 HJ_7 Hl_7 Hh_7 w7
 have hH := HF_8.out.get tb #[.slice (some ad3) l.length c, .int .i64 p] 24 (by simp)
 have hltb := blk_lt hH
 have ctb0 : w8.cell? ⟨tb, 0, none⟩ = some (.slice (some ad3) l.length c) := (blk_cell hH 0).trans rfl
 have ctb1 : w8.cell? ⟨tb, 1, none⟩ = some (.int .i64 p) := (blk_cell hH 1).trans rfl
 clear hH
 go_wp2_with fail
 clear hltb ctb0 ctb1
 refine (forecourtref01_CheckChart.calls k (some ad3) c l p Ah ch (highs l) 0 w8 HR_8.out HC.out Hh_8.out Hh_L.out H7.out).mono ?_
 rintro e w9 ⟨rfl, hB⟩
 have HF_9 := Aside0.mk (HF_8.out.below hB)
 have HB_9 := Aside0.mk (below_then HB_8.out hB)
 have HR_9 := Aside0.mk (Kd.C_below HR_8.out hB)
 have HQ_9 := Aside0.mk (Kd.C_below HQ_8.out hB)
 have Ht_9 := Aside0.mk (Kd.C_below Ht_8.out hB)
 have HJ_9 := Aside0.mk (below_then HJ_8.out hB)
 have Hl_9 := Aside0.mk (Kd.C_below Hl_8.out hB)
 have Hh_9 := Aside0.mk (Kd.C_below Hh_8.out hB)
 clear hB HF_8 HB_8 HR_8 HQ_8 Ht_8 HJ_8 Hl_8 Hh_8 w8
 have hH := HF_9.out.get tb #[.slice (some ad3) l.length c, .int .i64 p] 24 (by simp)
 have hltb := blk_lt hH
 have ctb0 : w9.cell? ⟨tb, 0, none⟩ = some (.slice (some ad3) l.length c) := (blk_cell hH 0).trans rfl
 have ctb1 : w9.cell? ⟨tb, 1, none⟩ = some (.int .i64 p) := (blk_cell hH 1).trans rfl
 clear hH
 go_wp2_with fail
 clear hltb ctb0 ctb1
 refine (chart_CheckChart.calls k (some ad3) c l p Al cl (lows l) 0 w9 HR_9.out HC.out Hl_9.out Hl_L.out H8.out).mono ?_
 rintro e w10 ⟨rfl, hB⟩
 have HF_10 := Aside0.mk (HF_9.out.below hB)
 have HB_10 := Aside0.mk (below_then HB_9.out hB)
 have HR_10 := Aside0.mk (Kd.C_below HR_9.out hB)
 have HQ_10 := Aside0.mk (Kd.C_below HQ_9.out hB)
 have Ht_10 := Aside0.mk (Kd.C_below Ht_9.out hB)
 have HJ_10 := Aside0.mk (below_then HJ_9.out hB)
 have Hl_10 := Aside0.mk (Kd.C_below Hl_9.out hB)
 have Hh_10 := Aside0.mk (Kd.C_below Hh_9.out hB)
 clear hB HF_9 HB_9 HR_9 HQ_9 Ht_9 HJ_9 Hl_9 Hh_9 w9
 have hH := HF_10.out.get tb #[.slice (some ad3) l.length c, .int .i64 p] 24 (by simp)
 have hltb := blk_lt hH
 have ctb0 : w10.cell? ⟨tb, 0, none⟩ = some (.slice (some ad3) l.length c) := (blk_cell hH 0).trans rfl
 have ctb1 : w10.cell? ⟨tb, 1, none⟩ = some (.int .i64 p) := (blk_cell hH 1).trans rfl
 clear hH
 go_wp2_with fail
 clear hltb ctb0 ctb1
 refine (chart_CheckChart.calls k (some ad3) c l p Ah ch (highs l) 0 w10 HR_10.out HC.out Hh_10.out Hh_L.out H9.out).mono ?_
 rintro e w11 ⟨rfl, hB⟩
 have HF_11 := Aside0.mk (HF_10.out.below hB)
 have HB_11 := Aside0.mk (below_then HB_10.out hB)
 have HR_11 := Aside0.mk (Kd.C_below HR_10.out hB)
 have HQ_11 := Aside0.mk (Kd.C_below HQ_10.out hB)
 have Ht_11 := Aside0.mk (Kd.C_below Ht_10.out hB)
 have HJ_11 := Aside0.mk (below_then HJ_10.out hB)
 have Hl_11 := Aside0.mk (Kd.C_below Hl_10.out hB)
 have Hh_11 := Aside0.mk (Kd.C_below Hh_10.out hB)
 clear hB HF_10 HB_10 HR_10 HQ_10 Ht_10 HJ_10 Hl_10 Hh_10 w10
 go_wp2_with fail
 refine (forecourtlaw01_Works.calls true w11 ⟨rfl⟩ rfl).mono ?_
 rintro e wz ⟨rfl, hB⟩
 go_wp2_with fail
 go_ret
 exact ⟨rfl, below_then HB_11.out hB⟩
end Go.Proofs.Ytpkajhmchcbbhaa.P
end
