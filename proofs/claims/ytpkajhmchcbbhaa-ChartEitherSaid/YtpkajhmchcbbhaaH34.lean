/- Part 34 of 38. -/
import Derived.Test.YtpkajhmchcbbhaaH14
import Derived.Test.YtpkajhmchcbbhaaH33
import Derived.Test.YtpkajhmchcbbhaaH31
import Derived.Test.YtpkajhmchcbbhaaH20
import Derived.Test.YtpkajhmchcbbhaaH27
import Derived.Test.YtpkajhmchcbbhaaH28
import Derived.Test.YtpkajhmchcbbhaaH9
import Derived.Test.YtpkajhmchcbbhaaH7
import Derived.Test.YtpkajhmchcbbhaaH8
import Derived.Test.YtpkajhmchcbbhaaH11
set_option linter.unusedSimpArgs false
set_option linter.unusedVariables false
section
namespace Go.Proofs.Ytpkajhmchcbbhaa.P
open Go Go.BigFrame Go.RowKit Go.Proofs.YtpkajhmchcbbhaaW.PrintWords Go.Proofs.YtpkajhmchcbbhaaW.PrintLast Go.Proofs.YtpkajhmchcbbhaaW.PrintMore
set_option maxRecDepth 100000 in
set_option maxHeartbeats 40000000 in
theorem eitherA_calls (A : Option Addr) (c : Nat) (l : List SRow) (p : Int) (A1 : Option Addr) (c1 : Nat) (l1 : List Int) (x0 x1 : Int) (k : Nat) (w w0 : World)
  (HR_0 : Aside0 (Kd.C kRow w0 A l.length l)) (HC : Hid (l.length ≤ c)) (HQ_0 : Aside0 (Kd.C (Kd.int .i64) w0 A1 l1.length l1)) (HC1 : Hid (l1.length ≤ c1)) (HB_0 : Aside0 (Below w.heap.size w w0))
  (i j e a b la hb : Int) (H1 : Hid (forecourtlaw01_great.f l p = some false)) (H2 : Hid (forecourtref01_CheckTank.f k l p = some 0)) (H3 : Hid ((l1.length : Int) ≤ 40)) (HN : Hid (2 ≤ l.length ∧ l.length ≤ 16))
  (H4 : Hid (chart_Clash.f l p = some (i, j, e)))
  (HX : Hid (0 ≤ x0 ∧ x0 ≤ 255 ∧ 0 ≤ x1 ∧ x1 ≤ 255)) (HM : Hid (x0.tmod (l.length : Int) = a ∧ x1.tmod (l.length : Int) = b)) (HAB : Hid (0 ≤ a ∧ a < l.length ∧ 0 ≤ b ∧ b < l.length)) (HL : Hid ((rd_T70 l a).f1.f0 = la ∧ (rd_T70 l b).f1.f1 = hb))
  (li hj g : Int) (H5 : Hid (chart_Tight.f l p = some ([], 21))) (HIJ : Hid (0 ≤ i ∧ i < j ∧ j < l.length ∧ (rd_T70 l i).f1.f0 = li ∧ (rd_T70 l j).f1.f1 = hj ∧ ¬ li ≤ hj)) (HE : Hid (e = 0))
  (HFI : Hid (a < b → (a < i ∨ a = i ∧ b < j) → ¬ la > hb)) (H6 : Hid (chart_CheckChart.f k l p l1 = some g ∧ ¬ g = 0)) :
  Calls Try.prog 8 #[.agg #[.slice A l.length c, .int .i64 p], .slice A1 l1.length c1, .agg #[.int .u8 x0, .int .u8 x1]] w0 fun e w' => e = .returned (.bool true) ∧ Below w.heap.size w w' := by
 have hu1 := Try.underlying24
 have hu2 := Try.underlying70
 have hu3 := Try.underlying43
 have hu4 := Try.underlying28
 have hu5 := Try.underlying22
 have hu6 := Try.underlying62
 have HF_0 : Aside0 (Held [] w0) := ⟨⟨fun b cs t hm => by simp at hm⟩⟩
 go_enter Try.func8, Try.ntmps8
 go_wp2_with fail
 obtain ⟨w0a, hZ⟩ : ∃ Z, w0.alloc (.cells #[.slice A l.length c, .int .i64 p] 24) = Z := ⟨_, rfl⟩
 obtain ⟨tb, hbk⟩ : ∃ b, b = w0.heap.size := ⟨_, rfl⟩
 have HF_0a : Aside0 (Held [(tb, #[.slice A l.length c, .int .i64 p], 24)] w0a) := ⟨by rw [← hZ, hbk]; exact HF_0.out.new _ _⟩
 have HSZ := Lib.hid (show w0a.heap.size = tb + 1 by rw [← hZ, hbk]; simp)
 have HR_0a : Aside0 (Kd.C kRow w0a A l.length l) := ⟨by rw [← hZ]; exact Kd.C_below HR_0.out ((Below.refl _ _).alloc (Nat.le_refl _) _)⟩
 have HQ_0a : Aside0 (Kd.C (Kd.int .i64) w0a A1 l1.length l1) := ⟨by rw [← hZ]; exact Kd.C_below HQ_0.out ((Below.refl _ _).alloc (Nat.le_refl _) _)⟩
 have HB_0a : Aside0 (Below w.heap.size w w0a) := ⟨by rw [← hZ]; exact HB_0.out.alloc HB_0.out.size _⟩
 rw [hZ, ← hbk]
 clear hZ hbk HF_0 HB_0 HR_0 HQ_0 w0
 obtain ⟨w0aa, hZ⟩ : ∃ Z, w0a.alloc (.cells #[.int .u8 x0, .int .u8 x1] 62) = Z := ⟨_, rfl⟩
 obtain ⟨rb, hbk⟩ : ∃ b, b = tb + 1 := ⟨_, rfl⟩
 have HF_0aa : Aside0 (Held [(rb, #[.int .u8 x0, .int .u8 x1], 62), (tb, #[.slice A l.length c, .int .i64 p], 24)] w0aa) := ⟨by rw [← hZ, hbk, ← HSZ.out]; exact HF_0a.out.new _ _⟩
 have HR_0aa : Aside0 (Kd.C kRow w0aa A l.length l) := ⟨by rw [← hZ]; exact Kd.C_below HR_0a.out ((Below.refl _ _).alloc (Nat.le_refl _) _)⟩
 have HQ_0aa : Aside0 (Kd.C (Kd.int .i64) w0aa A1 l1.length l1) := ⟨by rw [← hZ]; exact Kd.C_below HQ_0a.out ((Below.refl _ _).alloc (Nat.le_refl _) _)⟩
 have HB_0aa : Aside0 (Below w.heap.size w w0aa) := ⟨by rw [← hZ]; exact HB_0a.out.alloc HB_0a.out.size _⟩
 rw [hZ, ← hbk]
 clear hZ hbk HSZ HF_0a HB_0a HR_0a HQ_0a w0a
 refine (forecourtlaw01_great.calls A c l p false w0aa HR_0aa.out HC.out H1.out).mono ?_
 rintro e w1 ⟨rfl, hB⟩
 have HF_1 := Aside0.mk (HF_0aa.out.below hB)
 have HB_1 := Aside0.mk (below_then HB_0aa.out hB)
 have HR_1 := Aside0.mk (Kd.C_below HR_0aa.out hB)
 have HQ_1 := Aside0.mk (Kd.C_below HQ_0aa.out hB)
 clear hB HF_0aa HB_0aa HR_0aa HQ_0aa w0aa
 have hH := HF_1.out.get tb #[.slice A l.length c, .int .i64 p] 24 (by simp)
 have hltb := blk_lt hH
 have ctb0 : w1.cell? ⟨tb, 0, none⟩ = some (.slice A l.length c) := (blk_cell hH 0).trans rfl
 have ctb1 : w1.cell? ⟨tb, 1, none⟩ = some (.int .i64 p) := (blk_cell hH 1).trans rfl
 clear hH
 go_wp2_with fail
 clear hltb ctb0 ctb1
 refine (forecourtref01_CheckTank.calls k A c l p 0 w1 HR_1.out HC.out H2.out).mono ?_
 rintro e w2 ⟨rfl, hB⟩
 have HF_2 := Aside0.mk (HF_1.out.below hB)
 have HB_2 := Aside0.mk (below_then HB_1.out hB)
 have HR_2 := Aside0.mk (Kd.C_below HR_1.out hB)
 have HQ_2 := Aside0.mk (Kd.C_below HQ_1.out hB)
 clear hB HF_1 HB_1 HR_1 HQ_1 w1
 have h40 : decide ((l1.length : Int) > 40) = false := decide_eq_false (by have := H3.out; omega)
 have hH := HF_2.out.get tb #[.slice A l.length c, .int .i64 p] 24 (by simp)
 have hltb := blk_lt hH
 have ctb0 : w2.cell? ⟨tb, 0, none⟩ = some (.slice A l.length c) := (blk_cell hH 0).trans rfl
 have ctb1 : w2.cell? ⟨tb, 1, none⟩ = some (.int .i64 p) := (blk_cell hH 1).trans rfl
 clear hH
 go_wp2_with fail
 clear hltb ctb0 ctb1 h40
 refine (chart_Clash.calls A c l p i j e w2 HR_2.out HC.out H4.out).mono ?_
 rintro e w3 ⟨rfl, hB⟩
 have HF_3 := Aside0.mk (HF_2.out.below hB)
 have HB_3 := Aside0.mk (below_then HB_2.out hB)
 have HR_3 := Aside0.mk (Kd.C_below HR_2.out hB)
 have HQ_3 := Aside0.mk (Kd.C_below HQ_2.out hB)
 clear hB HF_2 HB_2 HR_2 HQ_2 w2
 have hH := HF_3.out.get tb #[.slice A l.length c, .int .i64 p] 24 (by simp)
 have hltb := blk_lt hH
 have ctb0 : w3.cell? ⟨tb, 0, none⟩ = some (.slice A l.length c) := (blk_cell hH 0).trans rfl
 have ctb1 : w3.cell? ⟨tb, 1, none⟩ = some (.int .i64 p) := (blk_cell hH 1).trans rfl
 clear hH
 go_wp2_with fail
 clear hltb ctb0 ctb1
 refine (chart_Tight.calls A c l p [] 21 w3 HR_3.out HC.out H5.out).mono ?_
 rintro e w4 ⟨v, rfl, Ht, hB⟩
 obtain ⟨At, ct, rfl, Htl, Htr⟩ := Kd.R_reads Ht
 have Ht_L := Lib.hid Htl
 have Ht_4 := Aside0.mk Htr
 clear Ht Htl Htr
 have HF_4 := Aside0.mk (HF_3.out.below hB)
 have HB_4 := Aside0.mk (below_then HB_3.out hB)
 have HR_4 := Aside0.mk (Kd.C_below HR_3.out hB)
 have HQ_4 := Aside0.mk (Kd.C_below HQ_3.out hB)
 clear hB HF_3 HB_3 HR_3 HQ_3 w3
 have hn := HN.out
 obtain ⟨ad3, ea, hq0, hq1, hq2⟩ := at_T70 HR_4.out 0 (by omega) (by omega)
 cases ea
 clear hq0 hq1 hq2
 obtain ⟨X1, X2, X3, X4⟩ := HX.out
 obtain ⟨M1, M2⟩ := HM.out
 have hn0 : ¬ (l.length : Int) = 0 := by omega
 have hne : ¬ l = [] := fun e => by rw [e] at hn; simp at hn
 have hn1 : (0 : Int) < (l.length : Int) := by omega
 have hH := HF_4.out.get tb #[.slice (some ad3) l.length c, .int .i64 p] 24 (by simp)
 have hltb := blk_lt hH
 have ctb0 : w4.cell? ⟨tb, 0, none⟩ = some (.slice (some ad3) l.length c) := (blk_cell hH 0).trans rfl
 have ctb1 : w4.cell? ⟨tb, 1, none⟩ = some (.int .i64 p) := (blk_cell hH 1).trans rfl
 clear hH
 have hH := HF_4.out.get rb #[.int .u8 x0, .int .u8 x1] 62 (by simp)
 have hlrb := blk_lt hH
 have crb0 : w4.cell? ⟨rb, 0, none⟩ = some (.int .u8 x0) := (blk_cell hH 0).trans rfl
 have crb1 : w4.cell? ⟨rb, 1, none⟩ = some (.int .u8 x1) := (blk_cell hH 1).trans rfl
 clear hH
 go_wp2_with fail
 (refine start_ (n := 16) (S := fun w' => Below (World.heap _).size _ w') (ds := []) (List.toArray (false :: false :: false :: false :: false :: false :: false :: false :: false :: false :: false :: false :: false :: false :: false :: false :: [])) (by kernel_rfl) rfl rfl (belowDrew _) (fun plS => ?_); refine pureY (i := 0) (N := (some 41)) ?_; refine pureY (i := 3) (N := (some 44)) ?_; refine pureY (i := 7) (N := (some 48)) ?_; refine pureY (i := 10) (N := (some 51)) ?_; refine takeF (i := 1) (N := (some 42)) (hS := plS) (hy := by (intro w' hw'; replace hw' : Below (World.heap w4).size w4 w' := hw'; have q0 := pw_cell_below hw' ctb0; have q1 := pw_cell_below hw' ctb1; have q2 := pw_cell_below hw' crb0; have q3 := pw_cell_below hw' crb1; exact yieldA)) (h := ?_); refine pureY (i := 2) (N := (some 43)) ?_; refine takeF (i := 4) (N := (some 45)) (hS := plS) (hy := by (intro w' hw'; replace hw' : Below (World.heap w4).size w4 w' := hw'; have q0 := pw_cell_below hw' ctb0; have q1 := pw_cell_below hw' ctb1; have q2 := pw_cell_below hw' crb0; have q3 := pw_cell_below hw' crb1; exact yieldA)) (h := ?_); refine pureY (i := 5) (N := (some 46)) ?_; refine pureY (i := 6) (N := (some 47)) ?_; refine pureY (i := 14) (N := (some 12)) ?_; refine takeF (i := 8) (N := (some 49)) (hS := plS) (hy := by (intro w' hw'; replace hw' : Below (World.heap w4).size w4 w' := hw'; have q0 := pw_cell_below hw' ctb0; have q1 := pw_cell_below hw' ctb1; have q2 := pw_cell_below hw' crb0; have q3 := pw_cell_below hw' crb1; exact yieldA)) (h := ?_); refine pureY (i := 9) (N := (some 50)) ?_; refine takeF (i := 11) (N := (some 52)) (hS := plS) (hy := by (intro w' hw'; replace hw' : Below (World.heap w4).size w4 w' := hw'; have q0 := pw_cell_below hw' ctb0; have q1 := pw_cell_below hw' ctb1; have q2 := pw_cell_below hw' crb0; have q3 := pw_cell_below hw' crb1; exact yieldA)) (h := ?_); refine pureY (i := 12) (N := (some 53)) ?_; refine pureY (i := 13) (N := (some 54)) ?_; refine pureY (i := 15) (N := (some 13)) ?_; refine done_ (by kernel_rfl) ?_)
 clear plS X1 X2 X3 X4 M1 M2 hn0 hne hltb ctb0 ctb1 hlrb crb0 crb1
 obtain ⟨w5, hZ⟩ : ∃ Z, w4.drew = Z := ⟨_, rfl⟩
 have hB : Below w4.heap.size w4 w5 := by rw [← hZ]; exact (Below.refl _ _).drew
 rw [hZ]
 have HF_5 := Aside0.mk (HF_4.out.below hB)
 have HB_5 := Aside0.mk (below_then HB_4.out hB)
 have HR_5 := Aside0.mk (Kd.C_below HR_4.out hB)
 have HQ_5 := Aside0.mk (Kd.C_below HQ_4.out hB)
 have Ht_5 := Aside0.mk (Kd.C_below Ht_4.out hB)
 clear hZ hB HF_4 HB_4 HR_4 HQ_4 Ht_4 w4
 obtain rfl := HE.out
 obtain ⟨I1, I2, I3, I4, I5, I6⟩ := HIJ.out
 obtain ⟨J1, J2, J3, J4⟩ := HAB.out
 obtain ⟨L1, L2⟩ := HL.out
 have b1 : decide (i < 0) = false := decide_eq_false (by omega)
 have b2 : decide (i ≥ j) = false := decide_eq_false (by omega)
 have b3 : decide (j ≥ (l.length : Int)) = false := decide_eq_false (by omega)
 have b4 : decide (li ≤ hj) = false := decide_eq_false (by omega)
 have I7 : 0 ≤ j := by omega
 have I8 : i < l.length := by omega
 obtain ⟨_, ea, ria, rib, ric⟩ := at_T70 HR_5.out i (by omega) (by omega)
 cases ea
 rw [I4] at rib
 clear ria ric
 obtain ⟨_, ea, rja, rjb, rjc⟩ := at_T70 HR_5.out j (by omega) (by omega)
 cases ea
 rw [I5] at rjc
 clear rja rjb
 have hH := HF_5.out.get tb #[.slice (some ad3) l.length c, .int .i64 p] 24 (by simp)
 have hltb := blk_lt hH
 have ctb0 : w5.cell? ⟨tb, 0, none⟩ = some (.slice (some ad3) l.length c) := (blk_cell hH 0).trans rfl
 have ctb1 : w5.cell? ⟨tb, 1, none⟩ = some (.int .i64 p) := (blk_cell hH 1).trans rfl
 clear hH
 go_wp2_with fail
 (refine start_ (n := 31) (S := fun w' => Below (World.heap _).size _ w') (ds := []) (List.toArray (false :: false :: false :: false :: false :: false :: false :: false :: false :: false :: false :: false :: false :: false :: false :: false :: false :: false :: false :: false :: false :: false :: false :: false :: false :: false :: false :: false :: false :: false :: false :: [])) (by kernel_rfl) rfl rfl (belowDrew _) (fun plS => ?_); refine pureY (i := 0) (N := (some 57)) ?_; refine pureY (i := 1) (N := (some 58)) ?_; refine pureY (i := 2) (N := (some 59)) ?_; refine pureY (i := 3) (N := (some 60)) ?_; refine pureY (i := 4) (N := (some 61)) ?_; refine pureY (i := 5) (N := (some 62)) ?_; refine pureY (i := 6) (N := (some 63)) ?_; refine pureY (i := 7) (N := (some 64)) ?_; refine pureY (i := 8) (N := (some 65)) ?_; refine pureY (i := 9) (N := (some 66)) ?_; refine takeF (i := 10) (N := (some 67)) (hS := plS) (hy := by (intro w' hw'; replace hw' : Below (World.heap w5).size w5 w' := hw'; have q0 := pw_cell_below hw' rib; have q1 := pw_cell_below hw' rjc; have q2 := pw_cell_below hw' ctb0; have q3 := pw_cell_below hw' ctb1; exact yieldA)) (h := ?_); refine pureY (i := 11) (N := (some 68)) ?_; refine pureY (i := 12) (N := (some 69)) ?_; refine pureY (i := 13) (N := (some 70)) ?_; refine pureY (i := 14) (N := (some 71)) ?_; refine pureY (i := 15) (N := (some 72)) ?_; refine pureY (i := 17) (N := (some 74)) ?_; refine pureY (i := 22) (N := (some 79)) ?_; refine pureY (i := 24) (N := (some 81)) ?_; refine takeF (i := 16) (N := (some 73)) (hS := plS) (hy := by (intro w' hw'; replace hw' : Below (World.heap w5).size w5 w' := hw'; have q0 := pw_cell_below hw' rib; have q1 := pw_cell_below hw' rjc; have q2 := pw_cell_below hw' ctb0; have q3 := pw_cell_below hw' ctb1; exact yieldA)) (h := ?_); refine pureY (i := 18) (N := (some 75)) ?_; refine pureY (i := 19) (N := (some 76)) ?_; refine pureY (i := 20) (N := (some 77)) ?_; refine takeF (i := 21) (N := (some 78)) (hS := plS) (hy := by (intro w' hw'; replace hw' : Below (World.heap w5).size w5 w' := hw'; have q0 := pw_cell_below hw' rib; have q1 := pw_cell_below hw' rjc; have q2 := pw_cell_below hw' ctb0; have q3 := pw_cell_below hw' ctb1; exact yieldA)) (h := ?_); refine takeF (i := 23) (N := (some 80)) (hS := plS) (hy := by (intro w' hw'; replace hw' : Below (World.heap w5).size w5 w' := hw'; have q0 := pw_cell_below hw' rib; have q1 := pw_cell_below hw' rjc; have q2 := pw_cell_below hw' ctb0; have q3 := pw_cell_below hw' ctb1; exact yieldA)) (h := ?_); refine pureY (i := 25) (N := (some 82)) ?_; refine pureY (i := 26) (N := (some 83)) ?_; refine pureY (i := 27) (N := (some 84)) ?_; refine takeF (i := 28) (N := (some 85)) (hS := plS) (hy := by (intro w' hw'; replace hw' : Below (World.heap w5).size w5 w' := hw'; have q0 := pw_cell_below hw' rib; have q1 := pw_cell_below hw' rjc; have q2 := pw_cell_below hw' ctb0; have q3 := pw_cell_below hw' ctb1; exact yieldA)) (h := ?_); refine pureY (i := 29) (N := (some 86)) ?_; refine pureY (i := 30) (N := (some 87)) ?_; refine done_ (by kernel_rfl) ?_)
 clear plS hltb ctb0 ctb1 rib rjc b1 b2 b3 b4
 obtain ⟨w6, hZ⟩ : ∃ Z, w5.drew = Z := ⟨_, rfl⟩
 have hB : Below w5.heap.size w5 w6 := by rw [← hZ]; exact (Below.refl _ _).drew
 rw [hZ]
 have HF_6 := Aside0.mk (HF_5.out.below hB)
 have HB_6 := Aside0.mk (below_then HB_5.out hB)
 have HR_6 := Aside0.mk (Kd.C_below HR_5.out hB)
 have HQ_6 := Aside0.mk (Kd.C_below HQ_5.out hB)
 have Ht_6 := Aside0.mk (Kd.C_below Ht_5.out hB)
 clear hZ hB HF_5 HB_5 HR_5 HQ_5 Ht_5 w5
 go_wp2_with fail
 have hfirst := HFI.out
 obtain ⟨_, ea, raa, rab, rac⟩ := at_T70 HR_6.out a (by omega) (by omega)
 cases ea
 rw [L1] at rab
 clear raa rac
 obtain ⟨_, ea, rb_a, rb_b, rb_c⟩ := at_T70 HR_6.out b (by omega) (by omega)
 cases ea
 rw [L2] at rb_c
 clear rb_a rb_b
 have hH := HF_6.out.get tb #[.slice (some ad3) l.length c, .int .i64 p] 24 (by simp)
 have hltb := blk_lt hH
 have ctb0 : w6.cell? ⟨tb, 0, none⟩ = some (.slice (some ad3) l.length c) := (blk_cell hH 0).trans rfl
 have ctb1 : w6.cell? ⟨tb, 1, none⟩ = some (.int .i64 p) := (blk_cell hH 1).trans rfl
 clear hH
 have hcase : (decide (a < b) = false) ∨ (decide (a < b) = true ∧ decide (a < i) = true ∧ decide (la > hb) = false) ∨ (decide (a < b) = true ∧ decide (a < i) = false ∧ (a == i) = true ∧ decide (b < j) = true ∧ decide (la > hb) = false) ∨ (decide (a < b) = true ∧ decide (a < i) = false ∧ (a == i) = true ∧ decide (b < j) = false) ∨ (decide (a < b) = true ∧ decide (a < i) = false ∧ (a == i) = false) := by
  by_cases t1 : a < b
  ·by_cases t2 : a < i
   ·exact Or.inr (Or.inl ⟨decide_eq_true t1, decide_eq_true t2, decide_eq_false (by have := hfirst t1 (Or.inl t2); omega)⟩)
   by_cases t3 : a = i
   ·by_cases t4 : b < j
    ·exact Or.inr (Or.inr (Or.inl ⟨decide_eq_true t1, decide_eq_false t2, by simpa using t3, decide_eq_true t4, decide_eq_false (by have := hfirst t1 (Or.inr ⟨t3, t4⟩); omega)⟩))
    exact Or.inr (Or.inr (Or.inr (Or.inl ⟨decide_eq_true t1, decide_eq_false t2, by simpa using t3, decide_eq_false t4⟩)))
   exact Or.inr (Or.inr (Or.inr (Or.inr ⟨decide_eq_true t1, decide_eq_false t2, by simpa using t3⟩)))
  exact Or.inl (decide_eq_false t1)
 clear hfirst
 rcases hcase with d1 | ⟨d1, d2, d3⟩ | ⟨d1, d2, d3, d4, d5⟩ | ⟨d1, d2, d3, d4⟩ | ⟨d1, d2, d3⟩
 ·as_aux_lemma =>
  (refine start_ (n := 35) (S := fun w' => Below (World.heap _).size _ w') (ds := []) (List.toArray (false :: false :: false :: false :: false :: false :: false :: false :: false :: false :: false :: false :: false :: false :: false :: false :: false :: false :: false :: false :: false :: false :: false :: false :: false :: false :: false :: false :: false :: false :: false :: false :: false :: false :: false :: [])) (by kernel_rfl) rfl rfl (belowDrew _) (fun plS => ?_); refine pureY (i := 0) (N := (some 88)) ?_; refine pureY (i := 1) (N := (some 89)) ?_; refine pureY (i := 2) (N := (some 90)) ?_; refine pureY (i := 3) (N := (some 91)) ?_; refine pureN (i := 4) (N := (some 92)) ?_; refine pureN (i := 5) (N := (some 93)) ?_; refine pureN (i := 6) (N := (some 94)) ?_; refine pureN (i := 7) (N := (some 95)) ?_; refine pureN (i := 8) (N := (some 96)) ?_; refine pureN (i := 9) (N := (some 97)) ?_; refine pureN (i := 10) (N := (some 98)) ?_; refine pureN (i := 11) (N := (some 99)) ?_; refine pureN (i := 12) (N := (some 100)) ?_; refine pureN (i := 13) (N := (some 101)) ?_; refine pureN (i := 14) (N := (some 102)) ?_; refine pureN (i := 15) (N := (some 103)) ?_; refine pureN (i := 16) (N := (some 104)) ?_; refine pureY (i := 17) (N := (some 105)) ?_; refine pureY (i := 18) (N := (some 106)) ?_; refine pureN (i := 19) (N := (some 107)) ?_; refine pureN (i := 20) (N := (some 108)) ?_; refine pureN (i := 21) (N := (some 109)) ?_; refine pureN (i := 22) (N := (some 110)) ?_; refine pureN (i := 23) (N := (some 111)) ?_; refine pureN (i := 24) (N := (some 112)) ?_; refine pureN (i := 25) (N := (some 113)) ?_; refine pureN (i := 26) (N := (some 114)) ?_; refine pureN (i := 27) (N := (some 115)) ?_; refine pureN (i := 28) (N := (some 116)) ?_; refine pureN (i := 29) (N := (some 117)) ?_; refine pureN (i := 30) (N := (some 118)) ?_; refine pureN (i := 31) (N := (some 119)) ?_; refine pureN (i := 32) (N := (some 120)) ?_; refine pureN (i := 33) (N := (some 121)) ?_; refine pureY (i := 34) (N := (some 122)) ?_; refine done_ (by kernel_rfl) ?_)
  clear plS hltb ctb0 ctb1 rab rb_c d1
  obtain ⟨w7, hZ⟩ : ∃ Z, w6.drew = Z := ⟨_, rfl⟩
  have hB : Below w6.heap.size w6 w7 := by rw [← hZ]; exact (Below.refl _ _).drew
  rw [hZ]
  have HF_7 := Aside0.mk (HF_6.out.below hB)
  have HB_7 := Aside0.mk (below_then HB_6.out hB)
  have HR_7 := Aside0.mk (Kd.C_below HR_6.out hB)
  have HQ_7 := Aside0.mk (Kd.C_below HQ_6.out hB)
  have Ht_7 := Aside0.mk (Kd.C_below Ht_6.out hB)
  clear hZ hB HF_6 HB_6 HR_6 HQ_6 Ht_6 w6
  obtain ⟨g1, g2⟩ := H6.out
  have g3 : (g != 0) = true := by simpa using g2
  have hH := HF_7.out.get tb #[.slice (some ad3) l.length c, .int .i64 p] 24 (by simp)
  have hltb := blk_lt hH
  have ctb0 : w7.cell? ⟨tb, 0, none⟩ = some (.slice (some ad3) l.length c) := (blk_cell hH 0).trans rfl
  have ctb1 : w7.cell? ⟨tb, 1, none⟩ = some (.int .i64 p) := (blk_cell hH 1).trans rfl
  clear hH
  go_wp2_with fail
  clear hltb ctb0 ctb1
  refine (chart_CheckChart.calls k (some ad3) c l p A1 c1 l1 g w7 HR_7.out HC.out HQ_7.out HC1.out g1).mono ?_
  rintro e w8 ⟨rfl, hB⟩
  have HF_8 := Aside0.mk (HF_7.out.below hB)
  have HB_8 := Aside0.mk (below_then HB_7.out hB)
  have HR_8 := Aside0.mk (Kd.C_below HR_7.out hB)
  have HQ_8 := Aside0.mk (Kd.C_below HQ_7.out hB)
  have Ht_8 := Aside0.mk (Kd.C_below Ht_7.out hB)
  clear hB HF_7 HB_7 HR_7 HQ_7 Ht_7 w7
  go_wp2_with fail
  refine (forecourtlaw01_Works.calls true w8 ⟨rfl⟩ rfl).mono ?_
  rintro e wz ⟨rfl, hB⟩
  go_wp2_with fail
  go_ret
  exact ⟨rfl, below_then HB_8.out hB⟩
 ·as_aux_lemma =>
  (refine start_ (n := 35) (S := fun w' => Below (World.heap _).size _ w') (ds := []) (List.toArray (false :: false :: false :: false :: false :: false :: false :: false :: false :: false :: false :: false :: false :: false :: false :: false :: false :: false :: false :: false :: false :: false :: false :: false :: false :: false :: false :: false :: false :: false :: false :: false :: false :: false :: false :: [])) (by kernel_rfl) rfl rfl (belowDrew _) (fun plS => ?_); refine pureY (i := 0) (N := (some 88)) ?_; refine pureY (i := 1) (N := (some 89)) ?_; refine pureY (i := 2) (N := (some 90)) ?_; refine pureY (i := 3) (N := (some 91)) ?_; refine pureY (i := 4) (N := (some 92)) ?_; refine pureY (i := 5) (N := (some 93)) ?_; refine pureY (i := 6) (N := (some 94)) ?_; refine pureY (i := 7) (N := (some 95)) ?_; refine pureN (i := 8) (N := (some 96)) ?_; refine pureN (i := 9) (N := (some 97)) ?_; refine pureN (i := 10) (N := (some 98)) ?_; refine pureN (i := 11) (N := (some 99)) ?_; refine pureN (i := 12) (N := (some 100)) ?_; refine pureN (i := 13) (N := (some 101)) ?_; refine pureN (i := 14) (N := (some 102)) ?_; refine pureN (i := 15) (N := (some 103)) ?_; refine pureY (i := 16) (N := (some 104)) ?_; refine pureY (i := 17) (N := (some 105)) ?_; refine pureY (i := 18) (N := (some 106)) ?_; refine pureY (i := 19) (N := (some 107)) ?_; refine pureY (i := 21) (N := (some 109)) ?_; refine pureY (i := 26) (N := (some 114)) ?_; refine pureY (i := 28) (N := (some 116)) ?_; refine takeF (i := 20) (N := (some 108)) (hS := plS) (hy := by (intro w' hw'; replace hw' : Below (World.heap w6).size w6 w' := hw'; have q0 := pw_cell_below hw' rab; have q1 := pw_cell_below hw' rb_c; have q2 := pw_cell_below hw' ctb0; have q3 := pw_cell_below hw' ctb1; exact yieldA)) (h := ?_); refine pureY (i := 22) (N := (some 110)) ?_; refine pureY (i := 23) (N := (some 111)) ?_; refine pureY (i := 24) (N := (some 112)) ?_; refine takeF (i := 25) (N := (some 113)) (hS := plS) (hy := by (intro w' hw'; replace hw' : Below (World.heap w6).size w6 w' := hw'; have q0 := pw_cell_below hw' rab; have q1 := pw_cell_below hw' rb_c; have q2 := pw_cell_below hw' ctb0; have q3 := pw_cell_below hw' ctb1; exact yieldA)) (h := ?_); refine takeF (i := 27) (N := (some 115)) (hS := plS) (hy := by (intro w' hw'; replace hw' : Below (World.heap w6).size w6 w' := hw'; have q0 := pw_cell_below hw' rab; have q1 := pw_cell_below hw' rb_c; have q2 := pw_cell_below hw' ctb0; have q3 := pw_cell_below hw' ctb1; exact yieldA)) (h := ?_); refine pureY (i := 29) (N := (some 117)) ?_; refine pureY (i := 30) (N := (some 118)) ?_; refine pureY (i := 31) (N := (some 119)) ?_; refine takeF (i := 32) (N := (some 120)) (hS := plS) (hy := by (intro w' hw'; replace hw' : Below (World.heap w6).size w6 w' := hw'; have q0 := pw_cell_below hw' rab; have q1 := pw_cell_below hw' rb_c; have q2 := pw_cell_below hw' ctb0; have q3 := pw_cell_below hw' ctb1; exact yieldA)) (h := ?_); refine pureY (i := 33) (N := (some 121)) ?_; refine pureY (i := 34) (N := (some 122)) ?_; refine done_ (by kernel_rfl) ?_)
  clear plS hltb ctb0 ctb1 rab rb_c d1 d2 d3
  obtain ⟨w7, hZ⟩ : ∃ Z, w6.drew = Z := ⟨_, rfl⟩
  have hB : Below w6.heap.size w6 w7 := by rw [← hZ]; exact (Below.refl _ _).drew
  rw [hZ]
  have HF_7 := Aside0.mk (HF_6.out.below hB)
  have HB_7 := Aside0.mk (below_then HB_6.out hB)
  have HR_7 := Aside0.mk (Kd.C_below HR_6.out hB)
  have HQ_7 := Aside0.mk (Kd.C_below HQ_6.out hB)
  have Ht_7 := Aside0.mk (Kd.C_below Ht_6.out hB)
  clear hZ hB HF_6 HB_6 HR_6 HQ_6 Ht_6 w6
  obtain ⟨g1, g2⟩ := H6.out
  have g3 : (g != 0) = true := by simpa using g2
  have hH := HF_7.out.get tb #[.slice (some ad3) l.length c, .int .i64 p] 24 (by simp)
  have hltb := blk_lt hH
  have ctb0 : w7.cell? ⟨tb, 0, none⟩ = some (.slice (some ad3) l.length c) := (blk_cell hH 0).trans rfl
  have ctb1 : w7.cell? ⟨tb, 1, none⟩ = some (.int .i64 p) := (blk_cell hH 1).trans rfl
  clear hH
  go_wp2_with fail
  clear hltb ctb0 ctb1
  refine (chart_CheckChart.calls k (some ad3) c l p A1 c1 l1 g w7 HR_7.out HC.out HQ_7.out HC1.out g1).mono ?_
  rintro e w8 ⟨rfl, hB⟩
  have HF_8 := Aside0.mk (HF_7.out.below hB)
  have HB_8 := Aside0.mk (below_then HB_7.out hB)
  have HR_8 := Aside0.mk (Kd.C_below HR_7.out hB)
  have HQ_8 := Aside0.mk (Kd.C_below HQ_7.out hB)
  have Ht_8 := Aside0.mk (Kd.C_below Ht_7.out hB)
  clear hB HF_7 HB_7 HR_7 HQ_7 Ht_7 w7
  go_wp2_with fail
  refine (forecourtlaw01_Works.calls true w8 ⟨rfl⟩ rfl).mono ?_
  rintro e wz ⟨rfl, hB⟩
  go_wp2_with fail
  go_ret
  exact ⟨rfl, below_then HB_8.out hB⟩
 ·as_aux_lemma =>
  (refine start_ (n := 35) (S := fun w' => Below (World.heap _).size _ w') (ds := []) (List.toArray (false :: false :: false :: false :: false :: false :: false :: false :: false :: false :: false :: false :: false :: false :: false :: false :: false :: false :: false :: false :: false :: false :: false :: false :: false :: false :: false :: false :: false :: false :: false :: false :: false :: false :: false :: [])) (by kernel_rfl) rfl rfl (belowDrew _) (fun plS => ?_); refine pureY (i := 0) (N := (some 88)) ?_; refine pureY (i := 1) (N := (some 89)) ?_; refine pureY (i := 2) (N := (some 90)) ?_; refine pureY (i := 3) (N := (some 91)) ?_; refine pureY (i := 4) (N := (some 92)) ?_; refine pureY (i := 5) (N := (some 93)) ?_; refine pureY (i := 6) (N := (some 94)) ?_; refine pureY (i := 7) (N := (some 95)) ?_; refine pureY (i := 8) (N := (some 96)) ?_; refine pureY (i := 9) (N := (some 97)) ?_; refine pureY (i := 10) (N := (some 98)) ?_; refine pureY (i := 11) (N := (some 99)) ?_; refine pureY (i := 12) (N := (some 100)) ?_; refine pureY (i := 13) (N := (some 101)) ?_; refine pureY (i := 14) (N := (some 102)) ?_; refine pureY (i := 15) (N := (some 103)) ?_; refine pureY (i := 16) (N := (some 104)) ?_; refine pureY (i := 17) (N := (some 105)) ?_; refine pureY (i := 18) (N := (some 106)) ?_; refine pureY (i := 19) (N := (some 107)) ?_; refine pureY (i := 21) (N := (some 109)) ?_; refine pureY (i := 26) (N := (some 114)) ?_; refine pureY (i := 28) (N := (some 116)) ?_; refine takeF (i := 20) (N := (some 108)) (hS := plS) (hy := by (intro w' hw'; replace hw' : Below (World.heap w6).size w6 w' := hw'; have q0 := pw_cell_below hw' rab; have q1 := pw_cell_below hw' rb_c; have q2 := pw_cell_below hw' ctb0; have q3 := pw_cell_below hw' ctb1; exact yieldA)) (h := ?_); refine pureY (i := 22) (N := (some 110)) ?_; refine pureY (i := 23) (N := (some 111)) ?_; refine pureY (i := 24) (N := (some 112)) ?_; refine takeF (i := 25) (N := (some 113)) (hS := plS) (hy := by (intro w' hw'; replace hw' : Below (World.heap w6).size w6 w' := hw'; have q0 := pw_cell_below hw' rab; have q1 := pw_cell_below hw' rb_c; have q2 := pw_cell_below hw' ctb0; have q3 := pw_cell_below hw' ctb1; exact yieldA)) (h := ?_); refine takeF (i := 27) (N := (some 115)) (hS := plS) (hy := by (intro w' hw'; replace hw' : Below (World.heap w6).size w6 w' := hw'; have q0 := pw_cell_below hw' rab; have q1 := pw_cell_below hw' rb_c; have q2 := pw_cell_below hw' ctb0; have q3 := pw_cell_below hw' ctb1; exact yieldA)) (h := ?_); refine pureY (i := 29) (N := (some 117)) ?_; refine pureY (i := 30) (N := (some 118)) ?_; refine pureY (i := 31) (N := (some 119)) ?_; refine takeF (i := 32) (N := (some 120)) (hS := plS) (hy := by (intro w' hw'; replace hw' : Below (World.heap w6).size w6 w' := hw'; have q0 := pw_cell_below hw' rab; have q1 := pw_cell_below hw' rb_c; have q2 := pw_cell_below hw' ctb0; have q3 := pw_cell_below hw' ctb1; exact yieldA)) (h := ?_); refine pureY (i := 33) (N := (some 121)) ?_; refine pureY (i := 34) (N := (some 122)) ?_; refine done_ (by kernel_rfl) ?_)
  clear plS hltb ctb0 ctb1 rab rb_c d1 d2 d3 d4 d5
  obtain ⟨w7, hZ⟩ : ∃ Z, w6.drew = Z := ⟨_, rfl⟩
  have hB : Below w6.heap.size w6 w7 := by rw [← hZ]; exact (Below.refl _ _).drew
  rw [hZ]
  have HF_7 := Aside0.mk (HF_6.out.below hB)
  have HB_7 := Aside0.mk (below_then HB_6.out hB)
  have HR_7 := Aside0.mk (Kd.C_below HR_6.out hB)
  have HQ_7 := Aside0.mk (Kd.C_below HQ_6.out hB)
  have Ht_7 := Aside0.mk (Kd.C_below Ht_6.out hB)
  clear hZ hB HF_6 HB_6 HR_6 HQ_6 Ht_6 w6
  obtain ⟨g1, g2⟩ := H6.out
  have g3 : (g != 0) = true := by simpa using g2
  have hH := HF_7.out.get tb #[.slice (some ad3) l.length c, .int .i64 p] 24 (by simp)
  have hltb := blk_lt hH
  have ctb0 : w7.cell? ⟨tb, 0, none⟩ = some (.slice (some ad3) l.length c) := (blk_cell hH 0).trans rfl
  have ctb1 : w7.cell? ⟨tb, 1, none⟩ = some (.int .i64 p) := (blk_cell hH 1).trans rfl
  clear hH
  go_wp2_with fail
  clear hltb ctb0 ctb1
  refine (chart_CheckChart.calls k (some ad3) c l p A1 c1 l1 g w7 HR_7.out HC.out HQ_7.out HC1.out g1).mono ?_
  rintro e w8 ⟨rfl, hB⟩
  have HF_8 := Aside0.mk (HF_7.out.below hB)
  have HB_8 := Aside0.mk (below_then HB_7.out hB)
  have HR_8 := Aside0.mk (Kd.C_below HR_7.out hB)
  have HQ_8 := Aside0.mk (Kd.C_below HQ_7.out hB)
  have Ht_8 := Aside0.mk (Kd.C_below Ht_7.out hB)
  clear hB HF_7 HB_7 HR_7 HQ_7 Ht_7 w7
  go_wp2_with fail
  refine (forecourtlaw01_Works.calls true w8 ⟨rfl⟩ rfl).mono ?_
  rintro e wz ⟨rfl, hB⟩
  go_wp2_with fail
  go_ret
  exact ⟨rfl, below_then HB_8.out hB⟩
 ·as_aux_lemma =>
  (refine start_ (n := 35) (S := fun w' => Below (World.heap _).size _ w') (ds := []) (List.toArray (false :: false :: false :: false :: false :: false :: false :: false :: false :: false :: false :: false :: false :: false :: false :: false :: false :: false :: false :: false :: false :: false :: false :: false :: false :: false :: false :: false :: false :: false :: false :: false :: false :: false :: false :: [])) (by kernel_rfl) rfl rfl (belowDrew _) (fun plS => ?_); refine pureY (i := 0) (N := (some 88)) ?_; refine pureY (i := 1) (N := (some 89)) ?_; refine pureY (i := 2) (N := (some 90)) ?_; refine pureY (i := 3) (N := (some 91)) ?_; refine pureY (i := 4) (N := (some 92)) ?_; refine pureY (i := 5) (N := (some 93)) ?_; refine pureY (i := 6) (N := (some 94)) ?_; refine pureY (i := 7) (N := (some 95)) ?_; refine pureY (i := 8) (N := (some 96)) ?_; refine pureY (i := 9) (N := (some 97)) ?_; refine pureY (i := 10) (N := (some 98)) ?_; refine pureY (i := 11) (N := (some 99)) ?_; refine pureY (i := 12) (N := (some 100)) ?_; refine pureY (i := 13) (N := (some 101)) ?_; refine pureY (i := 14) (N := (some 102)) ?_; refine pureY (i := 15) (N := (some 103)) ?_; refine pureY (i := 16) (N := (some 104)) ?_; refine pureY (i := 17) (N := (some 105)) ?_; refine pureY (i := 18) (N := (some 106)) ?_; refine pureN (i := 19) (N := (some 107)) ?_; refine pureN (i := 20) (N := (some 108)) ?_; refine pureN (i := 21) (N := (some 109)) ?_; refine pureN (i := 22) (N := (some 110)) ?_; refine pureN (i := 23) (N := (some 111)) ?_; refine pureN (i := 24) (N := (some 112)) ?_; refine pureN (i := 25) (N := (some 113)) ?_; refine pureN (i := 26) (N := (some 114)) ?_; refine pureN (i := 27) (N := (some 115)) ?_; refine pureN (i := 28) (N := (some 116)) ?_; refine pureN (i := 29) (N := (some 117)) ?_; refine pureN (i := 30) (N := (some 118)) ?_; refine pureN (i := 31) (N := (some 119)) ?_; refine pureN (i := 32) (N := (some 120)) ?_; refine pureN (i := 33) (N := (some 121)) ?_; refine pureY (i := 34) (N := (some 122)) ?_; refine done_ (by kernel_rfl) ?_)
  clear plS hltb ctb0 ctb1 rab rb_c d1 d2 d3 d4
  obtain ⟨w7, hZ⟩ : ∃ Z, w6.drew = Z := ⟨_, rfl⟩
  have hB : Below w6.heap.size w6 w7 := by rw [← hZ]; exact (Below.refl _ _).drew
  rw [hZ]
  have HF_7 := Aside0.mk (HF_6.out.below hB)
  have HB_7 := Aside0.mk (below_then HB_6.out hB)
  have HR_7 := Aside0.mk (Kd.C_below HR_6.out hB)
  have HQ_7 := Aside0.mk (Kd.C_below HQ_6.out hB)
  have Ht_7 := Aside0.mk (Kd.C_below Ht_6.out hB)
  clear hZ hB HF_6 HB_6 HR_6 HQ_6 Ht_6 w6
  obtain ⟨g1, g2⟩ := H6.out
  have g3 : (g != 0) = true := by simpa using g2
  have hH := HF_7.out.get tb #[.slice (some ad3) l.length c, .int .i64 p] 24 (by simp)
  have hltb := blk_lt hH
  have ctb0 : w7.cell? ⟨tb, 0, none⟩ = some (.slice (some ad3) l.length c) := (blk_cell hH 0).trans rfl
  have ctb1 : w7.cell? ⟨tb, 1, none⟩ = some (.int .i64 p) := (blk_cell hH 1).trans rfl
  clear hH
  go_wp2_with fail
  clear hltb ctb0 ctb1
  refine (chart_CheckChart.calls k (some ad3) c l p A1 c1 l1 g w7 HR_7.out HC.out HQ_7.out HC1.out g1).mono ?_
  rintro e w8 ⟨rfl, hB⟩
  have HF_8 := Aside0.mk (HF_7.out.below hB)
  have HB_8 := Aside0.mk (below_then HB_7.out hB)
  have HR_8 := Aside0.mk (Kd.C_below HR_7.out hB)
  have HQ_8 := Aside0.mk (Kd.C_below HQ_7.out hB)
  have Ht_8 := Aside0.mk (Kd.C_below Ht_7.out hB)
  clear hB HF_7 HB_7 HR_7 HQ_7 Ht_7 w7
  go_wp2_with fail
  refine (forecourtlaw01_Works.calls true w8 ⟨rfl⟩ rfl).mono ?_
  rintro e wz ⟨rfl, hB⟩
  go_wp2_with fail
  go_ret
  exact ⟨rfl, below_then HB_8.out hB⟩
 as_aux_lemma =>
 (refine start_ (n := 35) (S := fun w' => Below (World.heap _).size _ w') (ds := []) (List.toArray (false :: false :: false :: false :: false :: false :: false :: false :: false :: false :: false :: false :: false :: false :: false :: false :: false :: false :: false :: false :: false :: false :: false :: false :: false :: false :: false :: false :: false :: false :: false :: false :: false :: false :: false :: [])) (by kernel_rfl) rfl rfl (belowDrew _) (fun plS => ?_); refine pureY (i := 0) (N := (some 88)) ?_; refine pureY (i := 1) (N := (some 89)) ?_; refine pureY (i := 2) (N := (some 90)) ?_; refine pureY (i := 3) (N := (some 91)) ?_; refine pureY (i := 4) (N := (some 92)) ?_; refine pureY (i := 5) (N := (some 93)) ?_; refine pureY (i := 6) (N := (some 94)) ?_; refine pureY (i := 7) (N := (some 95)) ?_; refine pureY (i := 8) (N := (some 96)) ?_; refine pureY (i := 9) (N := (some 97)) ?_; refine pureY (i := 10) (N := (some 98)) ?_; refine pureY (i := 11) (N := (some 99)) ?_; refine pureN (i := 12) (N := (some 100)) ?_; refine pureN (i := 13) (N := (some 101)) ?_; refine pureN (i := 14) (N := (some 102)) ?_; refine pureY (i := 15) (N := (some 103)) ?_; refine pureY (i := 16) (N := (some 104)) ?_; refine pureY (i := 17) (N := (some 105)) ?_; refine pureY (i := 18) (N := (some 106)) ?_; refine pureN (i := 19) (N := (some 107)) ?_; refine pureN (i := 20) (N := (some 108)) ?_; refine pureN (i := 21) (N := (some 109)) ?_; refine pureN (i := 22) (N := (some 110)) ?_; refine pureN (i := 23) (N := (some 111)) ?_; refine pureN (i := 24) (N := (some 112)) ?_; refine pureN (i := 25) (N := (some 113)) ?_; refine pureN (i := 26) (N := (some 114)) ?_; refine pureN (i := 27) (N := (some 115)) ?_; refine pureN (i := 28) (N := (some 116)) ?_; refine pureN (i := 29) (N := (some 117)) ?_; refine pureN (i := 30) (N := (some 118)) ?_; refine pureN (i := 31) (N := (some 119)) ?_; refine pureN (i := 32) (N := (some 120)) ?_; refine pureN (i := 33) (N := (some 121)) ?_; refine pureY (i := 34) (N := (some 122)) ?_; refine done_ (by kernel_rfl) ?_)
 clear plS hltb ctb0 ctb1 rab rb_c d1 d2 d3
 obtain ⟨w7, hZ⟩ : ∃ Z, w6.drew = Z := ⟨_, rfl⟩
 have hB : Below w6.heap.size w6 w7 := by rw [← hZ]; exact (Below.refl _ _).drew
 rw [hZ]
 have HF_7 := Aside0.mk (HF_6.out.below hB)
 have HB_7 := Aside0.mk (below_then HB_6.out hB)
 have HR_7 := Aside0.mk (Kd.C_below HR_6.out hB)
 have HQ_7 := Aside0.mk (Kd.C_below HQ_6.out hB)
 have Ht_7 := Aside0.mk (Kd.C_below Ht_6.out hB)
 clear hZ hB HF_6 HB_6 HR_6 HQ_6 Ht_6 w6
 obtain ⟨g1, g2⟩ := H6.out
 have g3 : (g != 0) = true := by simpa using g2
 have hH := HF_7.out.get tb #[.slice (some ad3) l.length c, .int .i64 p] 24 (by simp)
 have hltb := blk_lt hH
 have ctb0 : w7.cell? ⟨tb, 0, none⟩ = some (.slice (some ad3) l.length c) := (blk_cell hH 0).trans rfl
 have ctb1 : w7.cell? ⟨tb, 1, none⟩ = some (.int .i64 p) := (blk_cell hH 1).trans rfl
 clear hH
 go_wp2_with fail
 clear hltb ctb0 ctb1
 refine (chart_CheckChart.calls k (some ad3) c l p A1 c1 l1 g w7 HR_7.out HC.out HQ_7.out HC1.out g1).mono ?_
 rintro e w8 ⟨rfl, hB⟩
 have HF_8 := Aside0.mk (HF_7.out.below hB)
 have HB_8 := Aside0.mk (below_then HB_7.out hB)
 have HR_8 := Aside0.mk (Kd.C_below HR_7.out hB)
 have HQ_8 := Aside0.mk (Kd.C_below HQ_7.out hB)
 have Ht_8 := Aside0.mk (Kd.C_below Ht_7.out hB)
 clear hB HF_7 HB_7 HR_7 HQ_7 Ht_7 w7
 go_wp2_with fail
 refine (forecourtlaw01_Works.calls true w8 ⟨rfl⟩ rfl).mono ?_
 rintro e wz ⟨rfl, hB⟩
 go_wp2_with fail
 go_ret
 exact ⟨rfl, below_then HB_8.out hB⟩
end Go.Proofs.Ytpkajhmchcbbhaa.P
end
