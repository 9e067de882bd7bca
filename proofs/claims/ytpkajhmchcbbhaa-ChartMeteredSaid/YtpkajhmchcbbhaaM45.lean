/- Part 45 of 46. -/
import Derived.Test.YtpkajhmchcbbhaaM37
import Derived.Test.YtpkajhmchcbbhaaM43
import Derived.Test.YtpkajhmchcbbhaaM22
import Derived.Test.YtpkajhmchcbbhaaM44
import Derived.Test.YtpkajhmchcbbhaaM19
import Derived.Test.YtpkajhmchcbbhaaM16
import Derived.Test.YtpkajhmchcbbhaaM6
set_option linter.unusedSimpArgs false
set_option linter.unusedVariables false
section
namespace Go.Proofs.Ytpkajhmchcbbhaa.P
open Go.RowKit Go.Proofs.YtpkajhmchcbbhaaW.PrintWords Go.Proofs.YtpkajhmchcbbhaaW.PrintLast Go.Proofs.YtpkajhmchcbbhaaW.PrintMore
attribute [local go_sem high] eqA39 eqA43 eqA48
structure MetFacts (l : List SRow) (p : Int) (by_ : List Int) (k : Nat) (c : List Int) : Prop where
 fine : Fine l p
 chart : Chart l c
 true_ : forecourtlaw01_True.f k l p by_ = some c
theorem Chart.get_in {l : List SRow} {p : Int} {c : List Int} (h : Chart l c) (hT : TankOk l p) (i : Nat) (hi : i < l.length) : 0 ≤ c.getD i 0 ∧ c.getD i 0 ≤ 100000 := by
 have hl := h.len
 refine h.mem hT _ ?_
 rw [List.getD_eq_getElem?_getD, List.getElem?_eq_getElem (by omega)]
 exact List.getElem_mem _
set_option maxRecDepth 100000 in
set_option maxHeartbeats 80000000 in
theorem met_calls (A : Option Addr) (c : Nat) (l : List SRow) (p : Int) (A1 : Option Addr) (c1 : Nat) (l1 : List Int) (x0 x1 x2 : Int) (k : Nat) (b : Bool) (q : List Int) (w w0 : World)
  (HR_0 : Aside0 (Kd.C k70 w0 A l.length l)) (HC : Hid (l.length ≤ c)) (HQ_0 : Aside0 (Kd.C (Kd.int .u32) w0 A1 l1.length l1)) (HC1 : Hid (l1.length ≤ c1)) (HB_0 : Aside0 (Below w.heap.size w w0))
  (hx0 : 0 ≤ x0 ∧ x0 ≤ 255) (hx1 : 0 ≤ x1 ∧ x1 ≤ 255) (hx2 : 0 ≤ x2 ∧ x2 ≤ 255)
  (HF : Hid (forecourtlaw01_fine.f k l p = some b)) (HE : Hid (b = true → l1.length ≤ 40 → MetFacts l p l1 k q)) :
  Calls Try.prog 12 #[.agg #[.slice A l.length c, .int .i64 p], .slice A1 l1.length c1, .agg #[.int .u8 x0, .int .u8 x1, .int .u8 x2]] w0 fun e w' => e = .returned (.bool true) ∧ Below w.heap.size w w' := by
 have hu1 := Try.underlying24
 have hu2 := Try.underlying39
 have hu3 := Try.underlying43
 have hu4 := Try.underlying48
 have hu5 := Try.underlying84
 have HF_0 : Aside0 (Held [] w0) := ⟨⟨fun b cs t hm => by simp at hm⟩⟩
 go_enter Try.func12, Try.ntmps12
 go_wp2_with fail
 obtain ⟨w0a, hZ⟩ : ∃ Z, w0.alloc (.cells #[.slice A l.length c, .int .i64 p] 24) = Z := ⟨_, rfl⟩
 obtain ⟨tb, hbk⟩ : ∃ b, b = w0.heap.size := ⟨_, rfl⟩
 have HF_0a : Aside0 (Held [(tb, #[.slice A l.length c, .int .i64 p], 24)] w0a) := ⟨by rw [← hZ, hbk]; exact HF_0.out.new _ _⟩
 have HSZ := Lib.hid (show w0a.heap.size = tb + 1 by rw [← hZ, hbk]; simp)
 have HR_0a : Aside0 (Kd.C k70 w0a A l.length l) := ⟨by rw [← hZ]; exact Kd.C_below HR_0.out ((Below.refl _ _).alloc (Nat.le_refl _) _)⟩
 have HQ_0a : Aside0 (Kd.C (Kd.int .u32) w0a A1 l1.length l1) := ⟨by rw [← hZ]; exact Kd.C_below HQ_0.out ((Below.refl _ _).alloc (Nat.le_refl _) _)⟩
 have HB_0a : Aside0 (Below w.heap.size w w0a) := ⟨by rw [← hZ]; exact HB_0.out.alloc HB_0.out.size _⟩
 rw [hZ, ← hbk]
 clear hZ hbk HF_0 HB_0 HR_0 HQ_0 w0
 obtain ⟨w0aa, hZ⟩ : ∃ Z, w0a.alloc (.cells #[.int .u8 x0, .int .u8 x1, .int .u8 x2] 84) = Z := ⟨_, rfl⟩
 obtain ⟨rb, hbk⟩ : ∃ b, b = tb + 1 := ⟨_, rfl⟩
 have HF_0aa : Aside0 (Held [(rb, #[.int .u8 x0, .int .u8 x1, .int .u8 x2], 84), (tb, #[.slice A l.length c, .int .i64 p], 24)] w0aa) := ⟨by rw [← hZ, hbk, ← HSZ.out]; exact HF_0a.out.new _ _⟩
 have HR_0aa : Aside0 (Kd.C k70 w0aa A l.length l) := ⟨by rw [← hZ]; exact Kd.C_below HR_0a.out ((Below.refl _ _).alloc (Nat.le_refl _) _)⟩
 have HQ_0aa : Aside0 (Kd.C (Kd.int .u32) w0aa A1 l1.length l1) := ⟨by rw [← hZ]; exact Kd.C_below HQ_0a.out ((Below.refl _ _).alloc (Nat.le_refl _) _)⟩
 have HB_0aa : Aside0 (Below w.heap.size w w0aa) := ⟨by rw [← hZ]; exact HB_0a.out.alloc HB_0a.out.size _⟩
 rw [hZ, ← hbk]
 clear hZ hbk HSZ HF_0a HB_0a HR_0a HQ_0a w0a
 refine (forecourtlaw01_fine.calls k A c l p b w0aa HR_0aa.out HC.out HF.out).mono ?_
 rintro e w1 ⟨rfl, hB⟩
 have HF_1 := Aside0.mk (HF_0aa.out.below hB)
 have HB_1 := Aside0.mk (below_then HB_0aa.out hB)
 have HR_1 := Aside0.mk (Kd.C_below HR_0aa.out hB)
 have HQ_1 := Aside0.mk (Kd.C_below HQ_0aa.out hB)
 clear hB HF_0aa HB_0aa HR_0aa HQ_0aa w0aa
 cases b with
 | false =>
  go_wp2_with fail
  refine (forecourtlaw01_Works.calls true w1 ⟨rfl⟩ rfl).mono ?_
  rintro e wz ⟨rfl, hB⟩
  go_wp2_with fail
  go_ret
  exact ⟨rfl, below_then HB_1.out hB⟩
 | true =>
 by_cases h40 : (l1.length : Int) > 40
 ·have hb40 : decide ((l1.length : Int) > 40) = true := decide_eq_true h40
  go_wp2_with fail
  refine (forecourtlaw01_Works.calls true w1 ⟨rfl⟩ rfl).mono ?_
  rintro e wz ⟨rfl, hB⟩
  go_wp2_with fail
  go_ret
  exact ⟨rfl, below_then HB_1.out hB⟩
 have hb40 : decide ((l1.length : Int) > 40) = false := decide_eq_false h40
 have HM := Aside0.mk (HE.out rfl (by omega))
 clear HE
 have hn2 := HM.out.fine.tank.n2
 have h16 := HM.out.fine.tank.n16
 have hltb := blk_lt (HF_1.out.get tb #[.slice A l.length c, .int .i64 p] 24 (by simp))
 have ctb0 : w1.cell? ⟨tb, 0, none⟩ = some (.slice A l.length c) := (blk_cell (HF_1.out.get tb #[.slice A l.length c, .int .i64 p] 24 (by simp)) 0).trans rfl
 have ctb1 : w1.cell? ⟨tb, 1, none⟩ = some (.int .i64 p) := (blk_cell (HF_1.out.get tb #[.slice A l.length c, .int .i64 p] 24 (by simp)) 1).trans rfl
 have hlrb := blk_lt (HF_1.out.get rb #[.int .u8 x0, .int .u8 x1, .int .u8 x2] 84 (by simp))
 have crb0 : w1.cell? ⟨rb, 0, none⟩ = some (.int .u8 x0) := (blk_cell (HF_1.out.get rb #[.int .u8 x0, .int .u8 x1, .int .u8 x2] 84 (by simp)) 0).trans rfl
 have crb1 : w1.cell? ⟨rb, 1, none⟩ = some (.int .u8 x1) := (blk_cell (HF_1.out.get rb #[.int .u8 x0, .int .u8 x1, .int .u8 x2] 84 (by simp)) 1).trans rfl
 have crb2 : w1.cell? ⟨rb, 2, none⟩ = some (.int .u8 x2) := (blk_cell (HF_1.out.get rb #[.int .u8 x0, .int .u8 x1, .int .u8 x2] 84 (by simp)) 2).trans rfl
 have hne : ¬ l = [] := by intro h; rw [h] at hn2; simp at hn2
 obtain ⟨i, hi, ei⟩ := tmod_nat hx0.1 (show 0 < l.length by omega)
 obtain ⟨j, hj, ej⟩ := tmod_nat hx1.1 (show 0 < l.length by omega)
 obtain ⟨m, hm, em⟩ := tmod_nat hx2.1 (show 0 < l.length by omega)
 go_wp2_with fail
 (refine start_ (n := 18) (S := fun w' => Below (World.heap _).size _ w') (ds := []) (List.toArray (false :: false :: false :: false :: false :: false :: false :: false :: false :: false :: false :: false :: false :: false :: false :: false :: false :: false :: [])) (by kernel_rfl) rfl rfl (belowDrew _) (fun plS => ?_); refine pureY (i := 0) (N := (some 33)) ?_; refine pureY (i := 3) (N := (some 36)) ?_; refine pureY (i := 5) (N := (some 38)) ?_; refine pureY (i := 8) (N := (some 41)) ?_; refine pureY (i := 10) (N := (some 43)) ?_; refine pureY (i := 13) (N := (some 46)) ?_; refine takeF (i := 1) (N := (some 34)) (hS := plS) (hy := by (intro w' hw'; replace hw' : Below (World.heap w1).size w1 w' := hw'; have q0 := pw_cell_below hw' ctb0; have q1 := pw_cell_below hw' ctb1; have q2 := pw_cell_below hw' crb0; have q3 := pw_cell_below hw' crb1; have q4 := pw_cell_below hw' crb2; exact yieldA)) (h := ?_); refine pureY (i := 2) (N := (some 35)) ?_; refine pureY (i := 4) (N := (some 37)) ?_; refine pureY (i := 15) (N := (some 8)) ?_; refine takeF (i := 6) (N := (some 39)) (hS := plS) (hy := by (intro w' hw'; replace hw' : Below (World.heap w1).size w1 w' := hw'; have q0 := pw_cell_below hw' ctb0; have q1 := pw_cell_below hw' ctb1; have q2 := pw_cell_below hw' crb0; have q3 := pw_cell_below hw' crb1; have q4 := pw_cell_below hw' crb2; exact yieldA)) (h := ?_); refine pureY (i := 7) (N := (some 40)) ?_; refine pureY (i := 9) (N := (some 42)) ?_; refine pureY (i := 16) (N := (some 9)) ?_; refine takeF (i := 11) (N := (some 44)) (hS := plS) (hy := by (intro w' hw'; replace hw' : Below (World.heap w1).size w1 w' := hw'; have q0 := pw_cell_below hw' ctb0; have q1 := pw_cell_below hw' ctb1; have q2 := pw_cell_below hw' crb0; have q3 := pw_cell_below hw' crb1; have q4 := pw_cell_below hw' crb2; exact yieldA)) (h := ?_); refine pureY (i := 12) (N := (some 45)) ?_; refine pureY (i := 14) (N := (some 47)) ?_; refine pureY (i := 17) (N := (some 10)) ?_; refine done_ (by kernel_rfl) ?_)
 clear plS ei ej em hx0 hx1 hx2 h40 hb40 hne hltb ctb0 ctb1 hlrb crb0 crb1 crb2
 obtain ⟨w2, hZ⟩ : ∃ Z, w1.drew = Z := ⟨_, rfl⟩
 have hB : Below w1.heap.size w1 w2 := by rw [← hZ]; exact (Below.refl _ _).drew
 rw [hZ]
 have HF_2 := Aside0.mk (HF_1.out.below hB)
 have HB_2 := Aside0.mk (below_then HB_1.out hB)
 have HR_2 := Aside0.mk (Kd.C_below HR_1.out hB)
 have HQ_2 := Aside0.mk (Kd.C_below HQ_1.out hB)
 clear hZ hB HF_1 HB_1 HR_1 HQ_1 w1
 by_cases hij : (j : Int) < i
 ·have hb1 : decide ((j : Int) < i) = true := decide_eq_true hij
  go_wp2_with fail
  refine (forecourtlaw01_Works.calls true w2 ⟨rfl⟩ rfl).mono ?_
  rintro e wz ⟨rfl, hB⟩
  go_wp2_with fail
  go_ret
  exact ⟨rfl, below_then HB_2.out hB⟩
 have hb1 : decide ((j : Int) < i) = false := decide_eq_false hij
 by_cases hjm : (m : Int) < j
 ·have hb2 : decide ((m : Int) < j) = true := decide_eq_true hjm
  go_wp2_with fail
  refine (forecourtlaw01_Works.calls true w2 ⟨rfl⟩ rfl).mono ?_
  rintro e wz ⟨rfl, hB⟩
  go_wp2_with fail
  go_ret
  exact ⟨rfl, below_then HB_2.out hB⟩
 have hb2 : decide ((m : Int) < j) = false := decide_eq_false hjm
 have hltb := blk_lt (HF_2.out.get tb #[.slice A l.length c, .int .i64 p] 24 (by simp))
 have ctb0 : w2.cell? ⟨tb, 0, none⟩ = some (.slice A l.length c) := (blk_cell (HF_2.out.get tb #[.slice A l.length c, .int .i64 p] 24 (by simp)) 0).trans rfl
 have ctb1 : w2.cell? ⟨tb, 1, none⟩ = some (.int .i64 p) := (blk_cell (HF_2.out.get tb #[.slice A l.length c, .int .i64 p] 24 (by simp)) 1).trans rfl
 go_wp2_with fail
 clear hltb ctb0 ctb1 hb1 hb2
 refine (forecourtlaw01_True.calls k A c l p A1 c1 l1 q w2 HR_2.out HC.out HQ_2.out HC1.out HM.out.true_).mono ?_
 rintro e w3 ⟨v, rfl, Hn, hB⟩
 obtain ⟨An, cn, rfl, Hnl, Hnr⟩ := Kd.R_reads Hn
 have Hn_L := Lib.hid Hnl
 have Hn_3 := Aside0.mk Hnr
 clear Hn Hnl Hnr
 have HF_3 := Aside0.mk (HF_2.out.below hB)
 have HB_3 := Aside0.mk (below_then HB_2.out hB)
 have HR_3 := Aside0.mk (Kd.C_below HR_2.out hB)
 have HQ_3 := Aside0.mk (Kd.C_below HQ_2.out hB)
 clear hB HF_2 HB_2 HR_2 HQ_2 w2
 have hltb := blk_lt (HF_3.out.get tb #[.slice A l.length c, .int .i64 p] 24 (by simp))
 have ctb0 : w3.cell? ⟨tb, 0, none⟩ = some (.slice A l.length c) := (blk_cell (HF_3.out.get tb #[.slice A l.length c, .int .i64 p] 24 (by simp)) 0).trans rfl
 have ctb1 : w3.cell? ⟨tb, 1, none⟩ = some (.int .i64 p) := (blk_cell (HF_3.out.get tb #[.slice A l.length c, .int .i64 p] 24 (by simp)) 1).trans rfl
 go_wp2_with fail
 clear hltb ctb0 ctb1
 refine (chart_Metered.calls A c l p i j (metLo l i j) (metHi l i j) 0 w3 HR_3.out HC.out (metered_val HM.out.fine i j (by omega) (by omega))).mono ?_
 rintro e w4 ⟨rfl, hB⟩
 have HF_4 := Aside0.mk (HF_3.out.below hB)
 have HB_4 := Aside0.mk (below_then HB_3.out hB)
 have HR_4 := Aside0.mk (Kd.C_below HR_3.out hB)
 have HQ_4 := Aside0.mk (Kd.C_below HQ_3.out hB)
 have Hn_4 := Aside0.mk (Kd.C_below Hn_3.out hB)
 clear hB HF_3 HB_3 HR_3 HQ_3 Hn_3 w3
 have hltb := blk_lt (HF_4.out.get tb #[.slice A l.length c, .int .i64 p] 24 (by simp))
 have ctb0 : w4.cell? ⟨tb, 0, none⟩ = some (.slice A l.length c) := (blk_cell (HF_4.out.get tb #[.slice A l.length c, .int .i64 p] 24 (by simp)) 0).trans rfl
 have ctb1 : w4.cell? ⟨tb, 1, none⟩ = some (.int .i64 p) := (blk_cell (HF_4.out.get tb #[.slice A l.length c, .int .i64 p] 24 (by simp)) 1).trans rfl
 go_wp2_with fail
 clear hltb ctb0 ctb1
 obtain ⟨w4a, hZ⟩ : ∃ Z, w4.alloc (.cells #[.int .i64 (metLo l i j), .int .i64 (metHi l i j)] 43) = Z := ⟨_, rfl⟩
 obtain ⟨ab, hbk⟩ : ∃ b, b = w4.heap.size := ⟨_, rfl⟩
 have HF_4a : Aside0 (Held [(ab, #[.int .i64 (metLo l i j), .int .i64 (metHi l i j)], 43), (rb, #[.int .u8 x0, .int .u8 x1, .int .u8 x2], 84), (tb, #[.slice A l.length c, .int .i64 p], 24)] w4a) := ⟨by rw [← hZ, hbk]; exact HF_4.out.new _ _⟩
 have HR_4a : Aside0 (Kd.C k70 w4a A l.length l) := ⟨by rw [← hZ]; exact Kd.C_below HR_4.out ((Below.refl _ _).alloc (Nat.le_refl _) _)⟩
 have HQ_4a : Aside0 (Kd.C (Kd.int .u32) w4a A1 l1.length l1) := ⟨by rw [← hZ]; exact Kd.C_below HQ_4.out ((Below.refl _ _).alloc (Nat.le_refl _) _)⟩
 have Hn_4a : Aside0 (Kd.C (Kd.int .i64) w4a An q.length q) := ⟨by rw [← hZ]; exact Kd.C_below Hn_4.out ((Below.refl _ _).alloc (Nat.le_refl _) _)⟩
 have HB_4a : Aside0 (Below w.heap.size w w4a) := ⟨by rw [← hZ]; exact HB_4.out.alloc HB_4.out.size _⟩
 rw [hZ, ← hbk]
 clear hZ hbk HF_4 HB_4 HR_4 HQ_4 Hn_4 w4
 refine (chart_Metered.calls A c l p j m (metLo l j m) (metHi l j m) 0 w4a HR_4a.out HC.out (metered_val HM.out.fine j m (by omega) (by omega))).mono ?_
 rintro e w5 ⟨rfl, hB⟩
 have HF_5 := Aside0.mk (HF_4a.out.below hB)
 have HB_5 := Aside0.mk (below_then HB_4a.out hB)
 have HR_5 := Aside0.mk (Kd.C_below HR_4a.out hB)
 have HQ_5 := Aside0.mk (Kd.C_below HQ_4a.out hB)
 have Hn_5 := Aside0.mk (Kd.C_below Hn_4a.out hB)
 clear hB HF_4a HB_4a HR_4a HQ_4a Hn_4a w4a
 have hltb := blk_lt (HF_5.out.get tb #[.slice A l.length c, .int .i64 p] 24 (by simp))
 have ctb0 : w5.cell? ⟨tb, 0, none⟩ = some (.slice A l.length c) := (blk_cell (HF_5.out.get tb #[.slice A l.length c, .int .i64 p] 24 (by simp)) 0).trans rfl
 have ctb1 : w5.cell? ⟨tb, 1, none⟩ = some (.int .i64 p) := (blk_cell (HF_5.out.get tb #[.slice A l.length c, .int .i64 p] 24 (by simp)) 1).trans rfl
 go_wp2_with fail
 clear hltb ctb0 ctb1
 obtain ⟨w5a, hZ⟩ : ∃ Z, w5.alloc (.cells #[.int .i64 (metLo l j m), .int .i64 (metHi l j m)] 43) = Z := ⟨_, rfl⟩
 obtain ⟨bb, hbk⟩ : ∃ b, b = w5.heap.size := ⟨_, rfl⟩
 have HF_5a : Aside0 (Held [(bb, #[.int .i64 (metLo l j m), .int .i64 (metHi l j m)], 43), (ab, #[.int .i64 (metLo l i j), .int .i64 (metHi l i j)], 43), (rb, #[.int .u8 x0, .int .u8 x1, .int .u8 x2], 84), (tb, #[.slice A l.length c, .int .i64 p], 24)] w5a) := ⟨by rw [← hZ, hbk]; exact HF_5.out.new _ _⟩
 have HR_5a : Aside0 (Kd.C k70 w5a A l.length l) := ⟨by rw [← hZ]; exact Kd.C_below HR_5.out ((Below.refl _ _).alloc (Nat.le_refl _) _)⟩
 have HQ_5a : Aside0 (Kd.C (Kd.int .u32) w5a A1 l1.length l1) := ⟨by rw [← hZ]; exact Kd.C_below HQ_5.out ((Below.refl _ _).alloc (Nat.le_refl _) _)⟩
 have Hn_5a : Aside0 (Kd.C (Kd.int .i64) w5a An q.length q) := ⟨by rw [← hZ]; exact Kd.C_below Hn_5.out ((Below.refl _ _).alloc (Nat.le_refl _) _)⟩
 have HB_5a : Aside0 (Below w.heap.size w w5a) := ⟨by rw [← hZ]; exact HB_5.out.alloc HB_5.out.size _⟩
 rw [hZ, ← hbk]
 clear hZ hbk HF_5 HB_5 HR_5 HQ_5 Hn_5 w5
 refine (chart_Metered.calls A c l p i m (metLo l i m) (metHi l i m) 0 w5a HR_5a.out HC.out (metered_val HM.out.fine i m (by omega) (by omega))).mono ?_
 rintro e w6 ⟨rfl, hB⟩
 have HF_6 := Aside0.mk (HF_5a.out.below hB)
 have HB_6 := Aside0.mk (below_then HB_5a.out hB)
 have HR_6 := Aside0.mk (Kd.C_below HR_5a.out hB)
 have HQ_6 := Aside0.mk (Kd.C_below HQ_5a.out hB)
 have Hn_6 := Aside0.mk (Kd.C_below Hn_5a.out hB)
 clear hB HF_5a HB_5a HR_5a HQ_5a Hn_5a w5a
 have hltb := blk_lt (HF_6.out.get tb #[.slice A l.length c, .int .i64 p] 24 (by simp))
 have ctb0 : w6.cell? ⟨tb, 0, none⟩ = some (.slice A l.length c) := (blk_cell (HF_6.out.get tb #[.slice A l.length c, .int .i64 p] 24 (by simp)) 0).trans rfl
 have ctb1 : w6.cell? ⟨tb, 1, none⟩ = some (.int .i64 p) := (blk_cell (HF_6.out.get tb #[.slice A l.length c, .int .i64 p] 24 (by simp)) 1).trans rfl
 go_wp2_with fail
 clear hltb ctb0 ctb1
 obtain ⟨w6a, hZ⟩ : ∃ Z, w6.alloc (.cells #[.int .i64 (metLo l i m), .int .i64 (metHi l i m)] 43) = Z := ⟨_, rfl⟩
 obtain ⟨mb, hbk⟩ : ∃ b, b = w6.heap.size := ⟨_, rfl⟩
 have HF_6a : Aside0 (Held [(mb, #[.int .i64 (metLo l i m), .int .i64 (metHi l i m)], 43), (bb, #[.int .i64 (metLo l j m), .int .i64 (metHi l j m)], 43), (ab, #[.int .i64 (metLo l i j), .int .i64 (metHi l i j)], 43), (rb, #[.int .u8 x0, .int .u8 x1, .int .u8 x2], 84), (tb, #[.slice A l.length c, .int .i64 p], 24)] w6a) := ⟨by rw [← hZ, hbk]; exact HF_6.out.new _ _⟩
 have HR_6a : Aside0 (Kd.C k70 w6a A l.length l) := ⟨by rw [← hZ]; exact Kd.C_below HR_6.out ((Below.refl _ _).alloc (Nat.le_refl _) _)⟩
 have HQ_6a : Aside0 (Kd.C (Kd.int .u32) w6a A1 l1.length l1) := ⟨by rw [← hZ]; exact Kd.C_below HQ_6.out ((Below.refl _ _).alloc (Nat.le_refl _) _)⟩
 have Hn_6a : Aside0 (Kd.C (Kd.int .i64) w6a An q.length q) := ⟨by rw [← hZ]; exact Kd.C_below Hn_6.out ((Below.refl _ _).alloc (Nat.le_refl _) _)⟩
 have HB_6a : Aside0 (Below w.heap.size w w6a) := ⟨by rw [← hZ]; exact HB_6.out.alloc HB_6.out.size _⟩
 rw [hZ, ← hbk]
 clear hZ hbk HF_6 HB_6 HR_6 HQ_6 Hn_6 w6
 have hltb := blk_lt (HF_6a.out.get tb #[.slice A l.length c, .int .i64 p] 24 (by simp))
 have ctb0 : w6a.cell? ⟨tb, 0, none⟩ = some (.slice A l.length c) := (blk_cell (HF_6a.out.get tb #[.slice A l.length c, .int .i64 p] 24 (by simp)) 0).trans rfl
 have ctb1 : w6a.cell? ⟨tb, 1, none⟩ = some (.int .i64 p) := (blk_cell (HF_6a.out.get tb #[.slice A l.length c, .int .i64 p] 24 (by simp)) 1).trans rfl
 have hlab := blk_lt (HF_6a.out.get ab #[.int .i64 (metLo l i j), .int .i64 (metHi l i j)] 43 (by simp))
 have cab0 : w6a.cell? ⟨ab, 0, none⟩ = some (.int .i64 (metLo l i j)) := (blk_cell (HF_6a.out.get ab #[.int .i64 (metLo l i j), .int .i64 (metHi l i j)] 43 (by simp)) 0).trans rfl
 have cab1 : w6a.cell? ⟨ab, 1, none⟩ = some (.int .i64 (metHi l i j)) := (blk_cell (HF_6a.out.get ab #[.int .i64 (metLo l i j), .int .i64 (metHi l i j)] 43 (by simp)) 1).trans rfl
 have hlbb := blk_lt (HF_6a.out.get bb #[.int .i64 (metLo l j m), .int .i64 (metHi l j m)] 43 (by simp))
 have cbb0 : w6a.cell? ⟨bb, 0, none⟩ = some (.int .i64 (metLo l j m)) := (blk_cell (HF_6a.out.get bb #[.int .i64 (metLo l j m), .int .i64 (metHi l j m)] 43 (by simp)) 0).trans rfl
 have cbb1 : w6a.cell? ⟨bb, 1, none⟩ = some (.int .i64 (metHi l j m)) := (blk_cell (HF_6a.out.get bb #[.int .i64 (metLo l j m), .int .i64 (metHi l j m)] 43 (by simp)) 1).trans rfl
 have hlmb := blk_lt (HF_6a.out.get mb #[.int .i64 (metLo l i m), .int .i64 (metHi l i m)] 43 (by simp))
 have cmb0 : w6a.cell? ⟨mb, 0, none⟩ = some (.int .i64 (metLo l i m)) := (blk_cell (HF_6a.out.get mb #[.int .i64 (metLo l i m), .int .i64 (metHi l i m)] 43 (by simp)) 0).trans rfl
 have cmb1 : w6a.cell? ⟨mb, 1, none⟩ = some (.int .i64 (metHi l i m)) := (blk_cell (HF_6a.out.get mb #[.int .i64 (metLo l i m), .int .i64 (metHi l i m)] 43 (by simp)) 1).trans rfl
 have hql := HM.out.chart.len
 obtain ⟨ad, ea, hxm⟩ := Kd.at_int Hn_6a.out (m : Int) (by omega) (by omega)
 cases ea
 obtain ⟨ad2, ea, hxi⟩ := Kd.at_int Hn_6a.out (i : Int) (by omega) (by omega)
 obtain rfl : ad = ad2 := by injection ea
 clear ea
 rw [rd_nat, Int.toNat_natCast] at hxm hxi
 have g1 := met_chart HM.out.fine i m (by omega) hm HM.out.chart
 have g2 := met_add HM.out.fine i j m (by omega) (by omega) hm
 have g3 := met_in HM.out.fine i j (by omega) hj
 have g4 := met_in HM.out.fine j m (by omega) hm
 have g5 := met_in HM.out.fine i m (by omega) hm
 have gm := HM.out.chart.get_in HM.out.fine.tank m hm
 have gi := HM.out.chart.get_in HM.out.fine.tank i hi
 have HX1 := Aside0.mk hxm
 have HX2 := Aside0.mk hxi
 obtain ⟨cm, ecm⟩ : ∃ z, z = q.getD m 0 := ⟨_, rfl⟩
 obtain ⟨ci, eci⟩ : ∃ z, z = q.getD i 0 := ⟨_, rfl⟩
 rw [← ecm] at hxm g1 gm
 rw [← eci] at hxi g1 gi
 have b1 : decide (cm - ci < metLo l i m) = false := decide_eq_false (by omega)
 have b2 : decide (metHi l i m < cm - ci) = false := decide_eq_false (by omega)
 have b3 : decide (metLo l i m < metLo l i j + metLo l j m) = false := decide_eq_false (by omega)
 have b4 : decide (metHi l i j + metHi l j m < metHi l i m) = false := decide_eq_false (by omega)
 have hw1 : IntKind.i64.wrap (cm - ci) = cm - ci := by rw [i64_w]; exact wrap_id (by omega)
 have hw2 : IntKind.i64.wrap (metLo l i j + metLo l j m) = metLo l i j + metLo l j m := by rw [i64_w]; exact wrap_id (by omega)
 have hw3 : IntKind.i64.wrap (metHi l i j + metHi l j m) = metHi l i j + metHi l j m := by rw [i64_w]; exact wrap_id (by omega)
 have p1 : (0 : Int) ≤ (m : Int) := by omega
 have p2 : (m : Int) < q.length := by omega
 have p3 : (0 : Int) ≤ (i : Int) := by omega
 have p4 : (i : Int) < q.length := by omega
 have hw4 : wrap64 (cm - ci) = cm - ci := wrap_id (by omega)
 have hw5 : wrap64 (metLo l i j + metLo l j m) = metLo l i j + metLo l j m := wrap_id (by omega)
 have hw6 : wrap64 (metHi l i j + metHi l j m) = metHi l i j + metHi l j m := wrap_id (by omega)
 clear ecm eci hql HX1 HX2 hw1 hw2 hw3 g1 g2 g3 g4 g5 gm gi
 go_wp2_with fail
 (refine start_ (n := 58) (S := fun w' => Below (World.heap _).size _ w') (ds := []) (List.toArray (false :: false :: false :: false :: false :: false :: false :: false :: false :: false :: false :: false :: false :: false :: false :: false :: false :: false :: false :: false :: false :: false :: false :: false :: false :: false :: false :: false :: false :: false :: false :: false :: false :: false :: false :: false :: false :: false :: false :: false :: false :: false :: false :: false :: false :: false :: false :: false :: false :: false :: false :: false :: false :: false :: false :: false :: false :: false :: [])) (by kernel_rfl) rfl rfl (belowDrew _) (fun plS => ?_); refine pureY (i := 0) (N := (some 81)) ?_; refine pureY (i := 1) (N := (some 82)) ?_; refine pureY (i := 2) (N := (some 83)) ?_; refine pureY (i := 3) (N := (some 84)) ?_; refine pureY (i := 4) (N := (some 85)) ?_; refine pureY (i := 5) (N := (some 86)) ?_; refine pureY (i := 6) (N := (some 87)) ?_; refine pureY (i := 7) (N := (some 88)) ?_; refine pureY (i := 8) (N := (some 89)) ?_; refine pureY (i := 9) (N := (some 90)) ?_; refine pureY (i := 10) (N := (some 91)) ?_; refine pureY (i := 11) (N := (some 92)) ?_; refine pureY (i := 12) (N := (some 93)) ?_; refine pureY (i := 13) (N := (some 94)) ?_; refine pureY (i := 15) (N := (some 96)) ?_; refine pureY (i := 16) (N := (some 97)) ?_; refine pureY (i := 17) (N := (some 98)) ?_; refine pureY (i := 20) (N := (some 101)) ?_; refine takeF (i := 14) (N := (some 95)) (hS := plS) (hy := by (intro w' hw'; replace hw' : Below (World.heap w6a).size w6a w' := hw'; have q0 := pw_cell_below hw' ctb0; have q1 := pw_cell_below hw' ctb1; have q2 := pw_cell_below hw' cab0; have q3 := pw_cell_below hw' cab1; have q4 := pw_cell_below hw' cbb0; have q5 := pw_cell_below hw' cbb1; have q6 := pw_cell_below hw' cmb0; have q7 := pw_cell_below hw' cmb1; have q8 := pw_cell_below hw' hxm; have q9 := pw_cell_below hw' hxi; exact yieldA)) (h := ?_); refine takeF (i := 18) (N := (some 99)) (hS := plS) (hy := by (intro w' hw'; replace hw' : Below (World.heap w6a).size w6a w' := hw'; have q0 := pw_cell_below hw' ctb0; have q1 := pw_cell_below hw' ctb1; have q2 := pw_cell_below hw' cab0; have q3 := pw_cell_below hw' cab1; have q4 := pw_cell_below hw' cbb0; have q5 := pw_cell_below hw' cbb1; have q6 := pw_cell_below hw' cmb0; have q7 := pw_cell_below hw' cmb1; have q8 := pw_cell_below hw' hxm; have q9 := pw_cell_below hw' hxi; exact yieldA)) (h := ?_); refine pureY (i := 19) (N := (some 100)) ?_; refine takeF (i := 21) (N := (some 102)) (hS := plS) (hy := by (intro w' hw'; replace hw' : Below (World.heap w6a).size w6a w' := hw'; have q0 := pw_cell_below hw' ctb0; have q1 := pw_cell_below hw' ctb1; have q2 := pw_cell_below hw' cab0; have q3 := pw_cell_below hw' cab1; have q4 := pw_cell_below hw' cbb0; have q5 := pw_cell_below hw' cbb1; have q6 := pw_cell_below hw' cmb0; have q7 := pw_cell_below hw' cmb1; have q8 := pw_cell_below hw' hxm; have q9 := pw_cell_below hw' hxi; exact yieldA)) (h := ?_); refine pureY (i := 22) (N := (some 103)) ?_; refine pureY (i := 23) (N := (some 104)) ?_; refine pureY (i := 24) (N := (some 105)) ?_; refine pureY (i := 25) (N := (some 106)) ?_; refine pureY (i := 26) (N := (some 107)) ?_; refine pureY (i := 27) (N := (some 108)) ?_; refine pureY (i := 29) (N := (some 110)) ?_; refine pureY (i := 30) (N := (some 111)) ?_; refine pureY (i := 31) (N := (some 112)) ?_; refine pureY (i := 34) (N := (some 115)) ?_; refine takeF (i := 28) (N := (some 109)) (hS := plS) (hy := by (intro w' hw'; replace hw' : Below (World.heap w6a).size w6a w' := hw'; have q0 := pw_cell_below hw' ctb0; have q1 := pw_cell_below hw' ctb1; have q2 := pw_cell_below hw' cab0; have q3 := pw_cell_below hw' cab1; have q4 := pw_cell_below hw' cbb0; have q5 := pw_cell_below hw' cbb1; have q6 := pw_cell_below hw' cmb0; have q7 := pw_cell_below hw' cmb1; have q8 := pw_cell_below hw' hxm; have q9 := pw_cell_below hw' hxi; exact yieldA)) (h := ?_); refine takeF (i := 32) (N := (some 113)) (hS := plS) (hy := by (intro w' hw'; replace hw' : Below (World.heap w6a).size w6a w' := hw'; have q0 := pw_cell_below hw' ctb0; have q1 := pw_cell_below hw' ctb1; have q2 := pw_cell_below hw' cab0; have q3 := pw_cell_below hw' cab1; have q4 := pw_cell_below hw' cbb0; have q5 := pw_cell_below hw' cbb1; have q6 := pw_cell_below hw' cmb0; have q7 := pw_cell_below hw' cmb1; have q8 := pw_cell_below hw' hxm; have q9 := pw_cell_below hw' hxi; exact yieldA)) (h := ?_); refine pureY (i := 33) (N := (some 114)) ?_; refine takeF (i := 35) (N := (some 116)) (hS := plS) (hy := by (intro w' hw'; replace hw' : Below (World.heap w6a).size w6a w' := hw'; have q0 := pw_cell_below hw' ctb0; have q1 := pw_cell_below hw' ctb1; have q2 := pw_cell_below hw' cab0; have q3 := pw_cell_below hw' cab1; have q4 := pw_cell_below hw' cbb0; have q5 := pw_cell_below hw' cbb1; have q6 := pw_cell_below hw' cmb0; have q7 := pw_cell_below hw' cmb1; have q8 := pw_cell_below hw' hxm; have q9 := pw_cell_below hw' hxi; exact yieldA)) (h := ?_); refine pureY (i := 36) (N := (some 117)) ?_; refine pureY (i := 37) (N := (some 118)) ?_; refine pureY (i := 38) (N := (some 119)) ?_; refine pureY (i := 39) (N := (some 120)) ?_; refine pureY (i := 41) (N := (some 122)) ?_; refine pureY (i := 44) (N := (some 125)) ?_; refine takeF (i := 40) (N := (some 121)) (hS := plS) (hy := by (intro w' hw'; replace hw' : Below (World.heap w6a).size w6a w' := hw'; have q0 := pw_cell_below hw' ctb0; have q1 := pw_cell_below hw' ctb1; have q2 := pw_cell_below hw' cab0; have q3 := pw_cell_below hw' cab1; have q4 := pw_cell_below hw' cbb0; have q5 := pw_cell_below hw' cbb1; have q6 := pw_cell_below hw' cmb0; have q7 := pw_cell_below hw' cmb1; have q8 := pw_cell_below hw' hxm; have q9 := pw_cell_below hw' hxi; exact yieldA)) (h := ?_); refine takeF (i := 42) (N := (some 123)) (hS := plS) (hy := by (intro w' hw'; replace hw' : Below (World.heap w6a).size w6a w' := hw'; have q0 := pw_cell_below hw' ctb0; have q1 := pw_cell_below hw' ctb1; have q2 := pw_cell_below hw' cab0; have q3 := pw_cell_below hw' cab1; have q4 := pw_cell_below hw' cbb0; have q5 := pw_cell_below hw' cbb1; have q6 := pw_cell_below hw' cmb0; have q7 := pw_cell_below hw' cmb1; have q8 := pw_cell_below hw' hxm; have q9 := pw_cell_below hw' hxi; exact yieldA)) (h := ?_); refine pureY (i := 43) (N := (some 124)) ?_; refine takeF (i := 45) (N := (some 126)) (hS := plS) (hy := by (intro w' hw'; replace hw' : Below (World.heap w6a).size w6a w' := hw'; have q0 := pw_cell_below hw' ctb0; have q1 := pw_cell_below hw' ctb1; have q2 := pw_cell_below hw' cab0; have q3 := pw_cell_below hw' cab1; have q4 := pw_cell_below hw' cbb0; have q5 := pw_cell_below hw' cbb1; have q6 := pw_cell_below hw' cmb0; have q7 := pw_cell_below hw' cmb1; have q8 := pw_cell_below hw' hxm; have q9 := pw_cell_below hw' hxi; exact yieldA)) (h := ?_); refine pureY (i := 46) (N := (some 127)) ?_; refine pureY (i := 47) (N := (some 128)) ?_; refine pureY (i := 48) (N := (some 129)) ?_; refine pureY (i := 49) (N := (some 130)) ?_; refine pureY (i := 51) (N := (some 132)) ?_; refine pureY (i := 54) (N := (some 135)) ?_; refine takeF (i := 50) (N := (some 131)) (hS := plS) (hy := by (intro w' hw'; replace hw' : Below (World.heap w6a).size w6a w' := hw'; have q0 := pw_cell_below hw' ctb0; have q1 := pw_cell_below hw' ctb1; have q2 := pw_cell_below hw' cab0; have q3 := pw_cell_below hw' cab1; have q4 := pw_cell_below hw' cbb0; have q5 := pw_cell_below hw' cbb1; have q6 := pw_cell_below hw' cmb0; have q7 := pw_cell_below hw' cmb1; have q8 := pw_cell_below hw' hxm; have q9 := pw_cell_below hw' hxi; exact yieldA)) (h := ?_); refine takeF (i := 52) (N := (some 133)) (hS := plS) (hy := by (intro w' hw'; replace hw' : Below (World.heap w6a).size w6a w' := hw'; have q0 := pw_cell_below hw' ctb0; have q1 := pw_cell_below hw' ctb1; have q2 := pw_cell_below hw' cab0; have q3 := pw_cell_below hw' cab1; have q4 := pw_cell_below hw' cbb0; have q5 := pw_cell_below hw' cbb1; have q6 := pw_cell_below hw' cmb0; have q7 := pw_cell_below hw' cmb1; have q8 := pw_cell_below hw' hxm; have q9 := pw_cell_below hw' hxi; exact yieldA)) (h := ?_); refine pureY (i := 53) (N := (some 134)) ?_; refine takeF (i := 55) (N := (some 136)) (hS := plS) (hy := by (intro w' hw'; replace hw' : Below (World.heap w6a).size w6a w' := hw'; have q0 := pw_cell_below hw' ctb0; have q1 := pw_cell_below hw' ctb1; have q2 := pw_cell_below hw' cab0; have q3 := pw_cell_below hw' cab1; have q4 := pw_cell_below hw' cbb0; have q5 := pw_cell_below hw' cbb1; have q6 := pw_cell_below hw' cmb0; have q7 := pw_cell_below hw' cmb1; have q8 := pw_cell_below hw' hxm; have q9 := pw_cell_below hw' hxi; exact yieldA)) (h := ?_); refine pureY (i := 56) (N := (some 137)) ?_; refine pureY (i := 57) (N := (some 138)) ?_; refine done_ (by kernel_rfl) ?_)
 clear plS hw4 hw5 hw6 b1 b2 b3 b4 p1 p2 p3 p4 hxm hxi hltb ctb0 ctb1 hlab cab0 cab1 hlbb cbb0 cbb1 hlmb cmb0 cmb1
 obtain ⟨w7, hZ⟩ : ∃ Z, w6a.drew = Z := ⟨_, rfl⟩
 have hB : Below w6a.heap.size w6a w7 := by rw [← hZ]; exact (Below.refl _ _).drew
 rw [hZ]
 have HF_7 := Aside0.mk (HF_6a.out.below hB)
 have HB_7 := Aside0.mk (below_then HB_6a.out hB)
 have HR_7 := Aside0.mk (Kd.C_below HR_6a.out hB)
 have HQ_7 := Aside0.mk (Kd.C_below HQ_6a.out hB)
 have Hn_7 := Aside0.mk (Kd.C_below Hn_6a.out hB)
 clear hZ hB HF_6a HB_6a HR_6a HQ_6a Hn_6a w6a
 have hltb := blk_lt (HF_7.out.get tb #[.slice A l.length c, .int .i64 p] 24 (by simp))
 have ctb0 : w7.cell? ⟨tb, 0, none⟩ = some (.slice A l.length c) := (blk_cell (HF_7.out.get tb #[.slice A l.length c, .int .i64 p] 24 (by simp)) 0).trans rfl
 have ctb1 : w7.cell? ⟨tb, 1, none⟩ = some (.int .i64 p) := (blk_cell (HF_7.out.get tb #[.slice A l.length c, .int .i64 p] 24 (by simp)) 1).trans rfl
 have hlmb := blk_lt (HF_7.out.get mb #[.int .i64 (metLo l i m), .int .i64 (metHi l i m)] 43 (by simp))
 have cmb0 : w7.cell? ⟨mb, 0, none⟩ = some (.int .i64 (metLo l i m)) := (blk_cell (HF_7.out.get mb #[.int .i64 (metLo l i m), .int .i64 (metHi l i m)] 43 (by simp)) 0).trans rfl
 have cmb1 : w7.cell? ⟨mb, 1, none⟩ = some (.int .i64 (metHi l i m)) := (blk_cell (HF_7.out.get mb #[.int .i64 (metLo l i m), .int .i64 (metHi l i m)] 43 (by simp)) 1).trans rfl
 go_wp2_with fail
 clear hltb ctb0 ctb1 hlmb cmb0 cmb1
 obtain ⟨w7a, hZ⟩ : ∃ Z, w7.alloc (.cells #[.slice A l.length c, .int .i64 0] 24) = Z := ⟨_, rfl⟩
 obtain ⟨xb, hbk⟩ : ∃ b, b = w7.heap.size := ⟨_, rfl⟩
 have HF_7a : Aside0 (Held [(xb, #[.slice A l.length c, .int .i64 0], 24), (mb, #[.int .i64 (metLo l i m), .int .i64 (metHi l i m)], 43), (bb, #[.int .i64 (metLo l j m), .int .i64 (metHi l j m)], 43), (ab, #[.int .i64 (metLo l i j), .int .i64 (metHi l i j)], 43), (rb, #[.int .u8 x0, .int .u8 x1, .int .u8 x2], 84), (tb, #[.slice A l.length c, .int .i64 p], 24)] w7a) := ⟨by rw [← hZ, hbk]; exact HF_7.out.new _ _⟩
 have HR_7a : Aside0 (Kd.C k70 w7a A l.length l) := ⟨by rw [← hZ]; exact Kd.C_below HR_7.out ((Below.refl _ _).alloc (Nat.le_refl _) _)⟩
 have HQ_7a : Aside0 (Kd.C (Kd.int .u32) w7a A1 l1.length l1) := ⟨by rw [← hZ]; exact Kd.C_below HQ_7.out ((Below.refl _ _).alloc (Nat.le_refl _) _)⟩
 have Hn_7a : Aside0 (Kd.C (Kd.int .i64) w7a (some ad) q.length q) := ⟨by rw [← hZ]; exact Kd.C_below Hn_7.out ((Below.refl _ _).alloc (Nat.le_refl _) _)⟩
 have HB_7a : Aside0 (Below w.heap.size w w7a) := ⟨by rw [← hZ]; exact HB_7.out.alloc HB_7.out.size _⟩
 rw [hZ, ← hbk]
 clear hZ hbk HF_7 HB_7 HR_7 HQ_7 Hn_7 w7
 have hltb := blk_lt (HF_7a.out.get tb #[.slice A l.length c, .int .i64 p] 24 (by simp))
 have ctb0 : w7a.cell? ⟨tb, 0, none⟩ = some (.slice A l.length c) := (blk_cell (HF_7a.out.get tb #[.slice A l.length c, .int .i64 p] 24 (by simp)) 0).trans rfl
 have ctb1 : w7a.cell? ⟨tb, 1, none⟩ = some (.int .i64 p) := (blk_cell (HF_7a.out.get tb #[.slice A l.length c, .int .i64 p] 24 (by simp)) 1).trans rfl
 have hlxb := blk_lt (HF_7a.out.get xb #[.slice A l.length c, .int .i64 0] 24 (by simp))
 have cxb0 : w7a.cell? ⟨xb, 0, none⟩ = some (.slice A l.length c) := (blk_cell (HF_7a.out.get xb #[.slice A l.length c, .int .i64 0] 24 (by simp)) 0).trans rfl
 have cxb1 : w7a.cell? ⟨xb, 1, none⟩ = some (.int .i64 0) := (blk_cell (HF_7a.out.get xb #[.slice A l.length c, .int .i64 0] 24 (by simp)) 1).trans rfl
 obtain ⟨ad3, ea, r0, r1, r2⟩ := at_T70 HR_7a.out (i : Int) (by omega) (by omega)
 cases ea
 obtain ⟨ad4, ea, s0, s1, s2⟩ := at_T70 HR_7a.out (m : Int) (by omega) (by omega)
 obtain rfl : ad3 = ad4 := by injection ea
 rw [rdR_nat, Int.toNat_natCast] at r0 s0
 replace r0 : w7a.cell? (ad3.add (i * 3)) = some (.int .i64 (dipN l i)) := r0
 replace s0 : w7a.cell? (ad3.add (m * 3)) = some (.int .i64 (dipN l m)) := s0
 have p1 : (0 : Int) ≤ (m : Int) := by omega
 have p2 : (m : Int) < l.length := by omega
 have p3 : (0 : Int) ≤ (i : Int) := by omega
 have p4 : (i : Int) < l.length := by omega
 clear ea r1 r2 s1 s2
 (refine start_ (n := 20) (S := fun w' => Below (World.heap _).size _ w') (ds := [18]) (List.toArray (false :: false :: false :: false :: false :: false :: false :: false :: false :: false :: false :: false :: false :: false :: false :: false :: false :: false :: false :: false :: [])) (by kernel_rfl) rfl rfl (belowDrew _) (fun plS => ?_); refine pureY (i := 1) (N := (some 143)) ?_; refine pureY (i := 3) (N := (some 145)) ?_; refine pureY (i := 7) (N := (some 149)) ?_; refine pureY (i := 9) (N := (some 151)) ?_; refine takeF (i := 0) (N := (some 142)) (hS := plS) (hy := by (intro w' hw'; replace hw' : Below (World.heap w7a).size w7a w' := hw'; have q0 := pw_cell_below hw' ctb1; have q1 := pw_cell_below hw' cxb1; have q2 := pw_cell_below hw' ctb0; have q3 := pw_cell_below hw' cxb0; have q4 := pw_cell_below hw' r0; have q5 := pw_cell_below hw' s0; exact yieldA)) (h := ?_); refine takeF (i := 2) (N := (some 144)) (hS := plS) (hy := by (intro w' hw'; replace hw' : Below (World.heap w7a).size w7a w' := hw'; have q0 := pw_cell_below hw' ctb1; have q1 := pw_cell_below hw' cxb1; have q2 := pw_cell_below hw' ctb0; have q3 := pw_cell_below hw' cxb0; have q4 := pw_cell_below hw' r0; have q5 := pw_cell_below hw' s0; exact yieldA)) (h := ?_); refine pureY (i := 4) (N := (some 146)) ?_; refine pureY (i := 5) (N := (some 147)) ?_; refine takeF (i := 6) (N := (some 148)) (hS := plS) (hy := by (intro w' hw'; replace hw' : Below (World.heap w7a).size w7a w' := hw'; have q0 := pw_cell_below hw' ctb1; have q1 := pw_cell_below hw' cxb1; have q2 := pw_cell_below hw' ctb0; have q3 := pw_cell_below hw' cxb0; have q4 := pw_cell_below hw' r0; have q5 := pw_cell_below hw' s0; exact yieldA)) (h := ?_); refine takeF (i := 8) (N := (some 150)) (hS := plS) (hy := by (intro w' hw'; replace hw' : Below (World.heap w7a).size w7a w' := hw'; have q0 := pw_cell_below hw' ctb1; have q1 := pw_cell_below hw' cxb1; have q2 := pw_cell_below hw' ctb0; have q3 := pw_cell_below hw' cxb0; have q4 := pw_cell_below hw' r0; have q5 := pw_cell_below hw' s0; exact yieldA)) (h := ?_); refine pureY (i := 10) (N := (some 152)) ?_; refine pureY (i := 11) (N := (some 153)) ?_; refine takeF (i := 12) (N := (some 154)) (hS := plS) (hy := by (intro w' hw'; replace hw' : Below (World.heap w7a).size w7a w' := hw'; have q0 := pw_cell_below hw' ctb1; have q1 := pw_cell_below hw' cxb1; have q2 := pw_cell_below hw' ctb0; have q3 := pw_cell_below hw' cxb0; have q4 := pw_cell_below hw' r0; have q5 := pw_cell_below hw' s0; exact yieldA)) (h := ?_))
 obtain ⟨y0, hy0⟩ : ∃ Y, w7a.drew = Y := ⟨_, rfl⟩
 have hB0 : Below w7a.heap.size w7a y0 := by rw [← hy0]; exact (Below.refl _ w7a).drew
 rw [hy0]
 clear hy0 plS
 refine join_ (σ := Nat) 2 (List.toArray (true :: true :: true :: true :: true :: true :: true :: true :: true :: true :: true :: true :: true :: true :: true :: true :: true :: true :: false :: false :: [])) (fun s => [(155, .tuple #[.agg #[.int .i64 (metLo l i m), .int .i64 1, .int .i64 (metHi l i m), .int .i64 1], .int .i64 0]), (141, .tuple #[.agg #[.int .i64 (metLo l i m), .int .i64 1, .int .i64 (metHi l i m), .int .i64 1], .int .i64 0]), (156, .agg #[.int .i64 (metLo l i m), .int .i64 1, .int .i64 (metHi l i m), .int .i64 1]), (157, .int .i64 0), (19, .pointer (some ⟨s, 0, none⟩))])
  (fun s W => Below w7a.heap.size w7a W ∧ W.heap[s]? = some (.cells #[.int .i64 0, .int .i64 0, .int .i64 0, .int .i64 0] 48 (0, 0)) ∧ w7a.heap.size ≤ s) ?_ ?_
 rotate_left
 ·intro hJ
  (refine two_ (i := 13) (j := 17) (List.toArray (true :: true :: true :: true :: true :: true :: true :: true :: true :: true :: true :: true :: true :: true :: false :: false :: false :: false :: false :: false :: [])) (List.toArray (true :: true :: true :: true :: true :: true :: true :: true :: true :: true :: true :: true :: true :: false :: false :: false :: false :: true :: false :: false :: [])) rfl rfl rfl rfl (by kernel_rfl) (by decide) (by decide) (fun plK plH => ?_) (fun plK plH => ?_))
  all_goals (try (rw [if_pos (by rfl)]; (first | gi_big_move | go_big_op | go_simp)))
  all_goals (first | (with_reducible refine (chart_Net.calls (some ad3) c l 0 (dipN l i) (dipN l m) (metLo l i m) 1 (metHi l i m) 1 0 y0 (Kd.C_below HR_7a.out hB0) HC.out (net_rows HM.out.fine i m (by omega) hm)).mono ?_; rintro e y1 ⟨rfl, hx1⟩) | (obtain ⟨y1, hy⟩ : ∃ Y, World.alloc y0 (.cells #[.int .i64 0, .int .i64 0, .int .i64 0, .int .i64 0] 48) = Y := ⟨_, rfl⟩; obtain ⟨b1, hb⟩ : ∃ b, b = y0.heap.size := ⟨_, rfl⟩; have hx1 : Below (World.heap y0).size y0 y1 := (by rw [← hy]; exact below_own _ _); have hM1 : y1.heap[b1]? = some (.cells #[.int .i64 0, .int .i64 0, .int .i64 0, .int .i64 0] 48 (0, 0)) := (by rw [← hy, hb]; exact blk_new _ _); have hL1 : w7a.heap.size ≤ b1 := (by rw [hb]; exact hB0.size); rw [hy, ← hb]; clear hy hb))
  all_goals have hB1 : Below w7a.heap.size w7a y1 := (below_then hB0 hx1)
  all_goals (first | ((try simp only [Act.put, List.getElem_toArray, List.getElem_cons_succ, List.getElem_cons_zero, List.setIfInBounds_toArray, List.set_cons_succ, List.set_cons_zero]); refine plH _ _ hB1 (fun plS => ?_); clear plH plK; refine at_ #[true, true, true, true, true, true, true, true, true, true, true, true, true, true, false, false, false, false, false, false] rfl ?_; refine pureY (i := 14) (N := (some 141)) ?_; refine pureY (i := 15) (N := (some 156)) ?_; refine pureY (i := 16) (N := (some 157)) ?_; refine oneY (i := 17) (fun plK plH => ?_); rw [if_pos (by rfl)]; (first | gi_big_move | go_big_op | go_simp)) | ((try simp only [Act.put, List.getElem_toArray, List.getElem_cons_succ, List.getElem_cons_zero, List.setIfInBounds_toArray, List.set_cons_succ, List.set_cons_zero]); refine plH _ _ hB1 (fun plS => ?_); clear plH plK; refine at_ #[true, true, true, true, true, true, true, true, true, true, true, true, true, false, false, false, false, true, false, false] rfl ?_; refine oneY (i := 13) (fun plK plH => ?_); rw [if_pos (by rfl)]; (first | gi_big_move | go_big_op | go_simp)))
  all_goals (try (rw [if_pos (by rfl)]; (first | gi_big_move | go_big_op | go_simp)))
  all_goals (first | (with_reducible refine (chart_Net.calls (some ad3) c l 0 (dipN l i) (dipN l m) (metLo l i m) 1 (metHi l i m) 1 0 y1 (Kd.C_below HR_7a.out hB1) HC.out (net_rows HM.out.fine i m (by omega) hm)).mono ?_; rintro e y2 ⟨rfl, hx2⟩) | (obtain ⟨y2, hy⟩ : ∃ Y, World.alloc y1 (.cells #[.int .i64 0, .int .i64 0, .int .i64 0, .int .i64 0] 48) = Y := ⟨_, rfl⟩; obtain ⟨b2, hb⟩ : ∃ b, b = y1.heap.size := ⟨_, rfl⟩; have hx2 : Below (World.heap y1).size y1 y2 := (by rw [← hy]; exact below_own _ _); have hM2 : y2.heap[b2]? = some (.cells #[.int .i64 0, .int .i64 0, .int .i64 0, .int .i64 0] 48 (0, 0)) := (by rw [← hy, hb]; exact blk_new _ _); have hL2 : w7a.heap.size ≤ b2 := (by rw [hb]; exact hB1.size); rw [hy, ← hb]; clear hy hb))
  all_goals have hB2 : Below w7a.heap.size w7a y2 := (below_then hB1 hx2)
  all_goals (try replace hM1 := blk_call hx2 hM1)
  all_goals (first | ((try simp only [Act.put, List.getElem_toArray, List.getElem_cons_succ, List.getElem_cons_zero, List.setIfInBounds_toArray, List.set_cons_succ, List.set_cons_zero]); refine plH _ _ hB2 (fun plS => ?_); clear plH plK; refine at_ #[true, true, true, true, true, true, true, true, true, true, true, true, true, true, false, false, false, true, false, false] rfl ?_; refine pureY (i := 14) (N := (some 141)) ?_; refine pureY (i := 15) (N := (some 156)) ?_; refine pureY (i := 16) (N := (some 157)) ?_) | ((try simp only [Act.put, List.getElem_toArray, List.getElem_cons_succ, List.getElem_cons_zero, List.setIfInBounds_toArray, List.set_cons_succ, List.set_cons_zero]); refine plH _ _ hB2 (fun plS => ?_); clear plH plK))
  all_goals (clear plS; (try simp only [Act.put, List.getElem_toArray, List.getElem_cons_succ, List.getElem_cons_zero, List.setIfInBounds_toArray, List.set_cons_succ, List.set_cons_zero]); first | exact hJ b1 y2 ⟨hB2, hM1, hL1⟩ | exact hJ b2 y2 ⟨hB2, hM2, hL2⟩)
 rintro sb W ⟨hBW, hG, hL⟩
 refine norm_ (a' := ?_) (by (simp only [putAll, Act.put, List.setIfInBounds_toArray, List.set_cons_zero, List.set_cons_succ]; rfl)) ?_
 have x0 := blk_cell hG 0
 have xf0 := blk_frozen hG 0
 have x1 := blk_cell hG 1
 have xf1 := blk_frozen hG 1
 have x2 := blk_cell hG 2
 have xf2 := blk_frozen hG 2
 have x3 := blk_cell hG 3
 have xf3 := blk_frozen hG 3
 have hlt1 := blk_lt hG
 (refine lastY (i := 18) (fun plK plH => ?_); rw [if_pos (by rfl)]; (first | gi_big_move | go_big_op | go_simp))
 obtain ⟨w8, hW2⟩ : ∃ Z, ((((W.setCell ⟨sb, 0, none⟩ (.int .i64 (metLo l i m))).setCell ⟨sb, 1, none⟩ (.int .i64 1)).setCell ⟨sb, 2, none⟩ (.int .i64 (metHi l i m))).setCell ⟨sb, 3, none⟩ (.int .i64 1)) = Z := ⟨_, rfl⟩
 have hB : Below w7a.heap.size w7a w8 := by rw [← hW2]; exact ((((hBW).setCell (p := ⟨sb, 0, none⟩) hL _).setCell (p := ⟨sb, 1, none⟩) hL _).setCell (p := ⟨sb, 2, none⟩) hL _).setCell (p := ⟨sb, 3, none⟩) hL _
 have hA1 : w8.heap[sb]? = some (.cells #[.int .i64 (metLo l i m), .int .i64 1, .int .i64 (metHi l i m), .int .i64 1] 48 (0, 0)) := by rw [← hW2]; exact (blk_set (blk_set (blk_set (blk_set hG 0 _) 1 _) 2 _) 3 _)
 rw [hW2]
 clear hW2 x0 xf0 x1 xf1 x2 xf2 x3 xf3 hlt1 hG hBW
 ((try simp only [Act.put, List.getElem_toArray, List.getElem_cons_succ, List.getElem_cons_zero, List.setIfInBounds_toArray, List.set_cons_succ, List.set_cons_zero]); refine plH _ _ ?_; clear plH plK; refine pureY (i := 19) (N := (some 20)) ?_; refine done_ (by kernel_rfl) ?_)
 have HF_8 : Aside0 (Held [(sb, #[.int .i64 (metLo l i m), .int .i64 1, .int .i64 (metHi l i m), .int .i64 1], 48), (xb, #[.slice (some ad3) l.length c, .int .i64 0], 24), (mb, #[.int .i64 (metLo l i m), .int .i64 (metHi l i m)], 43), (bb, #[.int .i64 (metLo l j m), .int .i64 (metHi l j m)], 43), (ab, #[.int .i64 (metLo l i j), .int .i64 (metHi l i j)], 43), (rb, #[.int .u8 x0, .int .u8 x1, .int .u8 x2], 84), (tb, #[.slice (some ad3) l.length c, .int .i64 p], 24)] w8) := ⟨Held.cons hA1 (HF_7a.out.below hB)⟩
 have HB_8 := Aside0.mk (below_then HB_7a.out hB)
 have HR_8 := Aside0.mk (Kd.C_below HR_7a.out hB)
 have HQ_8 := Aside0.mk (Kd.C_below HQ_7a.out hB)
 have Hn_8 := Aside0.mk (Kd.C_below Hn_7a.out hB)
 clear hB hA1 hL hB0 hltb ctb0 ctb1 hlxb cxb0 cxb1 r0 s0 HF_7a HB_7a HR_7a HQ_7a Hn_7a w7a
 have hlsb := blk_lt (HF_8.out.get sb #[.int .i64 (metLo l i m), .int .i64 1, .int .i64 (metHi l i m), .int .i64 1] 48 (by simp))
 have csb0 : w8.cell? ⟨sb, 0, none⟩ = some (.int .i64 (metLo l i m)) := (blk_cell (HF_8.out.get sb #[.int .i64 (metLo l i m), .int .i64 1, .int .i64 (metHi l i m), .int .i64 1] 48 (by simp)) 0).trans rfl
 have csb1 : w8.cell? ⟨sb, 1, none⟩ = some (.int .i64 1) := (blk_cell (HF_8.out.get sb #[.int .i64 (metLo l i m), .int .i64 1, .int .i64 (metHi l i m), .int .i64 1] 48 (by simp)) 1).trans rfl
 have csb2 : w8.cell? ⟨sb, 2, none⟩ = some (.int .i64 (metHi l i m)) := (blk_cell (HF_8.out.get sb #[.int .i64 (metLo l i m), .int .i64 1, .int .i64 (metHi l i m), .int .i64 1] 48 (by simp)) 2).trans rfl
 have csb3 : w8.cell? ⟨sb, 3, none⟩ = some (.int .i64 1) := (blk_cell (HF_8.out.get sb #[.int .i64 (metLo l i m), .int .i64 1, .int .i64 (metHi l i m), .int .i64 1] 48 (by simp)) 3).trans rfl
 have hlmb := blk_lt (HF_8.out.get mb #[.int .i64 (metLo l i m), .int .i64 (metHi l i m)] 43 (by simp))
 have cmb0 : w8.cell? ⟨mb, 0, none⟩ = some (.int .i64 (metLo l i m)) := (blk_cell (HF_8.out.get mb #[.int .i64 (metLo l i m), .int .i64 (metHi l i m)] 43 (by simp)) 0).trans rfl
 have cmb1 : w8.cell? ⟨mb, 1, none⟩ = some (.int .i64 (metHi l i m)) := (blk_cell (HF_8.out.get mb #[.int .i64 (metLo l i m), .int .i64 (metHi l i m)] 43 (by simp)) 1).trans rfl
 go_wp2_with fail
 (refine start_ (n := 17) (S := fun w' => Below (World.heap _).size _ w') (ds := []) (List.toArray (false :: false :: false :: false :: false :: false :: false :: false :: false :: false :: false :: false :: false :: false :: false :: false :: false :: [])) (by kernel_rfl) rfl rfl (belowDrew _) (fun plS => ?_); refine pureY (i := 0) (N := (some 158)) ?_; refine pureY (i := 1) (N := (some 159)) ?_; refine pureY (i := 2) (N := (some 160)) ?_; refine pureY (i := 4) (N := (some 162)) ?_; refine pureY (i := 7) (N := (some 165)) ?_; refine takeF (i := 3) (N := (some 161)) (hS := plS) (hy := by (intro w' hw'; replace hw' : Below (World.heap w8).size w8 w' := hw'; have q0 := pw_cell_below hw' csb0; have q1 := pw_cell_below hw' csb1; have q2 := pw_cell_below hw' csb2; have q3 := pw_cell_below hw' csb3; have q4 := pw_cell_below hw' cmb0; have q5 := pw_cell_below hw' cmb1; exact yieldA)) (h := ?_); refine takeF (i := 5) (N := (some 163)) (hS := plS) (hy := by (intro w' hw'; replace hw' : Below (World.heap w8).size w8 w' := hw'; have q0 := pw_cell_below hw' csb0; have q1 := pw_cell_below hw' csb1; have q2 := pw_cell_below hw' csb2; have q3 := pw_cell_below hw' csb3; have q4 := pw_cell_below hw' cmb0; have q5 := pw_cell_below hw' cmb1; exact yieldA)) (h := ?_); refine takeF (i := 8) (N := (some 166)) (hS := plS) (hy := by (intro w' hw'; replace hw' : Below (World.heap w8).size w8 w' := hw'; have q0 := pw_cell_below hw' csb0; have q1 := pw_cell_below hw' csb1; have q2 := pw_cell_below hw' csb2; have q3 := pw_cell_below hw' csb3; have q4 := pw_cell_below hw' cmb0; have q5 := pw_cell_below hw' cmb1; exact yieldA)) (h := ?_); refine oneY (i := 6) (fun plK plH => ?_); rw [if_pos (by rfl)]; (first | gi_big_move | go_big_op | go_simp))
 refine (forecourtlaw01_of.calls (metLo l i m) 1 (metLo l i m) 1 _ rfl).mono ?_
 rintro e y1 ⟨rfl, hb⟩
 have hB1 : Below w8.heap.size w8 y1 := ((Below.refl _ w8).drew).trans hb
 clear hb
 ((try simp only [Act.put, List.getElem_toArray, List.getElem_cons_succ, List.getElem_cons_zero, List.setIfInBounds_toArray, List.set_cons_succ, List.set_cons_zero]); refine plH _ _ hB1 (fun plS => ?_); clear plH plK; refine oneY (i := 9) (fun plK plH => ?_); rw [if_pos (by rfl)]; (first | gi_big_move | go_big_op | go_simp))
 refine (forecourtlaw01_of.calls (metHi l i m) 1 (metHi l i m) 1 _ rfl).mono ?_
 rintro e y2 ⟨rfl, hb⟩
 have hB2 : Below w8.heap.size w8 y2 := below_then hB1 hb
 clear hb
 ((try simp only [Act.put, List.getElem_toArray, List.getElem_cons_succ, List.getElem_cons_zero, List.setIfInBounds_toArray, List.set_cons_succ, List.set_cons_zero]); refine plH _ _ hB2 (fun plS => ?_); clear plH plK; refine pureY (i := 10) (N := (some 168)) ?_; refine pureY (i := 11) (N := (some 169)) ?_; refine pureY (i := 12) (N := (some 170)) ?_; refine pureY (i := 13) (N := (some 171)) ?_; refine oneY (i := 14) (fun plK plH => ?_); rw [if_pos (by rfl)]; (first | gi_big_move | go_big_op | go_simp))
 refine (forecourtlaw01_Works.calls true y2 ⟨rfl⟩ rfl).mono ?_
 rintro e y3 ⟨rfl, hb⟩
 have hB3 : Below w8.heap.size w8 y3 := below_then hB2 hb
 ((try simp only [Act.put, List.getElem_toArray, List.getElem_cons_succ, List.getElem_cons_zero, List.setIfInBounds_toArray, List.set_cons_succ, List.set_cons_zero]); refine plH _ _ hB3 (fun plS => ?_); clear plH plK; refine pureY (i := 15) (N := (some 173)) ?_; refine pureY (i := 16) (N := (some 6)) ?_; refine done_ (by kernel_rfl) ?_)
 clear plS
 go_wp2_with fail
 go_ret
 exact ⟨rfl, below_then HB_8.out hB3⟩
theorem chartMetered_walk (A : Option Addr) (c : Nat) (l : List SRow) (p : Int) (A1 : Option Addr) (c1 : Nat) (l1 : List Int) (x0 x1 x2 : Int) (w : World) (hC : Kd.C kRow w A l.length l) (hc : l.length ≤ c) (_hr : ∀ r, r ∈ l → Row64 r) (_hp : I64 p)
  (hC1 : Kd.C (Kd.int .u32) w A1 l1.length l1) (hc1 : l1.length ≤ c1) (hr1 : ∀ n, n ∈ l1 → (Lit.int .u32 n).wf = true) (h0 : (Lit.int .u8 x0).wf = true) (h1 : (Lit.int .u8 x1).wf = true) (h2 : (Lit.int .u8 x2).wf = true) :
  Calls Try.prog 12 #[.agg #[.slice A l.length c, .int .i64 p], .slice A1 l1.length c1, .agg #[.int .u8 x0, .int .u8 x1, .int .u8 x2]] w fun e w' => e = .returned (.bool true) ∧ Below w.heap.size w w' := by
 have b0 := u8_of h0
 have b1 := u8_of h1
 have b2 := u8_of h2
 obtain ⟨b, ⟨K1, hf⟩, hb⟩ := fine_ev l p
 by_cases hy : b = true ∧ l1.length ≤ 1000
 ·obtain ⟨q, hq, K2, ht⟩ := true_ev (hb hy.1) l1 (fun x hx => u32_of (hr1 x hx)) hy.2
  exact met_calls A c l p A1 c1 l1 x0 x1 x2 (max K1 K2) b q w w ⟨hC⟩ (Lib.hid hc) ⟨hC1⟩ (Lib.hid hc1) ⟨Below.refl _ _⟩ b0 b1 b2 (Lib.hid (hf _ (by omega))) (Lib.hid fun h _ => ⟨hb h, hq, ht _ (by omega)⟩)
 exact met_calls A c l p A1 c1 l1 x0 x1 x2 K1 b [] w w ⟨hC⟩ (Lib.hid hc) ⟨hC1⟩ (Lib.hid hc1) ⟨Below.refl _ _⟩ b0 b1 b2 (Lib.hid (hf _ (by omega))) (Lib.hid fun h h40 => absurd (And.intro h (show l1.length ≤ 1000 by omega)) hy)
end Go.Proofs.Ytpkajhmchcbbhaa.P
end
