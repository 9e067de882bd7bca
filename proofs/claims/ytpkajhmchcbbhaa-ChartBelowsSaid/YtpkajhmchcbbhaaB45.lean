/- Part 45 of 46. -/
import Derived.Test.YtpkajhmchcbbhaaB31
import Derived.Test.YtpkajhmchcbbhaaB21
import Derived.Test.YtpkajhmchcbbhaaB15
import Derived.Test.YtpkajhmchcbbhaaB44
set_option linter.unusedSimpArgs false
set_option linter.unusedVariables false
section
namespace Go.Proofs.Ytpkajhmchcbbhaa.P
open Go.RowKit Go.Proofs.YtpkajhmchcbbhaaW.PrintWords Go.Proofs.YtpkajhmchcbbhaaW.PrintLast Go.Proofs.YtpkajhmchcbbhaaW.PrintMore
attribute [local go_sem high] eqA39 eqA43 eqA48
set_option maxRecDepth 100000 in
set_option maxHeartbeats 8000000 in
theorem belows_calls (A : Option Addr) (c : Nat) (l : List SRow) (p : Int) (A1 : Option Addr) (c1 : Nat) (l1 : List Int) (dip frm tu : Int) (k : Nat) (r1 r2 r3 s1 s2 s3 : Int) (w w0 : World)
  (HR_0 : Aside0 (Kd.C k70 w0 A l.length l)) (HC : Hid (l.length ≤ c)) (HQ_0 : Aside0 (Kd.C (Kd.int .i64) w0 A1 l1.length l1)) (HC1 : Hid (l1.length ≤ c1)) (HB_0 : Aside0 (Below w.heap.size w w0))
  (HE : Hid (l.length ≤ 25 → l1.length ≤ 40 → chart_Below.f l p l1 dip = some (r1, r2, r3) ∧ forecourtref01_Below.f k l p l1 dip = some (r1, r2, r3) ∧ chart_Metered.f l p frm tu = some (s1, s2, s3) ∧ forecourtref01_Metered.f k l p frm tu = some (s1, s2, s3))) :
  Calls Try.prog 4 #[.agg #[.slice A l.length c, .int .i64 p], .slice A1 l1.length c1, .int .i64 dip, .int .i64 frm, .int .i64 tu] w0 fun e w' => e = .returned (.bool true) ∧ Below w.heap.size w w' := by
 have hu1 := Try.underlying24
 have hu2 := Try.underlying39
 have hu3 := Try.underlying43
 have HF_0 : Aside0 (Held [] w0) := ⟨⟨fun b cs t hm => by simp at hm⟩⟩
 go_enter Try.func4, Try.ntmps4
 go_wp2_with fail
 obtain ⟨w0a, hZ⟩ : ∃ Z, w0.alloc (.cells #[.slice A l.length c, .int .i64 p] 24) = Z := ⟨_, rfl⟩
 obtain ⟨tb, hbk⟩ : ∃ b, b = w0.heap.size := ⟨_, rfl⟩
 have HF_0a : Aside0 (Held [(tb, #[.slice A l.length c, .int .i64 p], 24)] w0a) := ⟨by rw [← hZ, hbk]; exact HF_0.out.new _ _⟩
 have HR_0a : Aside0 (Kd.C k70 w0a A l.length l) := ⟨by rw [← hZ]; exact Kd.C_below HR_0.out ((Below.refl _ _).alloc (Nat.le_refl _) _)⟩
 have HQ_0a : Aside0 (Kd.C (Kd.int .i64) w0a A1 l1.length l1) := ⟨by rw [← hZ]; exact Kd.C_below HQ_0.out ((Below.refl _ _).alloc (Nat.le_refl _) _)⟩
 have HB_0a : Aside0 (Below w.heap.size w w0a) := ⟨by rw [← hZ]; exact HB_0.out.alloc HB_0.out.size _⟩
 rw [hZ, ← hbk]
 clear hZ hbk HF_0 HB_0 HR_0 HQ_0 w0
 refine (forecourtlaw01_great.calls A c l p (decide ((l.length : Int) > 25)) w0a HR_0a.out HC.out rfl).mono ?_
 rintro e w1 ⟨rfl, hB⟩
 have HF_1 := Aside0.mk (HF_0a.out.below hB)
 have HB_1 := Aside0.mk (below_then HB_0a.out hB)
 have HR_1 := Aside0.mk (Kd.C_below HR_0a.out hB)
 have HQ_1 := Aside0.mk (Kd.C_below HQ_0a.out hB)
 clear hB HF_0a HB_0a HR_0a HQ_0a w0a
 by_cases h25 : (l.length : Int) > 25
 ·rw [decide_eq_true h25]
  go_wp2_with fail
  refine (forecourtlaw01_Works.calls true w1 ⟨rfl⟩ rfl).mono ?_
  rintro e w2 ⟨rfl, hB⟩
  go_wp2_with fail
  go_ret
  exact ⟨rfl, below_then HB_1.out hB⟩
 rw [decide_eq_false h25]
 by_cases h40 : (l1.length : Int) > 40
 ·have hb40 : decide ((l1.length : Int) > 40) = true := decide_eq_true h40
  go_wp2_with fail
  refine (forecourtlaw01_Works.calls true w1 ⟨rfl⟩ rfl).mono ?_
  rintro e w2 ⟨rfl, hB⟩
  go_wp2_with fail
  go_ret
  exact ⟨rfl, below_then HB_1.out hB⟩
 have hb40 : decide ((l1.length : Int) > 40) = false := decide_eq_false h40
 obtain ⟨HE1, HE2, HE3, HE4⟩ := HE.out (by omega) (by omega)
 replace HE1 := Aside0.mk HE1
 replace HE2 := Aside0.mk HE2
 replace HE3 := Aside0.mk HE3
 replace HE4 := Aside0.mk HE4
 clear HE
 have hltb := blk_lt (HF_1.out.get tb #[.slice A l.length c, .int .i64 p] 24 (by simp))
 have ctb0 : w1.cell? ⟨tb, 0, none⟩ = some (.slice A l.length c) := (blk_cell (HF_1.out.get tb #[.slice A l.length c, .int .i64 p] 24 (by simp)) 0).trans rfl
 have ctb1 : w1.cell? ⟨tb, 1, none⟩ = some (.int .i64 p) := (blk_cell (HF_1.out.get tb #[.slice A l.length c, .int .i64 p] 24 (by simp)) 1).trans rfl
 go_wp2_with fail
 clear hltb ctb0 ctb1 h25 h40 hb40
 refine (chart_Below.calls A c l p A1 c1 l1 dip r1 r2 r3 w1 HR_1.out HC.out HQ_1.out HC1.out HE1.out).mono ?_
 rintro e w2 ⟨rfl, hB⟩
 have HF_2 := Aside0.mk (HF_1.out.below hB)
 have HB_2 := Aside0.mk (below_then HB_1.out hB)
 have HR_2 := Aside0.mk (Kd.C_below HR_1.out hB)
 have HQ_2 := Aside0.mk (Kd.C_below HQ_1.out hB)
 clear hB HF_1 HB_1 HR_1 HQ_1 w1
 have hltb := blk_lt (HF_2.out.get tb #[.slice A l.length c, .int .i64 p] 24 (by simp))
 have ctb0 : w2.cell? ⟨tb, 0, none⟩ = some (.slice A l.length c) := (blk_cell (HF_2.out.get tb #[.slice A l.length c, .int .i64 p] 24 (by simp)) 0).trans rfl
 have ctb1 : w2.cell? ⟨tb, 1, none⟩ = some (.int .i64 p) := (blk_cell (HF_2.out.get tb #[.slice A l.length c, .int .i64 p] 24 (by simp)) 1).trans rfl
 go_wp2_with fail
 clear hltb ctb0 ctb1
 obtain ⟨w2a, hZ⟩ : ∃ Z, w2.alloc (.cells #[.int .i64 r1, .int .i64 r2] 39) = Z := ⟨_, rfl⟩
 obtain ⟨vb, hbk⟩ : ∃ b, b = w2.heap.size := ⟨_, rfl⟩
 have HF_2a : Aside0 (Held [(vb, #[.int .i64 r1, .int .i64 r2], 39), (tb, #[.slice A l.length c, .int .i64 p], 24)] w2a) := ⟨by rw [← hZ, hbk]; exact HF_2.out.new _ _⟩
 have HR_2a : Aside0 (Kd.C k70 w2a A l.length l) := ⟨by rw [← hZ]; exact Kd.C_below HR_2.out ((Below.refl _ _).alloc (Nat.le_refl _) _)⟩
 have HQ_2a : Aside0 (Kd.C (Kd.int .i64) w2a A1 l1.length l1) := ⟨by rw [← hZ]; exact Kd.C_below HQ_2.out ((Below.refl _ _).alloc (Nat.le_refl _) _)⟩
 have HB_2a : Aside0 (Below w.heap.size w w2a) := ⟨by rw [← hZ]; exact HB_2.out.alloc HB_2.out.size _⟩
 rw [hZ, ← hbk]
 clear hZ hbk HF_2 HB_2 HR_2 HQ_2 w2
 refine (forecourtref01_Below.calls k A c l p A1 c1 l1 dip r1 r2 r3 w2a HR_2a.out HC.out HQ_2a.out HC1.out HE2.out).mono ?_
 rintro e w3 ⟨rfl, hB⟩
 have HF_3 := Aside0.mk (HF_2a.out.below hB)
 have HB_3 := Aside0.mk (below_then HB_2a.out hB)
 have HR_3 := Aside0.mk (Kd.C_below HR_2a.out hB)
 have HQ_3 := Aside0.mk (Kd.C_below HQ_2a.out hB)
 clear hB HF_2a HB_2a HR_2a HQ_2a w2a
 have hltb := blk_lt (HF_3.out.get tb #[.slice A l.length c, .int .i64 p] 24 (by simp))
 have ctb0 : w3.cell? ⟨tb, 0, none⟩ = some (.slice A l.length c) := (blk_cell (HF_3.out.get tb #[.slice A l.length c, .int .i64 p] 24 (by simp)) 0).trans rfl
 have ctb1 : w3.cell? ⟨tb, 1, none⟩ = some (.int .i64 p) := (blk_cell (HF_3.out.get tb #[.slice A l.length c, .int .i64 p] 24 (by simp)) 1).trans rfl
 go_wp2_with fail
 clear hltb ctb0 ctb1
 obtain ⟨w3a, hZ⟩ : ∃ Z, w3.alloc (.cells #[.int .i64 r1, .int .i64 r2] 39) = Z := ⟨_, rfl⟩
 obtain ⟨ub, hbk⟩ : ∃ b, b = w3.heap.size := ⟨_, rfl⟩
 have HF_3a : Aside0 (Held [(ub, #[.int .i64 r1, .int .i64 r2], 39), (vb, #[.int .i64 r1, .int .i64 r2], 39), (tb, #[.slice A l.length c, .int .i64 p], 24)] w3a) := ⟨by rw [← hZ, hbk]; exact HF_3.out.new _ _⟩
 have HR_3a : Aside0 (Kd.C k70 w3a A l.length l) := ⟨by rw [← hZ]; exact Kd.C_below HR_3.out ((Below.refl _ _).alloc (Nat.le_refl _) _)⟩
 have HQ_3a : Aside0 (Kd.C (Kd.int .i64) w3a A1 l1.length l1) := ⟨by rw [← hZ]; exact Kd.C_below HQ_3.out ((Below.refl _ _).alloc (Nat.le_refl _) _)⟩
 have HB_3a : Aside0 (Below w.heap.size w w3a) := ⟨by rw [← hZ]; exact HB_3.out.alloc HB_3.out.size _⟩
 rw [hZ, ← hbk]
 clear hZ hbk HF_3 HB_3 HR_3 HQ_3 w3
 refine (chart_Metered.calls A c l p frm tu s1 s2 s3 w3a HR_3a.out HC.out HE3.out).mono ?_
 rintro e w4 ⟨rfl, hB⟩
 have HF_4 := Aside0.mk (HF_3a.out.below hB)
 have HB_4 := Aside0.mk (below_then HB_3a.out hB)
 have HR_4 := Aside0.mk (Kd.C_below HR_3a.out hB)
 have HQ_4 := Aside0.mk (Kd.C_below HQ_3a.out hB)
 clear hB HF_3a HB_3a HR_3a HQ_3a w3a
 have hltb := blk_lt (HF_4.out.get tb #[.slice A l.length c, .int .i64 p] 24 (by simp))
 have ctb0 : w4.cell? ⟨tb, 0, none⟩ = some (.slice A l.length c) := (blk_cell (HF_4.out.get tb #[.slice A l.length c, .int .i64 p] 24 (by simp)) 0).trans rfl
 have ctb1 : w4.cell? ⟨tb, 1, none⟩ = some (.int .i64 p) := (blk_cell (HF_4.out.get tb #[.slice A l.length c, .int .i64 p] 24 (by simp)) 1).trans rfl
 go_wp2_with fail
 clear hltb ctb0 ctb1
 obtain ⟨w4a, hZ⟩ : ∃ Z, w4.alloc (.cells #[.int .i64 s1, .int .i64 s2] 43) = Z := ⟨_, rfl⟩
 obtain ⟨mb, hbk⟩ : ∃ b, b = w4.heap.size := ⟨_, rfl⟩
 have HF_4a : Aside0 (Held [(mb, #[.int .i64 s1, .int .i64 s2], 43), (ub, #[.int .i64 r1, .int .i64 r2], 39), (vb, #[.int .i64 r1, .int .i64 r2], 39), (tb, #[.slice A l.length c, .int .i64 p], 24)] w4a) := ⟨by rw [← hZ, hbk]; exact HF_4.out.new _ _⟩
 have HR_4a : Aside0 (Kd.C k70 w4a A l.length l) := ⟨by rw [← hZ]; exact Kd.C_below HR_4.out ((Below.refl _ _).alloc (Nat.le_refl _) _)⟩
 have HQ_4a : Aside0 (Kd.C (Kd.int .i64) w4a A1 l1.length l1) := ⟨by rw [← hZ]; exact Kd.C_below HQ_4.out ((Below.refl _ _).alloc (Nat.le_refl _) _)⟩
 have HB_4a : Aside0 (Below w.heap.size w w4a) := ⟨by rw [← hZ]; exact HB_4.out.alloc HB_4.out.size _⟩
 rw [hZ, ← hbk]
 clear hZ hbk HF_4 HB_4 HR_4 HQ_4 w4
 refine (forecourtref01_Metered.calls k A c l p frm tu s1 s2 s3 w4a HR_4a.out HC.out HE4.out).mono ?_
 rintro e w5 ⟨rfl, hB⟩
 have HF_5 := Aside0.mk (HF_4a.out.below hB)
 have HB_5 := Aside0.mk (below_then HB_4a.out hB)
 have HR_5 := Aside0.mk (Kd.C_below HR_4a.out hB)
 have HQ_5 := Aside0.mk (Kd.C_below HQ_4a.out hB)
 clear hB HF_4a HB_4a HR_4a HQ_4a w4a
 have hltb := blk_lt (HF_5.out.get tb #[.slice A l.length c, .int .i64 p] 24 (by simp))
 have ctb0 : w5.cell? ⟨tb, 0, none⟩ = some (.slice A l.length c) := (blk_cell (HF_5.out.get tb #[.slice A l.length c, .int .i64 p] 24 (by simp)) 0).trans rfl
 have ctb1 : w5.cell? ⟨tb, 1, none⟩ = some (.int .i64 p) := (blk_cell (HF_5.out.get tb #[.slice A l.length c, .int .i64 p] 24 (by simp)) 1).trans rfl
 have hlvb := blk_lt (HF_5.out.get vb #[.int .i64 r1, .int .i64 r2] 39 (by simp))
 have cvb0 : w5.cell? ⟨vb, 0, none⟩ = some (.int .i64 r1) := (blk_cell (HF_5.out.get vb #[.int .i64 r1, .int .i64 r2] 39 (by simp)) 0).trans rfl
 have cvb1 : w5.cell? ⟨vb, 1, none⟩ = some (.int .i64 r2) := (blk_cell (HF_5.out.get vb #[.int .i64 r1, .int .i64 r2] 39 (by simp)) 1).trans rfl
 have hlub := blk_lt (HF_5.out.get ub #[.int .i64 r1, .int .i64 r2] 39 (by simp))
 have cub0 : w5.cell? ⟨ub, 0, none⟩ = some (.int .i64 r1) := (blk_cell (HF_5.out.get ub #[.int .i64 r1, .int .i64 r2] 39 (by simp)) 0).trans rfl
 have cub1 : w5.cell? ⟨ub, 1, none⟩ = some (.int .i64 r2) := (blk_cell (HF_5.out.get ub #[.int .i64 r1, .int .i64 r2] 39 (by simp)) 1).trans rfl
 have hlmb := blk_lt (HF_5.out.get mb #[.int .i64 s1, .int .i64 s2] 43 (by simp))
 have cmb0 : w5.cell? ⟨mb, 0, none⟩ = some (.int .i64 s1) := (blk_cell (HF_5.out.get mb #[.int .i64 s1, .int .i64 s2] 43 (by simp)) 0).trans rfl
 have cmb1 : w5.cell? ⟨mb, 1, none⟩ = some (.int .i64 s2) := (blk_cell (HF_5.out.get mb #[.int .i64 s1, .int .i64 s2] 43 (by simp)) 1).trans rfl
 have hq1 : (r1 == r1 && r2 == r2) = true := by simp
 have hq2 : (s1 == s1 && s2 == s2) = true := by simp
 go_wp2_with fail
 refine (forecourtlaw01_Works.calls true _ ⟨rfl⟩ rfl).mono ?_
 rintro e wz ⟨rfl, hB⟩
 go_wp2_with fail
 go_ret
 exact ⟨rfl, below_then (HB_5.out.alloc HB_5.out.size _) hB⟩
theorem chartBelows_walk (A : Option Addr) (c : Nat) (l : List SRow) (p : Int) (A1 : Option Addr) (c1 : Nat) (l1 : List Int) (dip frm tu : Int) (w : World) (hC : Kd.C kRow w A l.length l) (hc : l.length ≤ c) (_hr : ∀ r, r ∈ l → Row64 r) (_hp : I64 p)
  (hC1 : Kd.C (Kd.int .i64) w A1 l1.length l1) (hc1 : l1.length ≤ c1) (_hr1 : ∀ n, n ∈ l1 → I64 n) (_hd : I64 dip) (_hf : I64 frm) (_ht : I64 tu) :
  Calls Try.prog 4 #[.agg #[.slice A l.length c, .int .i64 p], .slice A1 l1.length c1, .int .i64 dip, .int .i64 frm, .int .i64 tu] w fun e w' => e = .returned (.bool true) ∧ Below w.heap.size w w' := by
 by_cases hn : l.length ≤ 1000
 ·obtain ⟨K1, h1⟩ := refBelow_ev l p l1 dip hn
  obtain ⟨⟨s1, s2, s3⟩, hs, K2, h2⟩ := refMetered_ev l p frm tu hn
  refine belows_calls A c l p A1 c1 l1 dip frm tu (max K1 K2) _ _ _ s1 s2 s3 w w ⟨hC⟩ (Lib.hid hc) ⟨hC1⟩ (Lib.hid hc1) ⟨Below.refl _ _⟩ (Lib.hid fun _ _ => ⟨rfl, h1 _ (by omega), hs, h2 _ (by omega)⟩)
 exact belows_calls A c l p A1 c1 l1 dip frm tu 0 0 0 0 0 0 0 w w ⟨hC⟩ (Lib.hid hc) ⟨hC1⟩ (Lib.hid hc1) ⟨Below.refl _ _⟩ (Lib.hid fun h => absurd h (by omega))
end Go.Proofs.Ytpkajhmchcbbhaa.P
end
