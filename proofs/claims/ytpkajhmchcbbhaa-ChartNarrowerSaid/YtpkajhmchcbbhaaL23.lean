/- Part 23 of 44. -/
import Derived.Test.YtpkajhmchcbbhaaL13
import Derived.Test.YtpkajhmchcbbhaaL17
import Derived.Test.YtpkajhmchcbbhaaL5
import Derived.Test.YtpkajhmchcbbhaaL6
import Derived.Test.YtpkajhmchcbbhaaL7
import Derived.Test.YtpkajhmchcbbhaaL4
import Derived.Test.YtpkajhmchcbbhaaL8
import Derived.Test.YtpkajhmchcbbhaaL9
import Derived.Test.YtpkajhmchcbbhaaL18
import Derived.WalkMore
set_option linter.unusedSimpArgs false
set_option linter.unusedVariables false
section
namespace Go.Proofs.Ytpkajhmchcbbhaa.P
open Go.RowKit Go.Proofs.YtpkajhmchcbbhaaW.PrintWords Go.Proofs.YtpkajhmchcbbhaaW.PrintLast Go.Proofs.YtpkajhmchcbbhaaW.PrintMore
theorem idxF_drop_no {α : Type} (p : α → Bool) (l : List α) (d : α) (k : Nat) (h : ∀ j, k ≤ j → j < l.length → p (l.getD j d) = false) : idxF p (l.drop k) = -1 := by
 refine idxF_no p (l.drop k) d (fun j hj => ?_)
 rw [List.length_drop] at hj
 have := h (k + j) (by omega) (by omega)
 rwa [List.getD_eq_getElem?_getD, List.getElem?_drop, ← List.getD_eq_getElem?_getD]
theorem idxF_drop_at {α : Type} (p : α → Bool) (l : List α) (d : α) (k m : Nat) (hk : k ≤ m) (hm : m < l.length) (hno : ∀ j, k ≤ j → j < m → p (l.getD j d) = false) (hp : p (l.getD m d) = true) : idxF p (l.drop k) = ((m - k : Nat) : Int) := by
 have hg : ∀ j, (l.drop k).getD j d = l.getD (k + j) d := fun j => by
  rw [List.getD_eq_getElem?_getD, List.getElem?_drop, ← List.getD_eq_getElem?_getD]
 refine idxF_at p (l.drop k) (m - k) d (by rw [List.length_drop]; omega) (fun j hj => ?_) ?_
 ·rw [hg]; exact hno _ (by omega) (by omega)
 rw [hg, show k + (m - k) = m from by omega]; exact hp
theorem clashAux_cons (r : SRow) (l : List SRow) (i : Int) : clashAux (r :: l) i = if idxF (fun q : SRow => decide (q.f1.f1 < r.f1.f0)) l < 0 then clashAux l (i + 1) else (i, i + 1 + idxF (fun q : SRow => decide (q.f1.f1 < r.f1.f0)) l, 0) := rfl
theorem clash_next (l : List SRow) (k : Nat) (hk : k < l.length) (h : ∀ j, k + 1 ≤ j → j < l.length → ¬ hiR l j < loR l k) : clashAux (l.drop k) k = clashAux (l.drop (k + 1)) ((k + 1 : Nat) : Int) := by
 rw [drop_row l k hk, clashAux_cons]
 rw [idxF_drop_no (d := zRow) (h := fun j h1 h2 => decide_eq_false (h j h1 h2))]
 simp
theorem clash_here (l : List SRow) (k m : Nat) (hk : k < m) (hm : m < l.length) (hno : ∀ j, k + 1 ≤ j → j < m → ¬ hiR l j < loR l k) (h : hiR l m < loR l k) : clashAux (l.drop k) k = ((k : Int), (m : Int), 0) := by
 rw [drop_row l k (by omega), clashAux_cons]
 rw [idxF_drop_at (d := zRow) (k := k + 1) (m := m) (hk := by omega) (hm := hm) (hno := fun j h1 h2 => decide_eq_false (hno j h1 h2)) (hp := decide_eq_true h)]
 rw [if_neg (by omega)]
 simp only [Prod.mk.injEq, true_and, and_true]
 omega
set_option maxRecDepth 100000 in
set_option maxHeartbeats 4000000 in
theorem chart_Clash.calls (A0_0 : Option Addr) (c0_0 : Nat) (l0_0 : List SRow) (a0_1 : Int) (r1 : Int) (r2 : Int) (r3 : Int) (w : World) (hr0_0 : Kd.C kRow w A0_0 l0_0.length l0_0) (hc0_0 : l0_0.length ≤ c0_0) (h : chart_Clash.f l0_0 a0_1 = some (r1, r2, r3)) :
  Calls Try.prog 19 #[.agg #[.slice A0_0 l0_0.length c0_0, .int .i64 a0_1]] w fun e w' => e = .returned (.tuple #[.int .i64 r1, .int .i64 r2, .int .i64 r3]) ∧ Below w.heap.size w w' := by
 have HE := Aside0.mk (Option.some.inj h)
 have HR := Aside0.mk hr0_0
 have HC := Aside0.mk hc0_0
 clear h hr0_0 hc0_0
 have hu1 := Try.underlying24
 have hu2 := Try.underlying70
 have hu3 := Try.underlying43
 go_enter Try.func19, Try.ntmps19
 go_wp2_with fail
 go_step3
 go_wp2_with fail
 have hB0 : Below w.heap.size w (w.alloc (.cells #[.slice A0_0 l0_0.length c0_0, .int .i64 a0_1] 24)) := (Below.refl _ _).alloc (Nat.le_refl _) _
 refine (chart_CheckTank.calls A0_0 c0_0 l0_0 a0_1 (checkTank l0_0 a0_1) _ (Kd.C_below HR.out hB0) HC.out rfl).mono ?_
 rintro e w1 ⟨rfl, hB1⟩
 have HK1 := Aside0.mk (below_blk hB1 (blk_new _ _) (by simp))
 have HB1 := Aside0.mk (below_then hB0 hB1)
 have hc0 : w1.cell? ⟨w.heap.size, 0, none⟩ = some (.slice A0_0 l0_0.length c0_0) := blk_cell HK1.out 0
 clear hB0 hB1
 by_cases h0 : checkTank l0_0 a0_1 = 0
 ·have H0 := Lib.hid h0
  have HE2 := Aside0.mk (show clashAux l0_0 0 = (r1, r2, r3) by rw [← HE.out, if_pos h0])
  have hn2 : 2 ≤ l0_0.length ∧ l0_0.length ≤ 16 := by
   unfold checkTank at h0
   split at h0
   ·cases h0
   omega
  have HN := Aside0.mk hn2
  rw [h0]
  clear h0 hn2
  go_wp2_with fail
  try go_step3
  go_wp2_with fail
  go_loopw [6, 7, 19] (fun v6 v7 v19 w' => ∃ k : Nat, k ≤ l0_0.length ∧ v6 = .int .i64 0 ∧ v7 = .int .i64 0 ∧ v19 = .int .i64 k ∧ Aside0 (clashAux l0_0 0 = clashAux (l0_0.drop k) k) ∧ Below w1.heap.size w1 w') (fun _ _ v19 _ => l0_0.length - (intOf v19).toNat)
  case atStart => exact ⟨0, Nat.zero_le _, rfl, rfl, rfl, ⟨by simp⟩, Below.refl _ _⟩
  case round =>
   obtain ⟨k, hk, rfl, rfl, rfl, HA, hB⟩ := hrel
   have HB := Aside0.mk hB
   have HBw := Aside0.mk (below_then HB1.out hB)
   have HK2 := Aside0.mk (below_blk hB HK1.out (blk_lt HK1.out))
   clear hB
   obtain ⟨wo, hwo⟩ : ∃ wo : World, wo = wr := ⟨_, rfl⟩
   rw [← hwo] at HB HBw HK2 ⊢
   clear hwo wr
   by_cases hlt : k < l0_0.length
   ·obtain ⟨ad, rfl, c0, c1, c2⟩ := row_cells HR.out k hlt
    replace c0 := pw_cell_below HBw.out c0
    replace c1 := pw_cell_below HBw.out c1
    replace c2 := pw_cell_below HBw.out c2
    have HLR := Lib.hid (show loR l0_0 k = (l0_0.getD k zRow).f1.f0 from rfl)
    obtain ⟨q, hq⟩ : ∃ q, q = l0_0.getD k zRow := ⟨_, rfl⟩
    rw [← hq] at c0 c1 c2 HLR
    clear hq
    have hx0 : wo.cell? ⟨w.heap.size, 0, none⟩ = some (.slice (some ad) l0_0.length c0_0) := blk_cell HK2.out 0
    have k1 : (k : Int) < l0_0.length := by omega
    have n16 : (l0_0.length : Int) ≤ 16 := by have := HN.out; omega
    go_wp2_with fail
    obtain ⟨W1, hW1⟩ : ∃ W1, wo.alloc (.cells #[.int .i64 q.f0, .int .i64 q.f1.f0, .int .i64 q.f1.f1] 70) = W1 := ⟨_, rfl⟩
    try rw [hW1]
    have KR : Aside0 (W1.heap[wo.heap.size]? = some (.cells #[.int .i64 q.f0, .int .i64 q.f1.f0, .int .i64 q.f1.f1] 70 (0, 0))) := ⟨by rw [← hW1]; exact blk_new _ _⟩
    have KB : Aside0 (Below wo.heap.size wo W1) := ⟨by rw [← hW1]; exact (Below.refl _ _).alloc (Nat.le_refl _) _⟩
    clear hW1 c0 c1 c2 hx0
    obtain ⟨rb, hrb⟩ : ∃ rb, rb = wo.heap.size := ⟨_, rfl⟩
    rw [← hrb] at KR ⊢
    have HRB := Lib.hid hrb
    clear hrb
    go_loopw [6, 7, 10] (fun v6 v7 v10 w' => ∃ m : Nat, k + 1 ≤ m ∧ m ≤ l0_0.length ∧ v6 = .int .i64 0 ∧ v7 = .int .i64 0 ∧ v10 = .int .i64 m ∧ Aside0 (∀ j, k + 1 ≤ j → j < m → loR l0_0 k ≤ hiR l0_0 j) ∧ Below W1.heap.size W1 w') (fun _ _ v10 _ => l0_0.length - (intOf v10).toNat)
    case atStart => exact ⟨k + 1, Nat.le_refl _, hlt, rfl, rfl, by simp, ⟨fun j h1 h2 => by omega⟩, Below.refl _ _⟩
    case round =>
     obtain ⟨m, hm1, hm2, rfl, rfl, rfl, HNO, hBm⟩ := hrel
     have HBm := Aside0.mk (below_then KB.out hBm)
     have hKT := below_blk HBm.out HK2.out (blk_lt HK2.out)
     have hKR := below_blk hBm KR.out (blk_lt KR.out)
     have hx0 : wr.cell? ⟨w.heap.size, 0, none⟩ = some (.slice (some ad) l0_0.length c0_0) := blk_cell hKT 0
     have hy1 : wr.cell? ⟨rb, 1, none⟩ = some (.int .i64 q.f1.f0) := blk_cell hKR 1
     have HBM := Aside0.mk hBm
     clear hKT hKR hBm
     by_cases hmlt : m < l0_0.length
     ·obtain ⟨ad', had, c0, c1, c2⟩ := row_cells HR.out m hmlt
      obtain rfl := Option.some.inj had
      clear had c0 c1
      replace c2 := pw_cell_below (below_then HBw.out HBm.out) c2
      have HHR := Lib.hid (show hiR l0_0 m = (l0_0.getD m zRow).f1.f1 from rfl)
      obtain ⟨hi, hhi⟩ : ∃ hi, hi = (l0_0.getD m zRow).f1.f1 := ⟨_, rfl⟩
      rw [← hhi] at c2 HHR
      clear hhi
      have m1 : (m : Int) < l0_0.length := by omega
      by_cases hcl : hi < q.f1.f0
      ·have m0 : ((m : Int) == 0) = false := by
        rw [beq_eq_false_iff_ne]; omega
       go_wp2_with fail
       (refine start_ (n := 11) (S := fun w' => w' = _) (ds := []) (List.toArray (false :: false :: false :: false :: false :: false :: false :: false :: false :: false :: false :: [])) (by kernel_rfl) rfl rfl rfl (fun plS => ?_); clear plS; refine pureY (i := 0) (N := (some 33)) ?_; refine pureY (i := 1) (N := (some 34)) ?_; refine pureY (i := 3) (N := (some 36)) ?_; refine pureY (i := 5) (N := (some 38)) ?_; refine takeE (i := 2) (N := (some 35)) ?_; refine takeE (i := 4) (N := (some 37)) ?_; refine pureY (i := 6) (N := (some 39)) ?_; refine pureY (i := 7) (N := (some 40)) ?_; refine pureY (i := 8) (N := (some 41)) ?_; refine takeE (i := 9) (N := (some 42)) ?_; refine pureY (i := 10) (N := (some 43)) ?_; refine done_ (by kernel_rfl) ?_)
       go_wp2
       try rw [Exit.noGoto_ret]
       go_ret3
       rw [clash_here l0_0 k m (by omega) hmlt (fun j h1 h2 => Int.not_lt.mpr (HNO.out j h1 h2)) (by rw [HHR.out, HLR.out]; exact hcl)] at HA
       have he := HA.out.symm.trans HE2.out
       simp only [Prod.mk.injEq] at he
       obtain ⟨rfl, rfl, rfl⟩ := he
       exact ⟨rfl, below_then HBw.out HBm.out.drew⟩
      go_wp2_with fail
      (refine start_ (n := 11) (S := fun w' => w' = _) (ds := []) (List.toArray (false :: false :: false :: false :: false :: false :: false :: false :: false :: false :: false :: [])) (by kernel_rfl) rfl rfl rfl (fun plS => ?_); clear plS; refine pureY (i := 0) (N := (some 33)) ?_; refine pureY (i := 1) (N := (some 34)) ?_; refine pureY (i := 3) (N := (some 36)) ?_; refine pureY (i := 5) (N := (some 38)) ?_; refine takeE (i := 2) (N := (some 35)) ?_; refine takeE (i := 4) (N := (some 37)) ?_; refine pureY (i := 6) (N := (some 39)) ?_; refine pureY (i := 7) (N := (some 40)) ?_; refine pureY (i := 8) (N := (some 41)) ?_; refine takeE (i := 9) (N := (some 42)) ?_; refine pureY (i := 10) (N := (some 43)) ?_; refine done_ (by kernel_rfl) ?_)
      go_wp2
      go_roundw
      case rel => exact ⟨m + 1, by omega, by omega, rfl, rfl, by go_num, ⟨fun j h1 h2 => by
       rcases Nat.lt_succ_iff_lt_or_eq.mp h2 with h3 | rfl
       ·exact HNO.out j h1 h3
       rw [HHR.out, HLR.out]; omega⟩, HBM.out.drew⟩
      case measure => simp [intOf]; omega
     obtain rfl : m = l0_0.length := by omega
     go_wp2
     go_roundw
     case rel => exact ⟨k + 1, by omega, rfl, rfl, by go_num, ⟨by rw [HA.out, clash_next l0_0 k hlt (fun j h1 h2 => Int.not_lt.mpr (HNO.out j h1 h2))]⟩, below_then HB.out HBm.out⟩
     case measure => simp [intOf]; omega
   obtain rfl : k = l0_0.length := by omega
   go_wp2
   rw [Exit.noGoto_ret]
   go_ret3
   rw [List.drop_eq_nil_of_le (Nat.le_refl _)] at HA
   have he : ((0 : Int), (0 : Int), (5 : Int)) = (r1, r2, r3) := HA.out.symm.trans HE2.out
   simp only [Prod.mk.injEq] at he
   obtain ⟨rfl, rfl, rfl⟩ := he
   exact ⟨rfl, HBw.out⟩
 have H0 := Lib.hid h0
 have hb : ((checkTank l0_0 a0_1) == 0) = false := by simpa using h0
 have hb' : ((checkTank l0_0 a0_1) != 0) = true := by simpa using h0
 have HE2 := Aside0.mk (show (0, 0, checkTank l0_0 a0_1) = (r1, r2, r3) by rw [← HE.out, if_neg h0])
 go_wp2
 rw [Exit.noGoto_ret]
 go_ret3
 have he := HE2.out
 simp only [Prod.mk.injEq] at he
 obtain ⟨rfl, rfl, rfl⟩ := he
 exact ⟨rfl, HB1.out⟩
end Go.Proofs.Ytpkajhmchcbbhaa.P
end
section
namespace Go.Proofs.Ytpkajhmchcbbhaa.P
open Go.RowKit Go.Proofs.YtpkajhmchcbbhaaW.PrintWords Go.Proofs.YtpkajhmchcbbhaaW.PrintLast Go.Proofs.YtpkajhmchcbbhaaW.PrintMore
theorem wrap_pred (i : Nat) (h : i ≤ 1000000) : wrap64 (((i + 1 : Nat) : Int) - 1) = ((i : Nat) : Int) := by unfold wrap64; omega
theorem valid_ok (r : SRow) : forecourtref01_valid.f r.f1.f0 r.f1.f1 0 100000 = some (litresOk r) := by
 have e : litresOk r = (decide (0 ≤ r.f1.f0) && (decide (r.f1.f0 ≤ r.f1.f1) && decide (r.f1.f1 ≤ 100000))) := by
  unfold litresOk inB
  rw [Bool.eq_iff_iff]
  simp only [Bool.and_eq_true, Bool.not_eq_true', Bool.or_eq_false_iff, decide_eq_false_iff_not, decide_eq_true_eq]
  omega
 rw [e]
 unfold forecourtref01_valid.f
 by_cases h1 : 0 ≤ r.f1.f0
 ·rw [if_pos h1]
  by_cases h2 : r.f1.f0 ≤ r.f1.f1
  ·rw [if_pos h2]; simp [h1, h2]
  rw [if_neg h2]; simp [h2]
 rw [if_neg h1]; simp [h1]
theorem ct_l1 (l : List SRow) (p : Int) (hn : l.length ≤ 1000) (d : Nat) : ∀ i : Nat, i + d = l.length →
  Ev (fun k => forecourtref01_CheckTank.l1 k i l p) (if (l.drop i).any (fun r => !litresOk r) then 2 else if inB 0 50 p = false then 2 else 0) := by
 induction d with
 | zero =>
  intro i hi
  refine Ev.step (f := fun _ => some (if inB 0 50 p = false then 2 else 0)) (fun k => ?_) ?_
  ·simp only [forecourtref01_CheckTank.l1]
   rw [if_neg (by omega)]
   by_cases h1 : p < 0
   ·rw [if_pos h1, if_pos (by unfold inB; simp [h1])]
   rw [if_neg h1]
   by_cases h2 : p > 50
   ·rw [if_pos h2, if_pos (by unfold inB; simp; omega)]
   rw [if_neg h2, if_neg (by unfold inB; simp; omega)]
  rw [List.drop_eq_nil_of_le (by omega)]
  simpa using Ev.now _
 | succ d ih =>
  intro i hi
  by_cases hl : litresOk (l.getD i zRow) = true
  ·refine Ev.step (f := fun k => forecourtref01_CheckTank.l1 k ((i + 1 : Nat) : Int) l p) (fun k => ?_) ?_
   ·simp only [forecourtref01_CheckTank.l1]
    rw [if_pos (by omega), if_pos (by omega), rdR_nat, valid_ok]
    simp only [Option.bind_some]
    rw [if_pos hl, wrap_nat i (by omega)]
   rw [drop_row l i (by omega)]
   rw [List.any_cons, hl]
   simpa only [Bool.not_true, Bool.false_or] using ih (i + 1) (by omega)
  refine Ev.step (f := fun k => some 2) (fun k => ?_) ?_
  ·simp only [forecourtref01_CheckTank.l1]
   rw [if_pos (by omega), if_pos (by omega), rdR_nat, valid_ok]
   simp only [Option.bind_some]
   rw [if_neg hl]
  rw [drop_row l i (by omega)]
  rw [List.any_cons, Bool.eq_false_iff.mpr hl]
  exact Ev.now 2
def lastAt (l : List SRow) : Nat → Int
 | 0 => -1
 | i + 1 => dipN l i
theorem ct_l0 (l : List SRow) (p : Int) (hn : l.length ≤ 1000) (V : Int) (hV : Ev (fun k => forecourtref01_CheckTank.l1 k 0 l p) V) (d : Nat) : ∀ i : Nat, i + d = l.length → -1 ≤ lastAt l i →
  Ev (fun k => forecourtref01_CheckTank.l0 k i l p) (if dipsOk (lastAt l i) (l.drop i) = false then 3 else V) := by
 induction d with
 | zero =>
  intro i hi _
  refine Ev.step (f := fun k => forecourtref01_CheckTank.l1 k 0 l p) (fun k => ?_) ?_
  ·simp only [forecourtref01_CheckTank.l0]
   rw [if_neg (by omega)]
  rw [List.drop_eq_nil_of_le (by omega)]
  simpa [dipsOk] using hV
 | succ d ih =>
  intro i hi hla
  rw [drop_row l i (by omega)]
  by_cases hok : (l.getD i zRow).f0 ≤ lastAt l i ∨ 4000 < (l.getD i zRow).f0
  ·rw [if_pos (show dipsOk (lastAt l i) (l.getD i zRow :: l.drop (i + 1)) = false by
    simp only [dipsOk]
    rcases hok with h | h
    ·rw [decide_eq_true h]; rfl
    rw [decide_eq_true h, Bool.or_true]; rfl)]
   refine Ev.step (f := fun k => some 3) (fun k => ?_) (Ev.now _)
   simp only [forecourtref01_CheckTank.l0]
   rw [if_pos (by omega), if_pos (by omega), rdR_nat]
   by_cases h1 : (l.getD i zRow).f0 < 0
   ·rw [if_pos h1]
   rw [if_neg h1]
   by_cases h2 : (l.getD i zRow).f0 > 4000
   ·rw [if_pos h2]
   rw [if_neg h2]
   cases i with
   | zero => exfalso; simp only [lastAt] at hok; omega
   | succ j =>
    rw [if_pos (by omega), wrap_pred j (by omega), if_pos (by omega), if_pos (by omega), rdR_nat]
    have : (l.getD (j + 1) zRow).f0 ≤ (l.getD j zRow).f0 := by
     rcases hok with h | h
     ·exact h
     omega
    rw [if_pos this]
  have h1 : ¬ (l.getD i zRow).f0 ≤ lastAt l i := fun h => hok (.inl h)
  have h2 : ¬ 4000 < (l.getD i zRow).f0 := fun h => hok (.inr h)
  refine Ev.step (f := fun k => forecourtref01_CheckTank.l0 k ((i + 1 : Nat) : Int) l p) (fun k => ?_) ?_
  ·simp only [forecourtref01_CheckTank.l0]
   rw [if_pos (by omega), if_pos (by omega), rdR_nat, if_neg (by omega), if_neg (by omega)]
   cases i with
   | zero => rw [if_neg (by omega), wrap_nat 0 (by omega)]
   | succ j => rw [if_pos (by omega), wrap_pred j (by omega), if_pos (by omega), if_pos (by omega), rdR_nat, if_neg (show ¬ (l.getD (j + 1) zRow).f0 ≤ (l.getD j zRow).f0 from h1), wrap_nat (j + 1) (by omega)]
  have e : dipsOk (lastAt l i) (l.getD i zRow :: l.drop (i + 1)) = dipsOk (lastAt l (i + 1)) (l.drop (i + 1)) := by
   have e2 : lastAt l (i + 1) = (l.getD i zRow).f0 := rfl
   rw [e2, dipsOk, decide_eq_false h1, decide_eq_false h2]
   rfl
  rw [e]
  exact ih (i + 1) (by omega) (by simp only [lastAt, dipN]; omega)
theorem refCheckTank_ev (l : List SRow) (p : Int) (hn : l.length ≤ 1000) : Ev (fun k => forecourtref01_CheckTank.f k l p) (checkTank l p) := by
 have h0 := ct_l0 l p hn _ (ct_l1 l p hn l.length 0 (by omega)) l.length 0 (by omega) (by simp [lastAt])
 unfold forecourtref01_CheckTank.f checkTank
 by_cases h2 : l.length < 2
 ·rw [if_pos (.inl h2)]
  simp only [if_pos (show (l.length : Int) < 2 by omega)]
  exact Ev.step (f := fun _ => some 6) (fun k => by simp only [forecourtref01_CheckTank.j0]; rw [if_pos trivial]) (Ev.now _)
 simp only [if_neg (show ¬ (l.length : Int) < 2 by omega)]
 by_cases h16 : 16 < l.length
 ·rw [if_pos (.inr h16)]
  exact Ev.step (f := fun _ => some 6) (fun k => by simp only [forecourtref01_CheckTank.j0]; rw [if_pos (decide_eq_true (by omega))]) (Ev.now _)
 rw [if_neg (by omega)]
 refine Ev.step (f := fun k => forecourtref01_CheckTank.l0 k 0 l p) (fun k => by simp only [forecourtref01_CheckTank.j0]; rw [if_neg (by simp; omega)]) ?_
 refine Ev.congr (fun k => rfl) ?_
 have e : (if dipsOk (-1) l = false then (3 : Int) else if inB 0 50 p = false then 2 else if l.any (fun r => !litresOk r) = true then 2 else 0) =
   if dipsOk (lastAt l 0) (l.drop 0) = false then 3 else if (l.drop 0).any (fun r => !litresOk r) = true then 2 else if inB 0 50 p = false then 2 else 0 := by
  simp only [lastAt, List.drop_zero]
  split
  ·rfl
  split <;> split <;> rfl
 rw [e]
 exact h0
theorem clash_l1 (l : List SRow) (p : Int) (hn : l.length ≤ 1000) (i : Nat) (hi : i < l.length) (R : Int × Int × Int) (hR : Ev (fun k => forecourtref01_Clash.l0 k ((i + 1 : Nat) : Int) l p) R) (d : Nat) : ∀ m : Nat, m + d = l.length → i < m →
  Ev (fun k => forecourtref01_Clash.l1 k i m l p) (if idxF (fun q : SRow => decide (q.f1.f1 < loR l i)) (l.drop m) < 0 then R else ((i : Int), (m : Int) + idxF (fun q : SRow => decide (q.f1.f1 < loR l i)) (l.drop m), 0)) := by
 induction d with
 | zero =>
  intro m hm _
  refine Ev.step (f := fun k => forecourtref01_Clash.l0 k ((i + 1 : Nat) : Int) l p) (fun k => ?_) ?_
  ·simp only [forecourtref01_Clash.l1]
   rw [if_neg (by omega), wrap_nat i (by omega)]
  rw [List.drop_eq_nil_of_le (by omega)]
  exact hR
 | succ d ih =>
  intro m hm him
  rw [drop_row l m (by omega)]
  by_cases hx : (l.getD m zRow).f1.f1 < loR l i
  ·have e : idxF (fun q : SRow => decide (q.f1.f1 < loR l i)) (l.getD m zRow :: l.drop (m + 1)) = 0 := by simp only [idxF]; rw [if_pos (by simpa using hx)]
   rw [e, if_neg (by omega)]
   refine Ev.step (f := fun _ => some _) (fun k => ?_) (Ev.now _)
   simp only [forecourtref01_Clash.l1]
   rw [if_pos (by omega), if_pos (by omega), if_pos (by omega), if_pos (by omega), rdR_nat, rdR_nat, if_pos (by exact hx)]
   simp
  have e : idxF (fun q : SRow => decide (q.f1.f1 < loR l i)) (l.getD m zRow :: l.drop (m + 1)) = if idxF (fun q : SRow => decide (q.f1.f1 < loR l i)) (l.drop (m + 1)) < 0 then -1 else idxF (fun q : SRow => decide (q.f1.f1 < loR l i)) (l.drop (m + 1)) + 1 := by
   rw [idxF, if_neg (by simpa using hx)]
  have h2 := ih (m + 1) (by omega) (by omega)
  refine Ev.step (f := fun k => forecourtref01_Clash.l1 k i ((m + 1 : Nat) : Int) l p) (fun k => ?_) ?_
  ·simp only [forecourtref01_Clash.l1]
   rw [if_pos (by omega), if_pos (by omega), if_pos (by omega), if_pos (by omega), rdR_nat, rdR_nat, if_neg (by exact hx), wrap_nat m (by omega)]
  rw [e]
  by_cases hneg : idxF (fun q : SRow => decide (q.f1.f1 < loR l i)) (l.drop (m + 1)) < 0
  ·rw [if_pos hneg] at h2 ⊢
   rw [if_pos (by omega)]
   exact h2
  rw [if_neg hneg] at h2 ⊢
  rw [if_neg (by omega)]
  have e3 : (m : Int) + (idxF (fun q : SRow => decide (q.f1.f1 < loR l i)) (l.drop (m + 1)) + 1) = ((m + 1 : Nat) : Int) + idxF (fun q : SRow => decide (q.f1.f1 < loR l i)) (l.drop (m + 1)) := by omega
  rw [e3]
  exact h2
theorem clash_l0 (l : List SRow) (p : Int) (hn : l.length ≤ 1000) (d : Nat) : ∀ i : Nat, i + d = l.length →
  Ev (fun k => forecourtref01_Clash.l0 k i l p) (clashAux (l.drop i) i) := by
 induction d with
 | zero =>
  intro i hi
  rw [List.drop_eq_nil_of_le (by omega)]
  exact Ev.step (f := fun _ => some (0, 0, 5)) (fun k => by simp only [forecourtref01_Clash.l0]; rw [if_neg (by omega)]) (Ev.now _)
 | succ d ih =>
  intro i hi
  refine Ev.step (f := fun k => forecourtref01_Clash.l1 k i ((i + 1 : Nat) : Int) l p) (fun k => ?_) ?_
  ·simp only [forecourtref01_Clash.l0]
   rw [if_pos (by omega), wrap_nat i (by omega)]
  have h1 := clash_l1 l p hn i (by omega) _ (ih (i + 1) (by omega)) (l.length - (i + 1)) (i + 1) (by omega) (by omega)
  rw [drop_row l i (by omega), clashAux_cons]
  exact h1
theorem refClash_ev (l : List SRow) (p : Int) (hn : l.length ≤ 1000) : Ev (fun k => forecourtref01_Clash.f k l p) (if checkTank l p = 0 then clashAux l 0 else (0, 0, checkTank l p)) := by
 refine Ev.bind (refCheckTank_ev l p hn) ?_
 by_cases h : checkTank l p = 0
 ·simp only [if_pos h]
  simpa using clash_l0 l p hn l.length 0 (by omega)
 simp only [if_neg h]
 exact Ev.bind (refCheckTank_ev l p hn) (Ev.now _)
theorem refClashes_ev (l : List SRow) (p : Int) (hn : l.length ≤ 1000) : Ev (fun k => forecourtref01_Clashes.f k l p) ((if checkTank l p = 0 then clashAux l 0 else (0, 0, checkTank l p)).2.2 == 0) :=
 Ev.bind (refClash_ev l p hn) (Ev.now _)
theorem lowN_ge (l : List SRow) (i : Nat) : ∀ k, k ≤ i → loR l k ≤ lowN l i := by
  induction i with
  | zero => intro k hk; obtain rfl : k = 0 := by omega
            exact Int.le_refl _
  | succ i ih =>
    intro k hk
    rw [lowN_succ]
    rcases Nat.lt_or_ge k (i + 1) with h | h
    · exact Int.le_trans (ih k (by omega)) mx_right
    obtain rfl : k = i + 1 := by omega
    unfold mx; split <;> omega
theorem lowN_of (l : List SRow) (i : Nat) : ∃ k, k ≤ i ∧ lowN l i = loR l k := by
 induction i with
 | zero => exact ⟨0, Nat.le_refl _, rfl⟩
 | succ i ih =>
  obtain ⟨k, hk, e⟩ := ih
  rw [lowN_succ]
  unfold mx
  split
  ·exact ⟨k, by omega, e⟩
  exact ⟨i + 1, Nat.le_refl _, rfl⟩
theorem highN_le (l : List SRow) (d : Nat) : ∀ i, i + 1 + d = l.length → ∀ k, i ≤ k → k < l.length → highN l i ≤ hiR l k := by
 induction d with
 | zero =>
  intro i hi k hk hk2
  obtain rfl : k = i := by omega
  obtain rfl : k = l.length - 1 := by omega
  rw [highN_last]; exact Int.le_refl _
 | succ d ih =>
  intro i hi k hk hk2
  rw [highN_succ l i (by omega)]
  rcases Nat.lt_or_ge i k with h | h
  ·exact Int.le_trans mn_right (ih (i + 1) (by omega) k (by omega) hk2)
  obtain rfl : k = i := by omega
  unfold mn; split <;> omega
theorem highN_of (l : List SRow) (d : Nat) : ∀ i, i + 1 + d = l.length → ∃ k, i ≤ k ∧ k < l.length ∧ highN l i = hiR l k := by
 induction d with
 | zero =>
  intro i hi
  obtain rfl : i = l.length - 1 := by omega
  exact ⟨l.length - 1, Nat.le_refl _, by omega, highN_last l⟩
 | succ d ih =>
  intro i hi
  obtain ⟨k, hk, hk2, e⟩ := ih (i + 1) (by omega)
  rw [highN_succ l i (by omega)]
  unfold mn
  split
  ·exact ⟨k, by omega, hk2, e⟩
  exact ⟨i, Nat.le_refl _, by omega, rfl⟩
theorem clashAux_iff (l : List SRow) (d : Nat) : ∀ i : Nat, i + d = l.length → ((clashAux (l.drop i) i).2.2 = 0 ↔ ∃ a b, i ≤ a ∧ a < b ∧ b < l.length ∧ hiR l b < loR l a) := by
 induction d with
 | zero =>
  intro i hi
  rw [List.drop_eq_nil_of_le (by omega)]
  refine ⟨fun h => by simp [clashAux] at h, fun ⟨a, b, h1, h2, h3, _⟩ => by omega⟩
 | succ d ih =>
  intro i hi
  by_cases hx : ∃ j, i + 1 ≤ j ∧ j < l.length ∧ hiR l j < loR l i
  ·obtain ⟨j, hj1, hj2, hj3⟩ := hx
   refine ⟨fun _ => ⟨i, j, Nat.le_refl _, by omega, hj2, hj3⟩, fun _ => ?_⟩

   have hmin : ∃ m, i + 1 ≤ m ∧ m < l.length ∧ hiR l m < loR l i ∧ ∀ q, i + 1 ≤ q → q < m → ¬ hiR l q < loR l i := by
    clear ih hi
    induction j using Nat.strongRecOn with
    | _ j ihj =>
     by_cases hq : ∃ q, i + 1 ≤ q ∧ q < j ∧ hiR l q < loR l i
     ·obtain ⟨q, h1, h2, h3⟩ := hq
      exact ihj q h2 h1 (by omega) h3
     exact ⟨j, hj1, hj2, hj3, fun q h1 h2 h3 => hq ⟨q, h1, h2, h3⟩⟩
   obtain ⟨m, h1, h2, h3, h4⟩ := hmin
   rw [clash_here l i m (by omega) h2 h4 h3]
  rw [clash_next l i (by omega) (fun j h1 h2 h3 => hx ⟨j, h1, h2, h3⟩), ih (i + 1) (by omega)]
  constructor
  ·rintro ⟨a, b, h1, h2, h3, h4⟩; exact ⟨a, b, by omega, h2, h3, h4⟩
  rintro ⟨a, b, h1, h2, h3, h4⟩
  refine ⟨a, b, ?_, h2, h3, h4⟩
  rcases Nat.lt_or_ge i a with h | h
  ·omega
  obtain rfl : a = i := by omega
  exact absurd ⟨b, by omega, h3, h4⟩ hx
theorem tightOk_iff (l : List SRow) (hv : ∀ i, i < l.length → loR l i ≤ hiR l i) : tightOk l = true ↔ ∀ a b, a < b → b < l.length → loR l a ≤ hiR l b := by
 unfold tightOk
 rw [List.all_eq_true]
 constructor
 ·intro h a b hab hb
  have := h a (List.mem_range.2 (by omega))
  have h1 := lowN_ge l a a (Nat.le_refl _)
  have h2 := highN_le l (l.length - (a + 1)) a (by omega) b (by omega) hb
  have h3 := of_decide_eq_true this
  omega
 intro h i hi
 have hi := List.mem_range.1 hi
 obtain ⟨a, ha, ea⟩ := lowN_of l i
 obtain ⟨b, hb, hb2, eb⟩ := highN_of l (l.length - (i + 1)) i (by omega)
 refine decide_eq_true ?_
 rw [ea, eb]
 rcases Nat.lt_or_ge a b with hlt | hge
 ·exact h a b hlt hb2
 obtain rfl : a = b := by omega
 exact hv a hb2
theorem tightOk_clash {l : List SRow} {p : Int} (hT : TankOk l p) : (clashAux l 0).2.2 = 0 ↔ tightOk l = false := by
 have h1 := clashAux_iff l l.length 0 (by omega)
 rw [List.drop_zero] at h1
 have h2 := tightOk_iff l (fun i hi => (hT.lit i hi).2.1)
 have h1 : (clashAux l 0).2.2 = 0 ↔ _ := h1
 rw [h1, ← Bool.not_eq_true, h2]
 constructor
 ·rintro ⟨a, b, _, hab, hb, h⟩ h2
  have := h2 a b hab hb
  omega
 intro h
 refine Classical.byContradiction fun hn => h fun a b hab hb => ?_
 rcases Int.lt_or_le (hiR l b) (loR l a) with h3 | h3
 ·exact absurd ⟨a, b, by omega, hab, hb, h3⟩ hn
 exact h3
theorem clashes_of {l : List SRow} {p : Int} (h0 : checkTank l p = 0) : ((if checkTank l p = 0 then clashAux l 0 else (0, 0, checkTank l p)).2.2 == 0) = !tightOk l := by
 rw [if_pos h0]
 have := tightOk_clash (tankOk_of h0)
 cases ht : tightOk l
 ·rw [ht] at this; simp [this.2 rfl]
 rw [ht] at this
 have h1 : ¬ (clashAux l 0).2.2 = 0 := fun h => by have := this.1 h; cases this
 simp [h1]
end Go.Proofs.Ytpkajhmchcbbhaa.P
end
section
namespace Go.Proofs.Ytpkajhmchcbbhaa.P
open Go.RowKit Go.Proofs.YtpkajhmchcbbhaaW.PrintWords Go.Proofs.YtpkajhmchcbbhaaW.PrintLast Go.Proofs.YtpkajhmchcbbhaaW.PrintMore
theorem wrap_id {x : Int} (h : -9223372036854775808 ≤ x ∧ x ≤ 9223372036854775807) : wrap64 x = x := by unfold wrap64; omega
theorem inside_ev (l : List SRow) (p dip : Int) (h0 : 0 < l.length) (hn : l.length ≤ 1000) : forecourtref01_Inside.f l p dip = some (inB (firstD l) (lastD l) dip) := by
 unfold forecourtref01_Inside.f
 have e0 : rd_T70 l 0 = l.getD 0 zRow := rfl
 have e1 : wrap64 ((l.length : Int) - 1) = ((l.length - 1 : Nat) : Int) := by unfold wrap64; omega
 have hb : inB (firstD l) (lastD l) dip = (decide (firstD l ≤ dip) && decide (dip ≤ lastD l)) := by
  rw [Bool.eq_iff_iff, inB_iff, Bool.and_eq_true, decide_eq_true_eq, decide_eq_true_eq]
 rw [if_pos (by omega), e0, e1, rdR_nat, hb]
 by_cases h1 : firstD l ≤ dip
 ·rw [if_pos (show dip ≥ (l.getD 0 zRow).f0 from h1), if_pos (by omega), if_pos (by omega), decide_eq_true h1]; rfl
 rw [if_neg (show ¬ dip ≥ (l.getD 0 zRow).f0 from h1), decide_eq_false h1]; rfl
theorem mul_in {x y A B : Int} (hA : 0 ≤ A) (hx : 0 ≤ x ∧ x ≤ A) (hy : 0 ≤ y ∧ y ≤ B) : 0 ≤ x * y ∧ x * y ≤ A * B :=
 ⟨Int.mul_nonneg hx.1 hy.1, Int.mul_le_mul hx.2 hy.2 hy.1 hA⟩
theorem rdT_nat (l : List SRange) (i : Nat) : rd_T43 l (i : Int) = l.getD i z43 := by simp [rd_T43]
theorem tightL_get (l : List SRow) (i : Nat) (hi : i < l.length) : (tightL l).getD i z43 = ⟨lowN l i, highN l i⟩ := by
 unfold tightL
 rw [List.getD_eq_getElem?_getD, List.getElem?_map, List.getElem?_range hi]; rfl
end Go.Proofs.Ytpkajhmchcbbhaa.P
end
