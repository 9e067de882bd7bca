/- Part 26 of 42. -/
import Derived.Test.YtpkajhmchcbbhaaA14
import Derived.Test.YtpkajhmchcbbhaaA19
import Derived.Test.YtpkajhmchcbbhaaA20
import Derived.Test.YtpkajhmchcbbhaaA6
import Derived.Test.YtpkajhmchcbbhaaA7
import Derived.Test.YtpkajhmchcbbhaaA5
import Derived.Test.YtpkajhmchcbbhaaA8
import Derived.Test.YtpkajhmchcbbhaaA9
import Derived.Test.YtpkajhmchcbbhaaA10
import Derived.Test.YtpkajhmchcbbhaaA21
import Derived.WalkMore
set_option linter.unusedSimpArgs false
set_option linter.unusedVariables false
section
namespace Go.Proofs.Ytpkajhmchcbbhaa.P
open Go.RowKit Go.Proofs.YtpkajhmchcbbhaaW.PrintWords Go.Proofs.YtpkajhmchcbbhaaW.PrintLast Go.Proofs.YtpkajhmchcbbhaaW.PrintMore
theorem idxF_drop_no {α : Type} (p : α → Bool) (l : List α) (d : α) (k : Nat) (h : ∀ j, k ≤ j → j < l.length → p (l.getD j d) = false) : idxF p (l.drop k) = -1 := by
 refine idxF_no p (l.drop k) d (fun j hj => ?_)
 rw [List.length_drop] at hj
 have := h (k + j) (by omega) (by omega)
 rwa [List.getD_eq_getElem?_getD, List.getElem?_drop, ← List.getD_eq_getElem?_getD]
theorem idxF_drop_at {α : Type} (p : α → Bool) (l : List α) (d : α) (k m : Nat) (hk : k ≤ m) (hm : m < l.length) (hno : ∀ j, k ≤ j → j < m → p (l.getD j d) = false) (hp : p (l.getD m d) = true) : idxF p (l.drop k) = ((m - k : Nat) : Int) := by
 have hg : ∀ j, (l.drop k).getD j d = l.getD (k + j) d := fun j => by
  rw [List.getD_eq_getElem?_getD, List.getElem?_drop, ← List.getD_eq_getElem?_getD]
 refine idxF_at p (l.drop k) (m - k) d (by rw [List.length_drop]; omega) (fun j hj => ?_) ?_
 ·rw [hg]; exact hno _ (by omega) (by omega)
 rw [hg, show k + (m - k) = m from by omega]; exact hp
theorem clashAux_cons (r : SRow) (l : List SRow) (i : Int) : clashAux (r :: l) i = if idxF (fun q : SRow => decide (q.f1.f1 < r.f1.f0)) l < 0 then clashAux l (i + 1) else (i, i + 1 + idxF (fun q : SRow => decide (q.f1.f1 < r.f1.f0)) l, 0) := rfl
theorem clash_next (l : List SRow) (k : Nat) (hk : k < l.length) (h : ∀ j, k + 1 ≤ j → j < l.length → ¬ hiR l j < loR l k) : clashAux (l.drop k) k = clashAux (l.drop (k + 1)) ((k + 1 : Nat) : Int) := by
 rw [drop_row l k hk, clashAux_cons]
 rw [idxF_drop_no (d := zRow) (h := fun j h1 h2 => decide_eq_false (h j h1 h2))]
 simp
theorem clash_here (l : List SRow) (k m : Nat) (hk : k < m) (hm : m < l.length) (hno : ∀ j, k + 1 ≤ j → j < m → ¬ hiR l j < loR l k) (h : hiR l m < loR l k) : clashAux (l.drop k) k = ((k : Int), (m : Int), 0) := by
 rw [drop_row l k (by omega), clashAux_cons]
 rw [idxF_drop_at (d := zRow) (k := k + 1) (m := m) (hk := by omega) (hm := hm) (hno := fun j h1 h2 => decide_eq_false (hno j h1 h2)) (hp := decide_eq_true h)]
 rw [if_neg (by omega)]
 simp only [Prod.mk.injEq, true_and, and_true]
 omega
set_option maxRecDepth 100000 in
set_option maxHeartbeats 4000000 in
theorem chart_Clash.calls (A0_0 : Option Addr) (c0_0 : Nat) (l0_0 : List SRow) (a0_1 : Int) (r1 : Int) (r2 : Int) (r3 : Int) (w : World) (hr0_0 : Kd.C kRow w A0_0 l0_0.length l0_0) (hc0_0 : l0_0.length ≤ c0_0) (h : chart_Clash.f l0_0 a0_1 = some (r1, r2, r3)) :
  Calls Try.prog 19 #[.agg #[.slice A0_0 l0_0.length c0_0, .int .i64 a0_1]] w fun e w' => e = .returned (.tuple #[.int .i64 r1, .int .i64 r2, .int .i64 r3]) ∧ Below w.heap.size w w' := by
 have HE := Aside0.mk (Option.some.inj h)
 have HR := Aside0.mk hr0_0
 have HC := Aside0.mk hc0_0
 clear h hr0_0 hc0_0
 have hu1 := Try.underlying24
 have hu2 := Try.underlying70
 have hu3 := Try.underlying43
 go_enter Try.func19, Try.ntmps19
 go_wp2_with fail
 go_step3
 go_wp2_with fail
 have hB0 : Below w.heap.size w (w.alloc (.cells #[.slice A0_0 l0_0.length c0_0, .int .i64 a0_1] 24)) := (Below.refl _ _).alloc (Nat.le_refl _) _
 refine (chart_CheckTank.calls A0_0 c0_0 l0_0 a0_1 (checkTank l0_0 a0_1) _ (Kd.C_below HR.out hB0) HC.out rfl).mono ?_
 rintro e w1 ⟨rfl, hB1⟩
 have HK1 := Aside0.mk (below_blk hB1 (blk_new _ _) (by simp))
 have HB1 := Aside0.mk (below_then hB0 hB1)
 have hc0 : w1.cell? ⟨w.heap.size, 0, none⟩ = some (.slice A0_0 l0_0.length c0_0) := blk_cell HK1.out 0
 clear hB0 hB1
 by_cases h0 : checkTank l0_0 a0_1 = 0
 ·have H0 := Lib.hid h0
  have HE2 := Aside0.mk (show clashAux l0_0 0 = (r1, r2, r3) by rw [← HE.out, if_pos h0])
  have hn2 : 2 ≤ l0_0.length ∧ l0_0.length ≤ 16 := by
   unfold checkTank at h0
   split at h0
   ·cases h0
   omega
  have HN := Aside0.mk hn2
  rw [h0]
  clear h0 hn2
  go_wp2_with fail
  try go_step3
  go_wp2_with fail
  go_loopw [6, 7, 19] (fun v6 v7 v19 w' => ∃ k : Nat, k ≤ l0_0.length ∧ v6 = .int .i64 0 ∧ v7 = .int .i64 0 ∧ v19 = .int .i64 k ∧ Aside0 (clashAux l0_0 0 = clashAux (l0_0.drop k) k) ∧ Below w1.heap.size w1 w') (fun _ _ v19 _ => l0_0.length - (intOf v19).toNat)
  case atStart => exact ⟨0, Nat.zero_le _, rfl, rfl, rfl, ⟨by simp⟩, Below.refl _ _⟩
  case round =>
   obtain ⟨k, hk, rfl, rfl, rfl, HA, hB⟩ := hrel
   have HB := Aside0.mk hB
   have HBw := Aside0.mk (below_then HB1.out hB)
   have HK2 := Aside0.mk (below_blk hB HK1.out (blk_lt HK1.out))
   clear hB
   obtain ⟨wo, hwo⟩ : ∃ wo : World, wo = wr := ⟨_, rfl⟩
   rw [← hwo] at HB HBw HK2 ⊢
   clear hwo wr
   by_cases hlt : k < l0_0.length
   ·obtain ⟨ad, rfl, c0, c1, c2⟩ := row_cells HR.out k hlt
    replace c0 := pw_cell_below HBw.out c0
    replace c1 := pw_cell_below HBw.out c1
    replace c2 := pw_cell_below HBw.out c2
    have HLR := Lib.hid (show loR l0_0 k = (l0_0.getD k zRow).f1.f0 from rfl)
    obtain ⟨q, hq⟩ : ∃ q, q = l0_0.getD k zRow := ⟨_, rfl⟩
    rw [← hq] at c0 c1 c2 HLR
    clear hq
    have hx0 : wo.cell? ⟨w.heap.size, 0, none⟩ = some (.slice (some ad) l0_0.length c0_0) := blk_cell HK2.out 0
    have k1 : (k : Int) < l0_0.length := by omega
    have n16 : (l0_0.length : Int) ≤ 16 := by have := HN.out; omega
    go_wp2_with fail
    obtain ⟨W1, hW1⟩ : ∃ W1, wo.alloc (.cells #[.int .i64 q.f0, .int .i64 q.f1.f0, .int .i64 q.f1.f1] 70) = W1 := ⟨_, rfl⟩
    try rw [hW1]
    have KR : Aside0 (W1.heap[wo.heap.size]? = some (.cells #[.int .i64 q.f0, .int .i64 q.f1.f0, .int .i64 q.f1.f1] 70 (0, 0))) := ⟨by rw [← hW1]; exact blk_new _ _⟩
    have KB : Aside0 (Below wo.heap.size wo W1) := ⟨by rw [← hW1]; exact (Below.refl _ _).alloc (Nat.le_refl _) _⟩
    clear hW1 c0 c1 c2 hx0
    obtain ⟨rb, hrb⟩ : ∃ rb, rb = wo.heap.size := ⟨_, rfl⟩
    rw [← hrb] at KR ⊢
    have HRB := Lib.hid hrb
    clear hrb
    go_loopw [6, 7, 10] (fun v6 v7 v10 w' => ∃ m : Nat, k + 1 ≤ m ∧ m ≤ l0_0.length ∧ v6 = .int .i64 0 ∧ v7 = .int .i64 0 ∧ v10 = .int .i64 m ∧ Aside0 (∀ j, k + 1 ≤ j → j < m → loR l0_0 k ≤ hiR l0_0 j) ∧ Below W1.heap.size W1 w') (fun _ _ v10 _ => l0_0.length - (intOf v10).toNat)
    case atStart => exact ⟨k + 1, Nat.le_refl _, hlt, rfl, rfl, by simp, ⟨fun j h1 h2 => by omega⟩, Below.refl _ _⟩
    case round =>
     obtain ⟨m, hm1, hm2, rfl, rfl, rfl, HNO, hBm⟩ := hrel
     have HBm := Aside0.mk (below_then KB.out hBm)
     have hKT := below_blk HBm.out HK2.out (blk_lt HK2.out)
     have hKR := below_blk hBm KR.out (blk_lt KR.out)
     have hx0 : wr.cell? ⟨w.heap.size, 0, none⟩ = some (.slice (some ad) l0_0.length c0_0) := blk_cell hKT 0
     have hy1 : wr.cell? ⟨rb, 1, none⟩ = some (.int .i64 q.f1.f0) := blk_cell hKR 1
     have HBM := Aside0.mk hBm
     clear hKT hKR hBm
     by_cases hmlt : m < l0_0.length
     ·obtain ⟨ad', had, c0, c1, c2⟩ := row_cells HR.out m hmlt
      obtain rfl := Option.some.inj had
      clear had c0 c1
      replace c2 := pw_cell_below (below_then HBw.out HBm.out) c2
      have HHR := Lib.hid (show hiR l0_0 m = (l0_0.getD m zRow).f1.f1 from rfl)
      obtain ⟨hi, hhi⟩ : ∃ hi, hi = (l0_0.getD m zRow).f1.f1 := ⟨_, rfl⟩
      rw [← hhi] at c2 HHR
      clear hhi
      have m1 : (m : Int) < l0_0.length := by omega
      by_cases hcl : hi < q.f1.f0
      ·have m0 : ((m : Int) == 0) = false := by
        rw [beq_eq_false_iff_ne]; omega
       go_wp2_with fail
       (refine start_ (n := 11) (S := fun w' => w' = _) (ds := []) (List.toArray (false :: false :: false :: false :: false :: false :: false :: false :: false :: false :: false :: [])) (by kernel_rfl) rfl rfl rfl (fun plS => ?_); clear plS; refine pureY (i := 0) (N := (some 33)) ?_; refine pureY (i := 1) (N := (some 34)) ?_; refine pureY (i := 3) (N := (some 36)) ?_; refine pureY (i := 5) (N := (some 38)) ?_; refine takeE (i := 2) (N := (some 35)) ?_; refine takeE (i := 4) (N := (some 37)) ?_; refine pureY (i := 6) (N := (some 39)) ?_; refine pureY (i := 7) (N := (some 40)) ?_; refine pureY (i := 8) (N := (some 41)) ?_; refine takeE (i := 9) (N := (some 42)) ?_; refine pureY (i := 10) (N := (some 43)) ?_; refine done_ (by kernel_rfl) ?_)
       go_wp2
       try rw [Exit.noGoto_ret]
       go_ret3
       rw [clash_here l0_0 k m (by omega) hmlt (fun j h1 h2 => Int.not_lt.mpr (HNO.out j h1 h2)) (by rw [HHR.out, HLR.out]; exact hcl)] at HA
       have he := HA.out.symm.trans HE2.out
       simp only [Prod.mk.injEq] at he
       obtain ⟨rfl, rfl, rfl⟩ := he
       exact ⟨rfl, below_then HBw.out HBm.out.drew⟩
      go_wp2_with fail
      (refine start_ (n := 11) (S := fun w' => w' = _) (ds := []) (List.toArray (false :: false :: false :: false :: false :: false :: false :: false :: false :: false :: false :: [])) (by kernel_rfl) rfl rfl rfl (fun plS => ?_); clear plS; refine pureY (i := 0) (N := (some 33)) ?_; refine pureY (i := 1) (N := (some 34)) ?_; refine pureY (i := 3) (N := (some 36)) ?_; refine pureY (i := 5) (N := (some 38)) ?_; refine takeE (i := 2) (N := (some 35)) ?_; refine takeE (i := 4) (N := (some 37)) ?_; refine pureY (i := 6) (N := (some 39)) ?_; refine pureY (i := 7) (N := (some 40)) ?_; refine pureY (i := 8) (N := (some 41)) ?_; refine takeE (i := 9) (N := (some 42)) ?_; refine pureY (i := 10) (N := (some 43)) ?_; refine done_ (by kernel_rfl) ?_)
      go_wp2
      go_roundw
      case rel => exact ⟨m + 1, by omega, by omega, rfl, rfl, by go_num, ⟨fun j h1 h2 => by
       rcases Nat.lt_succ_iff_lt_or_eq.mp h2 with h3 | rfl
       ·exact HNO.out j h1 h3
       rw [HHR.out, HLR.out]; omega⟩, HBM.out.drew⟩
      case measure => simp [intOf]; omega
     obtain rfl : m = l0_0.length := by omega
     go_wp2
     go_roundw
     case rel => exact ⟨k + 1, by omega, rfl, rfl, by go_num, ⟨by rw [HA.out, clash_next l0_0 k hlt (fun j h1 h2 => Int.not_lt.mpr (HNO.out j h1 h2))]⟩, below_then HB.out HBm.out⟩
     case measure => simp [intOf]; omega
   obtain rfl : k = l0_0.length := by omega
   go_wp2
   rw [Exit.noGoto_ret]
   go_ret3
   rw [List.drop_eq_nil_of_le (Nat.le_refl _)] at HA
   have he : ((0 : Int), (0 : Int), (5 : Int)) = (r1, r2, r3) := HA.out.symm.trans HE2.out
   simp only [Prod.mk.injEq] at he
   obtain ⟨rfl, rfl, rfl⟩ := he
   exact ⟨rfl, HBw.out⟩
 have H0 := Lib.hid h0
 have hb : ((checkTank l0_0 a0_1) == 0) = false := by simpa using h0
 have hb' : ((checkTank l0_0 a0_1) != 0) = true := by simpa using h0
 have HE2 := Aside0.mk (show (0, 0, checkTank l0_0 a0_1) = (r1, r2, r3) by rw [← HE.out, if_neg h0])
 go_wp2
 rw [Exit.noGoto_ret]
 go_ret3
 have he := HE2.out
 simp only [Prod.mk.injEq] at he
 obtain ⟨rfl, rfl, rfl⟩ := he
 exact ⟨rfl, HB1.out⟩
end Go.Proofs.Ytpkajhmchcbbhaa.P
end
section
namespace Go.Proofs.Ytpkajhmchcbbhaa.P
open Go.RowKit Go.Proofs.YtpkajhmchcbbhaaW.PrintWords Go.Proofs.YtpkajhmchcbbhaaW.PrintLast Go.Proofs.YtpkajhmchcbbhaaW.PrintMore
theorem wrap_id {x : Int} (h : -9223372036854775808 ≤ x ∧ x ≤ 9223372036854775807) : wrap64 x = x := by unfold wrap64; omega
theorem fraction_l0 (x0 x1 : Int) (hx0 : -4611686018427387904 ≤ x0 ∧ x0 ≤ 4611686018427387904) (hx1 : -4611686018427387904 ≤ x1 ∧ x1 ≤ 4611686018427387904) (n : Nat) : ∀ (a b : Int), b.natAbs < n → (a ≠ 0 ∨ b ≠ 0) →
  Ev (fun k => forecourtref01_Fraction.l0 k x0 x1 a b) (x0.tdiv (gcdT a b), x1.tdiv (gcdT a b)) := by
 induction n with
 | zero => intro a b h _; omega
 | succ n ih =>
  intro a b h h0
  by_cases hb : b = 0
  ·subst hb
   refine Ev.step (f := fun _ => some _) (fun k => ?_) (Ev.now _)
   simp only [forecourtref01_Fraction.l0, if_true]
   rw [if_neg (by simpa using h0), gcdT_zero, tdiv_in _ _ hx0, tdiv_in _ _ hx1]
  refine Ev.step (f := fun k => forecourtref01_Fraction.l0 k x0 x1 b (a.tmod b)) (fun k => ?_) ?_
  ·simp only [forecourtref01_Fraction.l0]
   rw [if_neg hb]
  rw [gcdT_step a b hb]
  exact ih b _ (by have := tmod_abs a b hb; omega) (.inl hb)
theorem fraction_ev (a b : Int) (ha : -4611686018427387904 ≤ a ∧ a ≤ 4611686018427387904) (hb : -4611686018427387904 ≤ b ∧ b ≤ 4611686018427387904) (h0 : b ≠ 0) : Ev (fun k => forecourtref01_Fraction.f k a b) (leastN a b, leastD a b) :=
 fraction_l0 a b ha hb (b.natAbs + 1) a b (Nat.lt_succ_self _) (.inr h0)
end Go.Proofs.Ytpkajhmchcbbhaa.P
end
section
namespace Go.Proofs.Ytpkajhmchcbbhaa.P
open Go.RowKit Go.Proofs.YtpkajhmchcbbhaaW.PrintWords Go.Proofs.YtpkajhmchcbbhaaW.PrintLast Go.Proofs.YtpkajhmchcbbhaaW.PrintMore
theorem less_least {a b c d : Int} (ha : 0 ≤ a ∧ a ≤ 1000000000000) (hb : 1 ≤ b ∧ b ≤ 1000000000000) (hc : 0 ≤ c ∧ c ≤ 1000000000000) (hd : 1 ≤ d ∧ d ≤ 1000000000000) :
  forecourtref01_Less.f (leastN a b) (leastD a b) (leastN c d) (leastD c d) = some (decide (a * d < c * b)) := by
 obtain ⟨e1, p1, q1, r1, t1⟩ := frac_val ha.1 hb.1
 obtain ⟨e2, p2, q2, r2, t2⟩ := frac_val hc.1 hd.1
 unfold forecourtref01_Less.f
 rw [if_neg (by omega), if_pos (by omega)]
 congr 1
 refine decide_eq_decide.2 ?_
 generalize leastN a b = N1 at *
 generalize leastD a b = D1 at *
 generalize leastN c d = N2 at *
 generalize leastD c d = D2 at *
 have hbd : 0 < b * d := Int.mul_pos (by omega) (by omega)
 have hDD : 0 < D1 * D2 := Int.mul_pos (by omega) (by omega)
 have k1 : (b * d) * (N1 * D2) = (D1 * D2) * (a * d) := by
  rw [show (b * d) * (N1 * D2) = (N1 * b) * (D2 * d) by ac_rfl, e1]; ac_rfl
 have k2 : (b * d) * (N2 * D1) = (D1 * D2) * (c * b) := by
  rw [show (b * d) * (N2 * D1) = (N2 * d) * (D1 * b) by ac_rfl, e2]; ac_rfl
 constructor
 ·intro h
  have h1 := Int.mul_lt_mul_of_pos_left h hbd
  rw [k1, k2] at h1
  exact Int.lt_of_mul_lt_mul_left h1 (Int.le_of_lt hDD)
 intro h
 have h1 := Int.mul_lt_mul_of_pos_left h hDD
 rw [← k1, ← k2] at h1
 exact Int.lt_of_mul_lt_mul_left h1 (Int.le_of_lt hbd)
theorem warmest_ge {X Y0 Y1 w s : Int} (hw : w ≤ X) (h0 : 0 ≤ Y0) (hs0 : Y0 ≤ s) (hs1 : s ≤ Y1) : w * s ≤ warmest X Y0 Y1 := by
 have h1 : w * s ≤ X * s := Int.mul_le_mul_of_nonneg_right hw (by omega)
 unfold warmest
 split
 ·have h2 : X * s ≤ X * Y0 := Int.mul_le_mul_of_nonpos_left (by omega) hs0
  omega
 have h2 : X * s ≤ X * Y1 := Int.mul_le_mul_of_nonneg_left hs1 (by omega)
 omega
theorem coldest_le {X Y0 Y1 w s : Int} (hw : X ≤ w) (h0 : 0 ≤ Y0) (hs0 : Y0 ≤ s) (hs1 : s ≤ Y1) : coldest X Y0 Y1 ≤ w * s := by
 have h1 : X * s ≤ w * s := Int.mul_le_mul_of_nonneg_right hw (by omega)
 unfold coldest
 split
 ·have h2 : X * Y1 ≤ X * s := Int.mul_le_mul_of_nonpos_left (by omega) hs1
  omega
 have h2 : X * Y0 ≤ X * s := Int.mul_le_mul_of_nonneg_left hs0 (by omega)
 omega
theorem warmest_at {X Y0 Y1 : Int} (h : Y0 ≤ Y1) : ∃ s, Y0 ≤ s ∧ s ≤ Y1 ∧ warmest X Y0 Y1 = X * s := by
 unfold warmest; split
 ·exact ⟨Y0, Int.le_refl _, h, rfl⟩
 exact ⟨Y1, h, Int.le_refl _, rfl⟩
theorem coldest_at {X Y0 Y1 : Int} (h : Y0 ≤ Y1) : ∃ s, Y0 ≤ s ∧ s ≤ Y1 ∧ coldest X Y0 Y1 = X * s := by
 unfold coldest; split
 ·exact ⟨Y1, h, Int.le_refl _, rfl⟩
 exact ⟨Y0, Int.le_refl _, h, rfl⟩
theorem prod_in {w s : Int} (hw : -400 ≤ w ∧ w ≤ 400) (hs : 0 ≤ s ∧ s ≤ 200) : -80000 ≤ w * s ∧ w * s ≤ 80000 := by
 have h1 : w * s ≤ 400 * s := Int.mul_le_mul_of_nonneg_right hw.2 hs.1
 have h2 : -400 * s ≤ w * s := Int.mul_le_mul_of_nonneg_right hw.1 hs.1
 omega
structure Warm (n m W0 W1 S0 S1 X0 X1 Y0 Y1 p q : Int) : Prop where
 n0 : 0 ≤ n
 nm : n ≤ m
 m1 : m ≤ 100000
 x0 : -400 ≤ X0
 xw : X0 ≤ W0
 wp : W0 ≤ p
 pw : p ≤ W1
 wx : W1 ≤ X1
 x1 : X1 ≤ 400
 y0 : 0 ≤ Y0
 ys : Y0 ≤ S0
 sq : S0 ≤ q
 qs : q ≤ S1
 sy : S1 ≤ Y1
 y1 : Y1 ≤ 200
def wLo1 (n W1 S0 S1 : Int) : Int := leastN (1000000 * n) (1000000 + warmest W1 S0 S1)
def wLo2 (n W1 S0 S1 : Int) : Int := leastD (1000000 * n) (1000000 + warmest W1 S0 S1)
def wHi1 (n W0 S0 S1 : Int) : Int := leastN (1000000 * n) (1000000 + coldest W0 S0 S1)
def wHi2 (n W0 S0 S1 : Int) : Int := leastD (1000000 * n) (1000000 + coldest W0 S0 S1)
theorem common_val {n a b c d : Int} (hn : 0 ≤ n ∧ n ≤ 100000) (ha : -400 ≤ a) (hab : a ≤ b) (hb : b ≤ 400) (hc : 0 ≤ c) (hcd : c ≤ d) (hd : d ≤ 200) :
  common5.f n a b c d = some (wLo1 n b c d, wLo2 n b c d, wHi1 n a c d, wHi2 n a c d, 0) := by
 have h1 : inB 0 100000 n = true := (inB_iff _ _ _).2 hn
 have h2 : isR (-400) 400 a b = true := by unfold isR; simp [inB_iff]; omega
 have h3 : isR 0 200 c d = true := by unfold isR; simp [inB_iff]; omega
 unfold common5.f
 rw [if_neg (by rw [h1]; simp), if_neg (by rw [h2]; simp), if_neg (by rw [h3]; simp)]
 rfl
theorem frac_n {n : Int} (hn : 0 ≤ n) : leastN (1000000 * n) 1000000 = n ∧ leastD (1000000 * n) 1000000 = 1 := by
 obtain ⟨e1, e2⟩ := frac_eq (a := 1000000 * n) (b := 1000000) (c := n) (d := 1) (by omega) (by omega) hn (by omega) (by omega)
 obtain ⟨a, rfl⟩ := Int.eq_ofNat_of_zero_le hn
 have h1 := leastN_nat a 1
 have h2 := leastD_nat a 1
 rw [Nat.gcd_one_right, Nat.div_one] at h1 h2
 exact ⟨e1.trans h1, e2.trans h2⟩
theorem less_no {n m s t : Int} (hn : 0 ≤ n) (hm : m ≤ 100000) (hnm : n ≤ m) (hs : -80000 ≤ s) (hst : s ≤ t) (ht : t ≤ 80000) :
  forecourtref01_Less.f (leastN (1000000 * m) (1000000 + s)) (leastD (1000000 * m) (1000000 + s)) (leastN (1000000 * n) (1000000 + t)) (leastD (1000000 * n) (1000000 + t)) = some false := by
 rw [less_least (by omega) (by omega) (by omega) (by omega)]
 congr 1
 refine decide_eq_false ?_
 have h1 : 1000000 * n * (1000000 + s) ≤ 1000000 * m * (1000000 + s) := Int.mul_le_mul_of_nonneg_right (by omega) (by omega)
 have h2 : 1000000 * m * (1000000 + s) ≤ 1000000 * m * (1000000 + t) := Int.mul_le_mul_of_nonneg_left (by omega) (by omega)
 omega
section
variable {n m W0 W1 S0 S1 X0 X1 Y0 Y1 p q : Int}
theorem Warm.w_in (h : Warm n m W0 W1 S0 S1 X0 X1 Y0 Y1 p q) : -80000 ≤ coldest W0 S0 S1 ∧ warmest W1 S0 S1 ≤ 80000 ∧ -80000 ≤ coldest X0 Y0 Y1 ∧ warmest X1 Y0 Y1 ≤ 80000 ∧ coldest W0 S0 S1 ≤ warmest W1 S0 S1 ∧
  coldest X0 Y0 Y1 ≤ coldest W0 S0 S1 ∧ warmest W1 S0 S1 ≤ warmest X1 Y0 Y1 ∧ coldest W0 S0 S1 ≤ p * q ∧ p * q ≤ warmest W1 S0 S1 := by
 obtain ⟨n0, nm, m1, x0, xw, wp, pw, wx, x1, y0, ys, sq, qs, sy, y1⟩ := h
 obtain ⟨a, a0, a1, ea⟩ := warmest_at (X := W1) (show S0 ≤ S1 by omega)
 obtain ⟨b, b0, b1, eb⟩ := coldest_at (X := W0) (show S0 ≤ S1 by omega)
 obtain ⟨c, c0, c1, ec⟩ := warmest_at (X := X1) (show Y0 ≤ Y1 by omega)
 obtain ⟨d, d0, d1, ed⟩ := coldest_at (X := X0) (show Y0 ≤ Y1 by omega)
 have u1 := warmest_ge (X := X1) (Y0 := Y0) (Y1 := Y1) (w := W1) (s := a) wx y0 (by omega) (by omega)
 have u2 := coldest_le (X := X0) (Y0 := Y0) (Y1 := Y1) (w := W0) (s := b) xw y0 (by omega) (by omega)
 have u3 := warmest_ge (X := W1) (Y0 := S0) (Y1 := S1) (w := p) (s := q) pw (by omega) sq qs
 have u4 := coldest_le (X := W0) (Y0 := S0) (Y1 := S1) (w := p) (s := q) wp (by omega) sq qs
 have v1 := prod_in (w := W1) (s := a) (by omega) (by omega)
 have v2 := prod_in (w := W0) (s := b) (by omega) (by omega)
 have v3 := prod_in (w := X1) (s := c) (by omega) (by omega)
 have v4 := prod_in (w := X0) (s := d) (by omega) (by omega)
 omega
theorem Warm.in1 (h : Warm n m W0 W1 S0 S1 X0 X1 Y0 Y1 p q) : forecourtref01_Less.f (wLo1 n W1 S0 S1) (wLo2 n W1 S0 S1) (wLo1 n X1 Y0 Y1) (wLo2 n X1 Y0 Y1) = some false := by
 obtain ⟨a1, a2, a3, a4, a5, a6, a7, a8, a9⟩ := h.w_in
 obtain ⟨n0, nm, m1, -⟩ := h
 exact less_no n0 (by omega) (Int.le_refl n) (by omega) a7 a4
theorem Warm.in2 (h : Warm n m W0 W1 S0 S1 X0 X1 Y0 Y1 p q) : forecourtref01_Less.f (wHi1 n X0 Y0 Y1) (wHi2 n X0 Y0 Y1) (wHi1 n W0 S0 S1) (wHi2 n W0 S0 S1) = some false := by
 obtain ⟨a1, a2, a3, a4, a5, a6, a7, a8, a9⟩ := h.w_in
 obtain ⟨n0, nm, m1, -⟩ := h
 exact less_no n0 (by omega) (Int.le_refl n) a3 a6 (by omega)
theorem Warm.in3 (h : Warm n m W0 W1 S0 S1 X0 X1 Y0 Y1 p q) : forecourtref01_Less.f (wHi1 n W0 S0 S1) (wHi2 n W0 S0 S1) (wLo1 n W1 S0 S1) (wLo2 n W1 S0 S1) = some false := by
 obtain ⟨a1, a2, a3, a4, a5, a6, a7, a8, a9⟩ := h.w_in
 obtain ⟨n0, nm, m1, -⟩ := h
 exact less_no n0 (by omega) (Int.le_refl n) a1 a5 a2
theorem Warm.more_lo (h : Warm n m W0 W1 S0 S1 X0 X1 Y0 Y1 p q) : forecourtref01_Less.f (wLo1 m W1 S0 S1) (wLo2 m W1 S0 S1) (wLo1 n W1 S0 S1) (wLo2 n W1 S0 S1) = some false := by
 obtain ⟨a1, a2, a3, a4, a5, a6, a7, a8, a9⟩ := h.w_in
 obtain ⟨n0, nm, m1, -⟩ := h
 exact less_no n0 m1 nm (by omega) (Int.le_refl _) a2
theorem Warm.more_hi (h : Warm n m W0 W1 S0 S1 X0 X1 Y0 Y1 p q) : forecourtref01_Less.f (wHi1 m W0 S0 S1) (wHi2 m W0 S0 S1) (wHi1 n W0 S0 S1) (wHi2 n W0 S0 S1) = some false := by
 obtain ⟨a1, a2, a3, a4, a5, a6, a7, a8, a9⟩ := h.w_in
 obtain ⟨n0, nm, m1, -⟩ := h
 exact less_no n0 m1 nm a1 (Int.le_refl _) (by omega)
theorem Warm.in_lo (h : Warm n m W0 W1 S0 S1 X0 X1 Y0 Y1 p q) : forecourtref01_Less.f (leastN (1000000 * n) (1000000 + p * q)) (leastD (1000000 * n) (1000000 + p * q)) (wLo1 n W1 S0 S1) (wLo2 n W1 S0 S1) = some false := by
 obtain ⟨a1, a2, a3, a4, a5, a6, a7, a8, a9⟩ := h.w_in
 obtain ⟨n0, nm, m1, -⟩ := h
 exact less_no n0 (by omega) (Int.le_refl n) (by omega) a9 a2
theorem Warm.in_hi (h : Warm n m W0 W1 S0 S1 X0 X1 Y0 Y1 p q) : forecourtref01_Less.f (wHi1 n W0 S0 S1) (wHi2 n W0 S0 S1) (leastN (1000000 * n) (1000000 + p * q)) (leastD (1000000 * n) (1000000 + p * q)) = some false := by
 obtain ⟨a1, a2, a3, a4, a5, a6, a7, a8, a9⟩ := h.w_in
 obtain ⟨n0, nm, m1, -⟩ := h
 exact less_no n0 (by omega) (Int.le_refl n) a1 a8 (by omega)
theorem Warm.c1 (h : Warm n m W0 W1 S0 S1 X0 X1 Y0 Y1 p q) : common5.f n W0 W1 S0 S1 = some (wLo1 n W1 S0 S1, wLo2 n W1 S0 S1, wHi1 n W0 S0 S1, wHi2 n W0 S0 S1, 0) := by
 obtain ⟨n0, nm, m1, x0, xw, wp, pw, wx, x1, y0, ys, sq, qs, sy, y1⟩ := h
 exact common_val (by omega) (by omega) (by omega) (by omega) (by omega) (by omega) (by omega)
theorem Warm.c2 (h : Warm n m W0 W1 S0 S1 X0 X1 Y0 Y1 p q) : common5.f n X0 X1 Y0 Y1 = some (wLo1 n X1 Y0 Y1, wLo2 n X1 Y0 Y1, wHi1 n X0 Y0 Y1, wHi2 n X0 Y0 Y1, 0) := by
 obtain ⟨n0, nm, m1, x0, xw, wp, pw, wx, x1, y0, ys, sq, qs, sy, y1⟩ := h
 exact common_val (by omega) (by omega) (by omega) (by omega) (by omega) (by omega) (by omega)
theorem Warm.c3 (h : Warm n m W0 W1 S0 S1 X0 X1 Y0 Y1 p q) : common5.f m W0 W1 S0 S1 = some (wLo1 m W1 S0 S1, wLo2 m W1 S0 S1, wHi1 m W0 S0 S1, wHi2 m W0 S0 S1, 0) := by
 obtain ⟨n0, nm, m1, x0, xw, wp, pw, wx, x1, y0, ys, sq, qs, sy, y1⟩ := h
 exact common_val (by omega) (by omega) (by omega) (by omega) (by omega) (by omega) (by omega)
theorem Warm.c4 (h : Warm n m W0 W1 S0 S1 X0 X1 Y0 Y1 p q) : common5.f n W0 W1 0 0 = some (n, 1, n, 1, 0) := by
 obtain ⟨n0, nm, m1, x0, xw, wp, pw, wx, x1, y0, ys, sq, qs, sy, y1⟩ := h
 rw [common_val (by omega) (by omega) (by omega) (by omega) (by omega) (by omega) (by omega)]
 have e1 : warmest W1 0 0 = 0 := by unfold warmest; split <;> simp
 have e2 : coldest W0 0 0 = 0 := by unfold coldest; split <;> simp
 unfold wLo1 wLo2 wHi1 wHi2
 rw [e1, e2, show (1000000 : Int) + 0 = 1000000 from rfl, (frac_n n0).1, (frac_n n0).2]
theorem Warm.c5 (h : Warm n m W0 W1 S0 S1 X0 X1 Y0 Y1 p q) : common5.f n 0 0 S0 S1 = some (n, 1, n, 1, 0) := by
 obtain ⟨n0, nm, m1, x0, xw, wp, pw, wx, x1, y0, ys, sq, qs, sy, y1⟩ := h
 rw [common_val (by omega) (by omega) (by omega) (by omega) (by omega) (by omega) (by omega)]
 have e1 : warmest 0 S0 S1 = 0 := by unfold warmest; split <;> simp
 have e2 : coldest 0 S0 S1 = 0 := by unfold coldest; split <;> simp
 unfold wLo1 wLo2 wHi1 wHi2
 rw [e1, e2, show (1000000 : Int) + 0 = 1000000 from rfl, (frac_n n0).1, (frac_n n0).2]
theorem Warm.v (h : Warm n m W0 W1 S0 S1 X0 X1 Y0 Y1 p q) : Ev (fun k => forecourtref01_Fraction.f k (1000000 * n) (1000000 + p * q)) (leastN (1000000 * n) (1000000 + p * q), leastD (1000000 * n) (1000000 + p * q)) := by
 obtain ⟨a1, a2, a3, a4, a5, a6, a7, a8, a9⟩ := h.w_in
 obtain ⟨n0, nm, m1, -⟩ := h
 exact fraction_ev _ _ (by omega) (by omega) (by omega)
end
end Go.Proofs.Ytpkajhmchcbbhaa.P
end
