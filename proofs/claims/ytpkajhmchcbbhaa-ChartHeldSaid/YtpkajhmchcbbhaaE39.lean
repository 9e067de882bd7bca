/- Part 39 of 45. -/
import Derived.Test.YtpkajhmchcbbhaaE33
import Derived.Test.YtpkajhmchcbbhaaE36
import Derived.Test.YtpkajhmchcbbhaaE22
import Derived.Test.YtpkajhmchcbbhaaE32
set_option linter.unusedSimpArgs false
set_option linter.unusedVariables false
section
namespace Go.Proofs.Ytpkajhmchcbbhaa.P
open Go.RowKit Go.Proofs.YtpkajhmchcbbhaaW.PrintWords Go.Proofs.YtpkajhmchcbbhaaW.PrintLast Go.Proofs.YtpkajhmchcbbhaaW.PrintMore
theorem less_frac {a b c d : Int} (ha : 0 ≤ a ∧ a ≤ 4611686018427387904) (hb : 1 ≤ b ∧ b ≤ 4611686018427387904) (hc : 0 ≤ c ∧ c ≤ 4611686018427387904) (hd : 1 ≤ d ∧ d ≤ 4611686018427387904) (h : c * b ≤ a * d) :
  forecourtref01_Less.f (leastN a b) (leastD a b) (leastN c d) (leastD c d) = some false := by
 obtain ⟨e1, p1, q1, r1, t1⟩ := frac_val ha.1 hb.1
 obtain ⟨e2, p2, q2, r2, t2⟩ := frac_val hc.1 hd.1
 unfold forecourtref01_Less.f
 rw [if_neg (by omega), if_pos (by omega)]
 congr 1
 refine decide_eq_false fun hlt => ?_
 generalize leastN a b = N1 at *
 generalize leastD a b = D1 at *
 generalize leastN c d = N2 at *
 generalize leastD c d = D2 at *
 have hbd : 0 < b * d := Int.mul_pos (by omega) (by omega)
 have hDD : 0 ≤ D1 * D2 := Int.mul_nonneg (by omega) (by omega)
 have k1 : (b * d) * (N1 * D2) = (D1 * D2) * (a * d) := by
  rw [show (b * d) * (N1 * D2) = (N1 * b) * (D2 * d) by ac_rfl, e1]; ac_rfl
 have k2 : (b * d) * (N2 * D1) = (D1 * D2) * (c * b) := by
  rw [show (b * d) * (N2 * D1) = (N2 * d) * (D1 * b) by ac_rfl, e2]; ac_rfl
 have h1 := Int.mul_lt_mul_of_pos_left hlt hbd
 have h2 := Int.mul_le_mul_of_nonneg_left h hDD
 rw [k1, k2] at h1
 omega
section
variable {l : List SRow} {p : Int} {water level : Int}
theorem bw_wv (hT : TankOk l p) (d0 d1 : Int) (f : Nat → Int) : wsum l.length (bwF l d0 d1) f = wv l d1 f * wden l d0 - wv l d0 f * wden l d1 := by
 have h16 := hT.n16
 unfold wsum wv
 rw [sumN_congr (g := fun x => wden l d0 * ((wts l d1).getD x 0 * f x) + (-wden l d1) * ((wts l d0).getD x 0 * f x)) (fun x hx => by
  unfold bwF
  rw [bw_at l _ _ x (by omega)]
  exact ring_a _ _ _ _ _), sumN_add, sumN_mul, sumN_mul, Int.neg_mul, Int.mul_comm (wden l d0), Int.mul_comm (wden l d1)]
 omega
theorem wden_le (hT : TankOk l p) (d : Int) : wden l d ≤ 4000 := by
 obtain ⟨p1, p2, _, _⟩ := pos_spec hT.n2 d
 have h1 := hT.top (pos l d) p2
 have h2 := hT.low (pos l d - 1) (by omega)
 unfold wden; omega
theorem bden_le (hT : TankOk l p) (d0 d1 : Int) : bden l d0 d1 ≤ 16000000 := by
 have h1 := hT.wden_pos d0
 have h2 := wden_le hT d0
 have h3 := hT.wden_pos d1
 have h4 := wden_le hT d1
 have := (mul_in (by omega) (show 0 ≤ wden l d0 ∧ wden l d0 ≤ 4000 by omega) (show 0 ≤ wden l d1 ∧ wden l d1 ≤ 4000 by omega)).2
 unfold bden; omega
theorem wv_in (hT : TankOk l p) {d : Int} (h0 : firstD l ≤ d) (h1 : d ≤ lastD l) {c : List Int} (hc : Chart l c) : 0 ≤ wv l d (fun i => c.getD i 0) ∧ wv l d (fun i => c.getD i 0) ≤ 400000000 := by
 have hw := wden_le hT d
 constructor
 ·have := wv_le hT h0 h1 (c := fun _ => 0) (e := fun i => c.getD i 0) (fun i hi => (hc.getIn hT i hi).1)
  have e : wv l d (fun _ => 0) = 0 := by unfold wv; rw [sumN_congr (g := fun _ => 0) (fun i _ => Int.mul_zero _), sumN_zero]
  omega
 have := wv_le hT h0 h1 (c := fun i => c.getD i 0) (e := fun _ => 100000) (fun i hi => (hc.getIn hT i hi).2)
 have e : wv l d (fun _ => 100000) = 100000 * wden l d := by
  unfold wv; rw [sumN_congr (g := fun i => 100000 * (wts l d).getD i 0) (fun i _ => Int.mul_comm _ _), sumN_mul, wts_sum hT]
 omega
theorem bw_in (hT : TankOk l p) {d0 d1 : Int} (h0 : firstD l ≤ d0) (h01 : d0 ≤ d1) (h1 : d1 ≤ lastD l) {c : List Int} (hc : Chart l c) : 0 ≤ wsum l.length (bwF l d0 d1) (fun i => c.getD i 0) ∧ wsum l.length (bwF l d0 d1) (fun i => c.getD i 0) ≤ 1600000000000 := by
 constructor
 ·obtain ⟨s, hS, _⟩ := bw_signs hT h0 h01 h1
  exact wsum_nonneg hS hc.up
 rw [bw_wv hT]
 have a := wv_in hT h0 (by omega) hc
 have b := wv_in hT (show firstD l ≤ d1 by omega) h1 hc
 have w0 := hT.wden_pos d0
 have w1 := hT.wden_pos d1
 have w2 := wden_le hT d0
 have m1 := (mul_in (by omega) b (show 0 ≤ wden l d0 ∧ wden l d0 ≤ 4000 by omega)).2
 have m2 : 0 ≤ wv l d0 (fun i => c.getD i 0) * wden l d1 := Int.mul_nonneg a.1 (by omega)
 omega
theorem bw_wide (hT : TankOk l p) {P a b Q : Int} (h0 : firstD l ≤ P) (h1 : P ≤ a) (h2 : a ≤ b) (h3 : b ≤ Q) (h4 : Q ≤ lastD l) {f : Nat → Int} (hf : Up l.length f) :
  wsum l.length (bwF l a b) f * bden l P Q ≤ wsum l.length (bwF l P Q) f * bden l a b := by
 have m1 := wv_mono hT h0 h1 (by omega) hf
 have m2 := wv_mono hT (show firstD l ≤ b by omega) h3 h4 hf
 have wP := hT.wden_pos P
 have wa := hT.wden_pos a
 have wb := hT.wden_pos b
 have wQ := hT.wden_pos Q
 rw [bw_wv hT, bw_wv hT]
 unfold bden
 generalize wv l P f = VP at *
 generalize wv l a f = VA at *
 generalize wv l b f = VB at *
 generalize wv l Q f = VQ at *
 generalize wden l P = P at *
 generalize wden l a = A at *
 generalize wden l b = B at *
 generalize wden l Q = Q at *
 have n1 : VP * A * (Q * B) ≤ VA * P * (Q * B) := Int.mul_le_mul_of_nonneg_right m1 (Int.mul_nonneg (by omega) (by omega))
 have n2 : VB * Q * (P * A) ≤ VQ * B * (P * A) := Int.mul_le_mul_of_nonneg_right m2 (Int.mul_nonneg (by omega) (by omega))
 have k1 : VB * A * (P * Q) = VB * Q * (P * A) := by ac_rfl
 have k2 : VA * B * (P * Q) = VA * P * (Q * B) := by ac_rfl
 have k3 : VQ * P * (A * B) = VQ * B * (P * A) := by ac_rfl
 have k4 : VP * Q * (A * B) = VP * A * (Q * B) := by ac_rfl
 rw [Int.sub_mul, Int.sub_mul, k1, k2, k3, k4]
 omega
structure HeldEnd (l : List SRow) (p water level : Int) (k : Nat) (high : Bool) (n1 n2 : Int) (x : List Int) (d0 d1 u1 u2 v1 v2 z1 z2 : Int) : Prop where
 fin : chart_End.f l p water level high = some (x, d0, d1, 0)
 len : x.length = l.length
 check : chart_CheckChart.f k l p x = some 0
 reached : forecourtlaw01_reached.f k l p water level x d0 d1 n1 n2 = some true
 b0 : chart_Below.f l p x d0 = some (u1, u2, 0)
 b1 : chart_Below.f l p x d1 = some (v1, v2, 0)
 btw : forecourtref01_Between.f k l p x (dipN l 0) d0 = some (z1, z2)
 same : x.getD 0 0 = 0 → u1 = z1 ∧ u2 = z2
 less : forecourtref01_Less.f v1 v2 u1 u2 = some false
 x64 : 0 ≤ x.getD 0 0 ∧ x.getD 0 0 ≤ 100000
theorem end_facts (hF : Fine l p) {x : List Int} (hx : Chart l x) {d0 d1 : Int} (h0 : firstD l ≤ d0) (h01 : d0 ≤ d1) (h1 : d1 ≤ lastD l) : ∃ K u1 u2 v1 v2 z1 z2, chart_Below.f l p x d0 = some (u1, u2, 0) ∧ chart_Below.f l p x d1 = some (v1, v2, 0) ∧
  (∀ k, K ≤ k → chart_CheckChart.f k l p x = some 0 ∧ forecourtref01_Between.f k l p x (dipN l 0) d0 = some (z1, z2)) ∧ (x.getD 0 0 = 0 → u1 = z1 ∧ u2 = z2) ∧ forecourtref01_Less.f v1 v2 u1 u2 = some false := by
 have hT := hF.tank
 have hn := hT.n2
 have hcc := (chart_of hT hx.len hx.inn hx.up).2 hF.check
 have hb : ∀ d, firstD l ≤ d → d ≤ lastD l → chart_Below.f l p x d = some (leastN (wv l d (fun i => x.getD i 0)) (wden l d), leastD (wv l d (fun i => x.getD i 0)) (wden l d), 0) := fun d a b => by
  unfold chart_Below.f
  rw [if_neg (by simp [hcc]), if_neg (by rw [(inB_iff _ _ _).2 ⟨a, b⟩]; simp), dot_wv hT d x hx.len]
 obtain ⟨K1, e1⟩ := chartCheck_ev l p x
 obtain ⟨K2, e2⟩ := refBetween_ev hT p (Int.le_refl (firstD l)) h0 (by omega) hx
 have w0 := hT.wden_pos d0
 have w1 := hT.wden_pos d1
 have w2 := wden_le hT d0
 have w3 := wden_le hT d1
 have a := wv_in hT h0 (by omega) hx
 have b := wv_in hT (show firstD l ≤ d1 by omega) h1 hx
 refine ⟨max K1 K2, _, _, _, _, _, _, hb d0 h0 (by omega), hb d1 (by omega) h1, fun k hk => ⟨?_, e2 k (by omega)⟩, fun hz => ?_, ?_⟩
 ·have := e1 k (by omega); rw [hcc] at this; exact this
 ·have hwf := hT.wden_pos (firstD l)
  have e3 : wv l (firstD l) (fun i => x.getD i 0) = 0 := by
   have := wts_row hT 0 (by omega) (fun i => x.getD i 0)
   simp only [hz, Int.zero_mul] at this
   exact this
  have e4 : wsum l.length (bwF l (firstD l) d0) (fun i => x.getD i 0) = wv l d0 (fun i => x.getD i 0) * wden l (firstD l) := by
   rw [bw_wv hT, e3]; omega
  rw [e4]
  refine frac_eq a.1 w0 (Int.mul_nonneg a.1 (by omega)) (bden_pos hT _ _) ?_
  unfold bden
  ac_rfl
 refine less_frac (by omega) (by omega) (by omega) (by omega) ?_
 exact wv_mono hT h0 h01 h1 hx.up
theorem held_end (hA : Asked l p water level) (hF : Fine l p) (high : Bool) {n1 n2 n3 n4 : Int} (hnet : chart_Net.f l p water level = some (n1, n2, n3, n4, 0)) :
  ∃ K x d0 d1 u1 u2 v1 v2 z1 z2, ∀ k, K ≤ k → HeldEnd l p water level k high (if high then n3 else n1) (if high then n4 else n2) x d0 d1 u1 u2 v1 v2 z1 z2 := by
 have hT := hF.tank
 have h16 := hT.n16
 have hn2 := hT.n2
 have he : endsE l p water level = 0 := by
  by_cases h : endsE l p water level = 0
  ·exact h
  unfold chart_Net.f at hnet
  rw [if_pos h] at hnet
  simp only [Option.some.injEq, Prod.mk.injEq] at hnet
  omega
 unfold chart_Net.f at hnet
 rw [if_neg (show ¬ endsE l p water level ≠ 0 by simp [he])] at hnet
 simp only [Option.some.injEq, Prod.mk.injEq] at hnet
 obtain ⟨e1, e2, e3, e4, -⟩ := hnet
 obtain ⟨t1, t2, t3, t4, t5, t6, t7, t8⟩ := hA.dips
 cases high with
 | true =>
  obtain ⟨s, hsl, em, hg, _, _⟩ := most_all (d0 := trueLo l p water) (d1 := trueHi l p level) hT hA.tight t1 hA.order t8
  obtain ⟨hch, hw⟩ := take_chart h16 (mostC_length h16 _ _) (extL_chart (by omega) hA.tight _ (thr_mem l s hsl)) hg
  obtain ⟨K1, hre⟩ := reached_ev (d0 := trueLo l p water) (d1 := trueHi l p level) hA (by omega) hch (Int.le_refl _) (by omega) (by omega) (Int.le_refl _) hA.order
  obtain ⟨K2, u1, u2, v1, v2, z1, z2, b0, b1, hk, hs, hl⟩ := end_facts hF hch (d0 := trueLo l p water) (d1 := trueHi l p level) t1 hA.order t8
  refine ⟨max K1 K2, (mostC l (trueLo l p water) (trueHi l p level)).take l.length, trueLo l p water, trueHi l p level, u1, u2, v1, v2, z1, z2, fun k hkk => ⟨?_, hch.len, (hk k (by omega)).1, ?_, b0, b1, (hk k (by omega)).2, hs, hl, hch.getIn hT 0 (by omega)⟩⟩
  ·unfold chart_End.f
   rw [if_neg (show ¬ endsE l p water level ≠ 0 by simp [he]), if_pos rfl]
   rfl
  have h2 := hre k (by omega)
  simp only [if_true]
  rw [← e3, ← e4]
  simp only at h2
  rw [hw, ← em] at h2
  exact h2
 | false =>
  obtain ⟨q1, q2, q3, q4, q5⟩ := lowDips_in hA
  obtain ⟨u, hu, f2, em, hg, _, _⟩ := few_all hT hA.tight (show firstD l ≤ (lowDips l p water level).1 by omega) q5 (show (lowDips l p water level).2 ≤ lastD l by omega)
  obtain ⟨hch, hw⟩ := take_chart h16 (nearC_length h16 u) (extL_chart (by omega) hA.tight _ (near_mem l u hu)) hg
  obtain ⟨K1, hre⟩ := reached_ev hA (by omega) hch q1 q2 q3 q4 q5
  obtain ⟨K2, u1, u2, v1, v2, z1, z2, b0, b1, hk, hs, hl⟩ := end_facts hF hch (show firstD l ≤ (lowDips l p water level).1 by omega) q5 (show (lowDips l p water level).2 ≤ lastD l by omega)
  rw [← f2] at hch b0 b1 hk hs hw
  refine ⟨max K1 K2, (fewR l (lowDips l p water level).1 (lowDips l p water level).2).2.take l.length, (lowDips l p water level).1, (lowDips l p water level).2, u1, u2, v1, v2, z1, z2, fun k hkk => ⟨?_, hch.len, (hk k (by omega)).1, ?_, b0, b1, (hk k (by omega)).2, hs, hl, hch.getIn hT 0 (by omega)⟩⟩
  ·unfold chart_End.f
   rw [if_neg (show ¬ endsE l p water level ≠ 0 by simp [he]), if_neg (by simp)]
  have h2 := hre k (by omega)
  simp only [Bool.false_eq_true, if_false]
  rw [← e1, ← e2]
  simp only at h2
  rw [← f2, hw, ← em] at h2
  exact h2
theorem held_span (hA : Asked l p water level) (hF : Fine l p) {n1 n2 n3 n4 : Int} (hnet : chart_Net.f l p water level = some (n1, n2, n3, n4, 0)) {c : List Int} (hc : Chart l c) {a b : Int} (a0 : trueLo l p water ≤ a) (a1 : a ≤ trueHi l p water) (b0 : trueLo l p level ≤ b) (b1 : b ≤ trueHi l p level) (hab : a ≤ b) :
  ∃ K x1 x2, (∀ k, K ≤ k → forecourtref01_Between.f k l p c a b = some (x1, x2)) ∧ forecourtref01_Less.f x1 x2 n1 n2 = some false ∧ forecourtref01_Less.f n3 n4 x1 x2 = some false := by
 have hT := hF.tank
 have hn2 := hT.n2
 have he : endsE l p water level = 0 := by
  by_cases h : endsE l p water level = 0
  ·exact h
  unfold chart_Net.f at hnet
  rw [if_pos h] at hnet
  simp only [Option.some.injEq, Prod.mk.injEq] at hnet
  omega
 unfold chart_Net.f at hnet
 rw [if_neg (show ¬ endsE l p water level ≠ 0 by simp [he])] at hnet
 simp only [Option.some.injEq, Prod.mk.injEq] at hnet
 obtain ⟨rfl, rfl, rfl, rfl, -⟩ := hnet
 obtain ⟨t1, t2, t3, t4, t5, t6, t7, t8⟩ := hA.dips
 obtain ⟨K, hK⟩ := refBetween_ev hT p (show firstD l ≤ a by omega) hab (show b ≤ lastD l by omega) hc
 have hx := bw_in hT (show firstD l ≤ a by omega) hab (show b ≤ lastD l by omega) hc
 have hd1 := bden_pos hT a b
 have hd2 := bden_le hT a b
 obtain ⟨q1, q2, q3, q4, q5⟩ := lowDips_in hA
 obtain ⟨u, hu, f2, em, hg, hmin, hfn⟩ := few_all hT hA.tight (show firstD l ≤ (lowDips l p water level).1 by omega) q5 (show (lowDips l p water level).2 ≤ lastD l by omega)
 obtain ⟨s, hsl, em2, hg2, hmax, hmn⟩ := most_all (d0 := trueLo l p water) (d1 := trueHi l p level) hT hA.tight t1 hA.order t8
 have hfew := hmin c hc
 have hlo := bw_in hT (show firstD l ≤ (lowDips l p water level).1 by omega) q5 (show (lowDips l p water level).2 ≤ lastD l by omega) hc
 have hth := bw_in hT t1 hA.order t8 (extL_chart (by omega) hA.tight _ (thr_mem l s hsl))
 have hl1 := bden_pos hT (lowDips l p water level).1 (lowDips l p water level).2
 have hl2 := bden_le hT (lowDips l p water level).1 (lowDips l p water level).2
 have hh1 := bden_pos hT (trueLo l p water) (trueHi l p level)
 have hh2 := bden_le hT (trueLo l p water) (trueHi l p level)
 refine ⟨K, _, _, hK, ?_, ?_⟩
 ·refine less_frac (by omega) (by omega) (by omega) (by omega) ?_
  by_cases h : trueHi l p water < trueLo l p level
  ·have e : lowDips l p water level = (trueHi l p water, trueLo l p level) := by unfold lowDips; rw [if_pos h]
   rw [e] at hfew ⊢
   simp only at hfew ⊢
   have hw := bw_wide hT (show firstD l ≤ a by omega) a1 (Int.le_of_lt h) b0 (by omega) hc.up
   have h3 : (fewR l (trueHi l p water) (trueLo l p level)).1 * bden l a b ≤ wsum l.length (bwF l (trueHi l p water) (trueLo l p level)) (fun i => c.getD i 0) * bden l a b := Int.mul_le_mul_of_nonneg_right hfew (by omega)
   omega
  have e : (lowDips l p water level).1 = (lowDips l p water level).2 := by unfold lowDips; rw [if_neg h]
  have e0 : wsum l.length (bwF l (lowDips l p water level).1 (lowDips l p water level).2) (fun i => c.getD i 0) = 0 := by
   rw [bw_wv hT, e]; omega
  have ef : (fewR l (lowDips l p water level).1 (lowDips l p water level).2).1 = 0 := by omega
  rw [ef, Int.zero_mul]
  exact Int.mul_nonneg hx.1 (by omega)
 have h4 : highDips l p water level = (trueLo l p water, trueHi l p level) := rfl
 rw [h4]
 simp only
 refine less_frac (by omega) (by omega) (by omega) (by omega) ?_
 have hw := bw_wide hT t1 a0 hab b1 t8 hc.up
 have h3 : wsum l.length (bwF l (trueLo l p water) (trueHi l p level)) (fun i => c.getD i 0) * bden l a b ≤ (mostR l (trueLo l p water) (trueHi l p level)).1 * bden l a b := Int.mul_le_mul_of_nonneg_right (hmax c hc) (by omega)
 omega
end
end Go.Proofs.Ytpkajhmchcbbhaa.P
end
