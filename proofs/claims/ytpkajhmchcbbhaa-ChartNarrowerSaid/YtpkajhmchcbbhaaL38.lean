/- Part 38 of 44. -/
import Derived.Test.YtpkajhmchcbbhaaL32
import Derived.Test.YtpkajhmchcbbhaaL35
import Derived.Test.YtpkajhmchcbbhaaL21
import Derived.Test.YtpkajhmchcbbhaaL31
set_option linter.unusedSimpArgs false
set_option linter.unusedVariables false
section
namespace Go.Proofs.Ytpkajhmchcbbhaa.P
open Go.RowKit Go.Proofs.YtpkajhmchcbbhaaW.PrintWords Go.Proofs.YtpkajhmchcbbhaaW.PrintLast Go.Proofs.YtpkajhmchcbbhaaW.PrintMore
theorem less_frac {a b c d : Int} (ha : 0 ≤ a ∧ a ≤ 4611686018427387904) (hb : 1 ≤ b ∧ b ≤ 4611686018427387904) (hc : 0 ≤ c ∧ c ≤ 4611686018427387904) (hd : 1 ≤ d ∧ d ≤ 4611686018427387904) (h : c * b ≤ a * d) :
  forecourtref01_Less.f (leastN a b) (leastD a b) (leastN c d) (leastD c d) = some false := by
 obtain ⟨e1, p1, q1, r1, t1⟩ := frac_val ha.1 hb.1
 obtain ⟨e2, p2, q2, r2, t2⟩ := frac_val hc.1 hd.1
 unfold forecourtref01_Less.f
 rw [if_neg (by omega), if_pos (by omega)]
 congr 1
 refine decide_eq_false fun hlt => ?_
 generalize leastN a b = N1 at *
 generalize leastD a b = D1 at *
 generalize leastN c d = N2 at *
 generalize leastD c d = D2 at *
 have hbd : 0 < b * d := Int.mul_pos (by omega) (by omega)
 have hDD : 0 ≤ D1 * D2 := Int.mul_nonneg (by omega) (by omega)
 have k1 : (b * d) * (N1 * D2) = (D1 * D2) * (a * d) := by
  rw [show (b * d) * (N1 * D2) = (N1 * b) * (D2 * d) by ac_rfl, e1]; ac_rfl
 have k2 : (b * d) * (N2 * D1) = (D1 * D2) * (c * b) := by
  rw [show (b * d) * (N2 * D1) = (N2 * d) * (D1 * b) by ac_rfl, e2]; ac_rfl
 have h1 := Int.mul_lt_mul_of_pos_left hlt hbd
 have h2 := Int.mul_le_mul_of_nonneg_left h hDD
 rw [k1, k2] at h1
 omega
section
variable {l : List SRow} {p : Int} {water level : Int}
theorem bw_wv (hT : TankOk l p) (d0 d1 : Int) (f : Nat → Int) : wsum l.length (bwF l d0 d1) f = wv l d1 f * wden l d0 - wv l d0 f * wden l d1 := by
 have h16 := hT.n16
 unfold wsum wv
 rw [sumN_congr (g := fun x => wden l d0 * ((wts l d1).getD x 0 * f x) + (-wden l d1) * ((wts l d0).getD x 0 * f x)) (fun x hx => by
  unfold bwF
  rw [bw_at l _ _ x (by omega)]
  exact ring_a _ _ _ _ _), sumN_add, sumN_mul, sumN_mul, Int.neg_mul, Int.mul_comm (wden l d0), Int.mul_comm (wden l d1)]
 omega
theorem wden_le (hT : TankOk l p) (d : Int) : wden l d ≤ 4000 := by
 obtain ⟨p1, p2, _, _⟩ := pos_spec hT.n2 d
 have h1 := hT.top (pos l d) p2
 have h2 := hT.low (pos l d - 1) (by omega)
 unfold wden; omega
theorem bden_le (hT : TankOk l p) (d0 d1 : Int) : bden l d0 d1 ≤ 16000000 := by
 have h1 := hT.wden_pos d0
 have h2 := wden_le hT d0
 have h3 := hT.wden_pos d1
 have h4 := wden_le hT d1
 have := (mul_in (by omega) (show 0 ≤ wden l d0 ∧ wden l d0 ≤ 4000 by omega) (show 0 ≤ wden l d1 ∧ wden l d1 ≤ 4000 by omega)).2
 unfold bden; omega
theorem wv_in (hT : TankOk l p) {d : Int} (h0 : firstD l ≤ d) (h1 : d ≤ lastD l) {c : List Int} (hc : Chart l c) : 0 ≤ wv l d (fun i => c.getD i 0) ∧ wv l d (fun i => c.getD i 0) ≤ 400000000 := by
 have hw := wden_le hT d
 constructor
 ·have := wv_le hT h0 h1 (c := fun _ => 0) (e := fun i => c.getD i 0) (fun i hi => (hc.getIn hT i hi).1)
  have e : wv l d (fun _ => 0) = 0 := by unfold wv; rw [sumN_congr (g := fun _ => 0) (fun i _ => Int.mul_zero _), sumN_zero]
  omega
 have := wv_le hT h0 h1 (c := fun i => c.getD i 0) (e := fun _ => 100000) (fun i hi => (hc.getIn hT i hi).2)
 have e : wv l d (fun _ => 100000) = 100000 * wden l d := by
  unfold wv; rw [sumN_congr (g := fun i => 100000 * (wts l d).getD i 0) (fun i _ => Int.mul_comm _ _), sumN_mul, wts_sum hT]
 omega
theorem bw_in (hT : TankOk l p) {d0 d1 : Int} (h0 : firstD l ≤ d0) (h01 : d0 ≤ d1) (h1 : d1 ≤ lastD l) {c : List Int} (hc : Chart l c) : 0 ≤ wsum l.length (bwF l d0 d1) (fun i => c.getD i 0) ∧ wsum l.length (bwF l d0 d1) (fun i => c.getD i 0) ≤ 1600000000000 := by
 constructor
 ·obtain ⟨s, hS, _⟩ := bw_signs hT h0 h01 h1
  exact wsum_nonneg hS hc.up
 rw [bw_wv hT]
 have a := wv_in hT h0 (by omega) hc
 have b := wv_in hT (show firstD l ≤ d1 by omega) h1 hc
 have w0 := hT.wden_pos d0
 have w1 := hT.wden_pos d1
 have w2 := wden_le hT d0
 have m1 := (mul_in (by omega) b (show 0 ≤ wden l d0 ∧ wden l d0 ≤ 4000 by omega)).2
 have m2 : 0 ≤ wv l d0 (fun i => c.getD i 0) * wden l d1 := Int.mul_nonneg a.1 (by omega)
 omega
theorem bw_wide (hT : TankOk l p) {P a b Q : Int} (h0 : firstD l ≤ P) (h1 : P ≤ a) (h2 : a ≤ b) (h3 : b ≤ Q) (h4 : Q ≤ lastD l) {f : Nat → Int} (hf : Up l.length f) :
  wsum l.length (bwF l a b) f * bden l P Q ≤ wsum l.length (bwF l P Q) f * bden l a b := by
 have m1 := wv_mono hT h0 h1 (by omega) hf
 have m2 := wv_mono hT (show firstD l ≤ b by omega) h3 h4 hf
 have wP := hT.wden_pos P
 have wa := hT.wden_pos a
 have wb := hT.wden_pos b
 have wQ := hT.wden_pos Q
 rw [bw_wv hT, bw_wv hT]
 unfold bden
 generalize wv l P f = VP at *
 generalize wv l a f = VA at *
 generalize wv l b f = VB at *
 generalize wv l Q f = VQ at *
 generalize wden l P = P at *
 generalize wden l a = A at *
 generalize wden l b = B at *
 generalize wden l Q = Q at *
 have n1 : VP * A * (Q * B) ≤ VA * P * (Q * B) := Int.mul_le_mul_of_nonneg_right m1 (Int.mul_nonneg (by omega) (by omega))
 have n2 : VB * Q * (P * A) ≤ VQ * B * (P * A) := Int.mul_le_mul_of_nonneg_right m2 (Int.mul_nonneg (by omega) (by omega))
 have k1 : VB * A * (P * Q) = VB * Q * (P * A) := by ac_rfl
 have k2 : VA * B * (P * Q) = VA * P * (Q * B) := by ac_rfl
 have k3 : VQ * P * (A * B) = VQ * B * (P * A) := by ac_rfl
 have k4 : VP * Q * (A * B) = VP * A * (Q * B) := by ac_rfl
 rw [Int.sub_mul, Int.sub_mul, k1, k2, k3, k4]
 omega
end
end Go.Proofs.Ytpkajhmchcbbhaa.P
end
section
namespace Go.Proofs.Ytpkajhmchcbbhaa.P
open Go.RowKit Go.Proofs.YtpkajhmchcbbhaaW.PrintWords Go.Proofs.YtpkajhmchcbbhaaW.PrintLast Go.Proofs.YtpkajhmchcbbhaaW.PrintMore
structure Narrow (l l' : List SRow) : Prop where
 len : l'.length = l.length
 dip : ∀ i, dipN l' i = dipN l i
 lo : ∀ i, i < l.length → loR l i ≤ loR l' i
 hi : ∀ i, i < l.length → hiR l' i ≤ hiR l i
section
variable {l l' : List SRow} {p p' water level : Int}
theorem Narrow.refl (l : List SRow) : Narrow l l := ⟨rfl, fun _ => rfl, fun _ _ => Int.le_refl _, fun _ _ => Int.le_refl _⟩
theorem mx_le_mx {a b c d : Int} (h1 : a ≤ c) (h2 : b ≤ d) : mx a b ≤ mx c d := by unfold mx; split <;> split <;> omega
theorem mn_le_mn {a b c d : Int} (h1 : a ≤ c) (h2 : b ≤ d) : mn a b ≤ mn c d := by unfold mn; split <;> split <;> omega
theorem Narrow.lowN (h : Narrow l l') : ∀ i, i < l.length → lowN l i ≤ lowN l' i := by
 intro i
 induction i with
 | zero => intro hi; exact h.lo 0 hi
 | succ i ih => intro hi; exact mx_le_mx (h.lo _ hi) (ih (by omega))
theorem Narrow.highR (h : Narrow l l') : ∀ j, j < l.length → highR l' j ≤ highR l j := by
 intro j
 induction j with
 | zero => intro hj; show hiR l' (l'.length - 1) ≤ hiR l (l.length - 1); rw [h.len]; exact h.hi _ (by omega)
 | succ j ih =>
  intro hj
  show mn (hiR l' (l'.length - 1 - (j + 1))) (P.highR l' j) ≤ mn (hiR l (l.length - 1 - (j + 1))) (P.highR l j)
  rw [h.len]
  exact mn_le_mn (h.hi _ (by omega)) (ih (by omega))
theorem Narrow.highN (h : Narrow l l') (i : Nat) (hi : i < l.length) : highN l' i ≤ highN l i := by
 unfold P.highN
 rw [h.len]
 exact h.highR _ (by omega)
theorem Narrow.chart (h : Narrow l l') {c : List Int} (hc : Chart l' c) : Chart l c := by
 have hl := h.len
 refine ⟨by rw [hc.len, h.len], ⟨fun i hi => ?_, fun i hi => ?_⟩, fun i j hij hj => hc.up i j hij (by omega)⟩
 ·have a := hc.inn.lo i (by omega)
  have b := h.lowN i hi
  exact Int.le_trans b a
 have a := hc.inn.hi i (by omega)
 have b := h.highN i hi
 exact Int.le_trans a b
theorem Narrow.dips (h : Narrow l l') : dipN l' = dipN l := funext h.dip
theorem Narrow.posA (h : Narrow l l') (d : Int) : ∀ f i, posA l' d f i = posA l d f i := by
 intro f
 induction f with
 | zero => intro i; rfl
 | succ f ih => intro i; unfold P.posA; rw [ih, h.len, h.dips]
theorem Narrow.pos (h : Narrow l l') (d : Int) : pos l' d = pos l d := by unfold P.pos; rw [h.len]; exact h.posA d _ _
theorem Narrow.wts (h : Narrow l l') (d : Int) : wts l' d = wts l d := by unfold P.wts; rw [h.pos, h.dips]
theorem Narrow.wden (h : Narrow l l') (d : Int) : wden l' d = wden l d := by unfold P.wden; rw [h.pos, h.dips]
theorem Narrow.bwF (h : Narrow l l') (d0 d1 : Int) : bwF l' d0 d1 = bwF l d0 d1 := by
 funext i
 unfold P.bwF bwts
 rw [h.wts, h.wts, h.wden, h.wden]
theorem Narrow.bden (h : Narrow l l') (d0 d1 : Int) : bden l' d0 d1 = bden l d0 d1 := by unfold P.bden; rw [h.wden, h.wden]
theorem Narrow.first (h : Narrow l l') : firstD l' = firstD l := h.dip 0
theorem Narrow.last (h : Narrow l l') : lastD l' = lastD l := by unfold lastD; rw [h.len]; exact h.dip _
theorem Narrow.lo_ (h : Narrow l l') (hp : p' ≤ p) (d : Int) : trueLo l p d ≤ trueLo l' p' d := by unfold trueLo; rw [h.first]; exact mx_le_mx (Int.le_refl _) (by omega)
theorem Narrow.hi_ (h : Narrow l l') (hp : p' ≤ p) (d : Int) : trueHi l' p' d ≤ trueHi l p d := by unfold trueHi; rw [h.last]; exact mn_le_mn (Int.le_refl _) (by omega)
theorem few_in (hA : Asked l p water level) : ∃ c, Chart l c ∧ (fewR l (lowDips l p water level).1 (lowDips l p water level).2).1 = wsum l.length (bwF l (lowDips l p water level).1 (lowDips l p water level).2) (fun i => c.getD i 0) ∧
  (∀ c, Chart l c → (fewR l (lowDips l p water level).1 (lowDips l p water level).2).1 ≤ wsum l.length (bwF l (lowDips l p water level).1 (lowDips l p water level).2) (fun i => c.getD i 0)) := by
 obtain ⟨t1, t2, t3, t4, t5, t6, t7, t8⟩ := hA.dips
 obtain ⟨q1, q2, q3, q4, q5⟩ := lowDips_in hA
 obtain ⟨u, hu, _, e, _, hmin, _⟩ := few_all hA.tank hA.tight (show firstD l ≤ (lowDips l p water level).1 by omega) q5 (show (lowDips l p water level).2 ≤ lastD l by omega)
 exact ⟨_, extL_chart (l := l) (by have := hA.tank.n2; omega) hA.tight _ (near_mem l u hu), e, hmin⟩
theorem most_in (hA : Asked l p water level) : ∃ c, Chart l c ∧ (mostR l (trueLo l p water) (trueHi l p level)).1 = wsum l.length (bwF l (trueLo l p water) (trueHi l p level)) (fun i => c.getD i 0) ∧
  (∀ c, Chart l c → wsum l.length (bwF l (trueLo l p water) (trueHi l p level)) (fun i => c.getD i 0) ≤ (mostR l (trueLo l p water) (trueHi l p level)).1) := by
 obtain ⟨t1, t2, t3, t4, t5, t6, t7, t8⟩ := hA.dips
 obtain ⟨s, hs, e, _, hmax, _⟩ := most_all hA.tank hA.tight t1 hA.order t8
 exact ⟨_, extL_chart (l := l) (by have := hA.tank.n2; omega) hA.tight _ (thr_mem l s hs), e, hmax⟩
theorem net_narrow (h : Narrow l l') (hp : p' ≤ p) (hA : Asked l p water level) (hA' : Asked l' p' water level) {n1 n2 n3 n4 : Int} (hnet : chart_Net.f l p water level = some (n1, n2, n3, n4, 0)) (he : endsE l p water level = 0) (he' : endsE l' p' water level = 0) :
  ∃ m1 m2 m3 m4, chart_Net.f l' p' water level = some (m1, m2, m3, m4, 0) ∧ forecourtref01_Less.f m1 m2 n1 n2 = some false ∧ forecourtref01_Less.f n3 n4 m3 m4 = some false ∧ forecourtref01_Less.f m3 m4 m1 m2 = some false := by
 have hT := hA.tank
 have hT' := hA'.tank
 obtain ⟨t1, t2, t3, t4, t5, t6, t7, t8⟩ := hA.dips
 obtain ⟨s1, s2, s3, s4, s5, s6, s7, s8⟩ := hA'.dips
 obtain ⟨q1, q2, q3, q4, q5⟩ := lowDips_in hA
 obtain ⟨r1, r2, r3, r4, r5⟩ := lowDips_in hA'
 obtain ⟨c, hc, ec, hmin⟩ := few_in hA
 obtain ⟨c', hc', ec', hmin'⟩ := few_in hA'
 obtain ⟨b, hb, eb, hmax⟩ := most_in hA
 obtain ⟨b', hb', eb', hmax'⟩ := most_in hA'
 have hf := h.first
 have hl := h.last
 have a1 := h.lo_ hp water
 have a2 := h.lo_ hp level
 have a3 := h.hi_ hp water
 have a4 := h.hi_ hp level
 have o1 := hA.order
 have o2 := hA'.order
 have f1 := bw_in hT (d0 := (lowDips l p water level).1) (d1 := (lowDips l p water level).2) (by omega) q5 (by omega) hc
 have f2 := bw_in hT' (d0 := (lowDips l' p' water level).1) (d1 := (lowDips l' p' water level).2) (by omega) r5 (by omega) hc'
 have f3 := bw_in hT (d0 := trueLo l p water) (d1 := trueHi l p level) t1 o1 t8 hb
 have f4 := bw_in hT' (d0 := trueLo l' p' water) (d1 := trueHi l' p' level) s1 o2 s8 hb'
 rw [← ec] at f1
 rw [← ec'] at f2
 rw [← eb] at f3
 rw [← eb'] at f4
 have g1 := bden_pos hT (lowDips l p water level).1 (lowDips l p water level).2
 have g2 := bden_pos hT' (lowDips l' p' water level).1 (lowDips l' p' water level).2
 have g3 := bden_pos hT (trueLo l p water) (trueHi l p level)
 have g4 := bden_pos hT' (trueLo l' p' water) (trueHi l' p' level)
 have k1 := bden_le hT (lowDips l p water level).1 (lowDips l p water level).2
 have k2 := bden_le hT' (lowDips l' p' water level).1 (lowDips l' p' water level).2
 have k3 := bden_le hT (trueLo l p water) (trueHi l p level)
 have k4 := bden_le hT' (trueLo l' p' water) (trueHi l' p' level)
 unfold chart_Net.f at hnet ⊢
 rw [if_neg (by simp [he])] at hnet
 rw [if_neg (by simp [he'])]
 have hhd : highDips l p water level = (trueLo l p water, trueHi l p level) := rfl
 have hhd' : highDips l' p' water level = (trueLo l' p' water, trueHi l' p' level) := rfl
 rw [hhd] at hnet
 rw [hhd']
 dsimp only at hnet ⊢
 simp only [Option.some.injEq, Prod.mk.injEq] at hnet
 obtain ⟨e1, e2, e3, e4, _⟩ := hnet
 subst e1 e2 e3 e4
 refine ⟨_, _, _, _, rfl, ?_, ?_, ?_⟩
 ·refine less_frac (by omega) (by omega) (by omega) (by omega) ?_
  by_cases hlt : trueHi l p water < trueLo l p level
  ·have hab : lowDips l p water level = (trueHi l p water, trueLo l p level) := by unfold lowDips; rw [if_pos hlt]
   have hab' : lowDips l' p' water level = (trueHi l' p' water, trueLo l' p' level) := by unfold lowDips; rw [if_pos (by omega)]
   rw [hab] at hmin ⊢
   rw [hab'] at ec' g2 ⊢
   dsimp only at hmin ec' g2 ⊢
   have x1 := hmin c' (h.chart hc')
   have x2 := bw_wide hT (P := trueHi l' p' water) (a := trueHi l p water) (b := trueLo l p level) (Q := trueLo l' p' level) (by omega) a3 (by omega) a2 (by omega) (h.chart hc').up
   have x3 := Int.mul_le_mul_of_nonneg_right x1 (show 0 ≤ bden l' (trueHi l' p' water) (trueLo l' p' level) by omega)
   rw [ec', h.bwF, h.len]
   rw [h.bden] at x3 ⊢
   omega
  have e : (lowDips l p water level).1 = (lowDips l p water level).2 := by unfold lowDips; rw [if_neg hlt]
  have ez : (fewR l (lowDips l p water level).1 (lowDips l p water level).2).1 = 0 := by rw [ec, bw_wv hT, e]; omega
  rw [ez, Int.zero_mul]
  exact Int.mul_nonneg f2.1 (by omega)
 ·refine less_frac (by omega) (by omega) (by omega) (by omega) ?_
  have x1 := hmax b' (h.chart hb')
  have x2 := bw_wide hT (P := trueLo l p water) (a := trueLo l' p' water) (b := trueHi l' p' level) (Q := trueHi l p level) t1 a1 o2 a4 t8 (h.chart hb').up
  have x3 := Int.mul_le_mul_of_nonneg_right x1 (show 0 ≤ bden l' (trueLo l' p' water) (trueHi l' p' level) by omega)
  rw [eb', h.bwF, h.len]
  rw [h.bden] at x3 ⊢
  omega
 refine less_frac (by omega) (by omega) (by omega) (by omega) ?_
 have x1 := hmin' c' hc'
 have x2 := bw_wide hT' (P := trueLo l' p' water) (a := (lowDips l' p' water level).1) (b := (lowDips l' p' water level).2) (Q := trueHi l' p' level) s1 (by omega) r5 (by omega) s8 hc'.up
 have x3 := hmax' c' hc'
 have x4 := Int.mul_le_mul_of_nonneg_right x3 (show 0 ≤ bden l' (lowDips l' p' water level).1 (lowDips l' p' water level).2 by omega)
 rw [← ec'] at x2
 omega
end
end Go.Proofs.Ytpkajhmchcbbhaa.P
end
