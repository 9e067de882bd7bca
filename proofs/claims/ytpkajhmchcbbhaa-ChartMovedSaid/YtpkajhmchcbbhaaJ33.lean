/- Part 33 of 39. -/
import Derived.Test.YtpkajhmchcbbhaaJ29
import Derived.Test.YtpkajhmchcbbhaaJ14
import Derived.Test.YtpkajhmchcbbhaaJ10
set_option linter.unusedSimpArgs false
set_option linter.unusedVariables false
section
namespace Go.Proofs.Ytpkajhmchcbbhaa.P
open Go.RowKit Go.Proofs.YtpkajhmchcbbhaaW.PrintWords Go.Proofs.YtpkajhmchcbbhaaW.PrintLast Go.Proofs.YtpkajhmchcbbhaaW.PrintMore
section
variable {l : List SRow} {p water level : Int}
theorem lowDips_in (hA : Asked l p water level) : trueLo l p water ≤ (lowDips l p water level).1 ∧ (lowDips l p water level).1 ≤ trueHi l p water ∧ trueLo l p level ≤ (lowDips l p water level).2 ∧ (lowDips l p water level).2 ≤ trueHi l p level ∧ (lowDips l p water level).1 ≤ (lowDips l p water level).2 := by
 obtain ⟨t1, t2, t3, t4, t5, t6, t7, t8⟩ := hA.dips
 have ho := hA.order
 unfold lowDips
 by_cases h : trueHi l p water < trueLo l p level
 ·rw [if_pos h]
  simp only
  omega
 rw [if_neg h]
 simp only
 unfold mx
 split <;> omega
end
end Go.Proofs.Ytpkajhmchcbbhaa.P
end
section
namespace Go.Proofs.Ytpkajhmchcbbhaa.P
open Go.RowKit Go.Proofs.YtpkajhmchcbbhaaW.PrintWords Go.Proofs.YtpkajhmchcbbhaaW.PrintLast Go.Proofs.YtpkajhmchcbbhaaW.PrintMore
structure Moved (l l' : List SRow) (u m : Int) : Prop where
 len : l'.length = l.length
 dip : ∀ i, i < l.length → dipN l' i = dipN l i + u
 lo : ∀ i, i < l.length → loR l' i = loR l i + m
 hi : ∀ i, i < l.length → hiR l' i = hiR l i + m
theorem mx_add (a b m : Int) : mx (a + m) (b + m) = mx a b + m := by unfold mx; split <;> split <;> omega
theorem mn_add (a b m : Int) : mn (a + m) (b + m) = mn a b + m := by unfold mn; split <;> split <;> omega
section
variable {l l' : List SRow} {u m : Int}
theorem Moved.symm (h : Moved l l' u m) : Moved l' l (-u) (-m) :=
 ⟨h.len.symm, fun i hi => by have := h.dip i (by rw [← h.len]; exact hi); omega, fun i hi => by have := h.lo i (by rw [← h.len]; exact hi); omega, fun i hi => by have := h.hi i (by rw [← h.len]; exact hi); omega⟩
theorem Moved.lowN (h : Moved l l' u m) : ∀ i, i < l.length → lowN l' i = lowN l i + m := by
 intro i
 induction i with
 | zero => intro hi; exact h.lo 0 hi
 | succ i ih =>
  intro hi
  show mx (loR l' (i + 1)) (P.lowN l' i) = mx (loR l (i + 1)) (P.lowN l i) + m
  rw [h.lo _ hi, ih (by omega), mx_add]
theorem Moved.highR (h : Moved l l' u m) : ∀ j, j < l.length → highR l' j = highR l j + m := by
 intro j
 induction j with
 | zero =>
  intro hj
  show hiR l' (l'.length - 1) = hiR l (l.length - 1) + m
  rw [h.len, h.hi _ (by omega)]
 | succ j ih =>
  intro hj
  show mn (hiR l' (l'.length - 1 - (j + 1))) (P.highR l' j) = mn (hiR l (l.length - 1 - (j + 1))) (P.highR l j) + m
  rw [h.len, h.hi _ (by omega), ih (by omega), mn_add]
theorem Moved.highN (h : Moved l l' u m) (i : Nat) (hi : i < l.length) : highN l' i = highN l i + m := by
 unfold P.highN
 rw [h.len, h.highR _ (by omega)]
theorem Moved.posA (h : Moved l l' u m) (d : Int) : ∀ f i, posA l' (d + u) f i = posA l d f i := by
 intro f
 induction f with
 | zero => intro i; rfl
 | succ f ih =>
  intro i
  unfold P.posA
  rw [ih, h.len]
  by_cases hi : i < l.length - 1
  ·rw [h.dip i (by omega)]
   by_cases h2 : dipN l i < d
   ·rw [if_pos ⟨hi, by omega⟩, if_pos ⟨hi, h2⟩]
   rw [if_neg (fun e => h2 (by omega)), if_neg (fun e => h2 e.2)]
  rw [if_neg (fun e => hi e.1), if_neg (fun e => hi e.1)]
theorem Moved.pos (h : Moved l l' u m) (d : Int) : pos l' (d + u) = pos l d := by unfold P.pos; rw [h.len]; exact h.posA d _ _
variable {p : Int}
theorem Moved.wts (h : Moved l l' u m) (h2 : 2 ≤ l.length) (d : Int) : wts l' (d + u) = wts l d := by
 obtain ⟨a, b, _, _⟩ := pos_spec h2 d
 unfold P.wts
 rw [h.pos d, h.dip _ b, h.dip _ (by omega), show dipN l (P.pos l d) + u - (d + u) = dipN l (P.pos l d) - d by omega, show d + u - (dipN l (P.pos l d - 1) + u) = d - dipN l (P.pos l d - 1) by omega]
theorem Moved.wden (h : Moved l l' u m) (h2 : 2 ≤ l.length) (d : Int) : wden l' (d + u) = wden l d := by
 obtain ⟨a, b, _, _⟩ := pos_spec h2 d
 unfold P.wden
 rw [h.pos d, h.dip _ b, h.dip _ (by omega)]
 omega
theorem Moved.bwF (h : Moved l l' u m) (h2 : 2 ≤ l.length) (d0 d1 : Int) : bwF l' (d0 + u) (d1 + u) = bwF l d0 d1 := by
 funext i
 unfold P.bwF bwts
 rw [h.wts h2, h.wts h2, h.wden h2, h.wden h2]
theorem Moved.bden (h : Moved l l' u m) (h2 : 2 ≤ l.length) (d0 d1 : Int) : bden l' (d0 + u) (d1 + u) = bden l d0 d1 := by
 unfold P.bden
 rw [h.wden h2, h.wden h2]
theorem Moved.first (h : Moved l l' u m) (h2 : 2 ≤ l.length) : firstD l' = firstD l + u := h.dip 0 (by omega)
theorem Moved.last (h : Moved l l' u m) (h2 : 2 ≤ l.length) : lastD l' = lastD l + u := by unfold lastD; rw [h.len]; exact h.dip _ (by omega)
theorem Moved.trueLo (h : Moved l l' u m) (h2 : 2 ≤ l.length) (p d : Int) : trueLo l' p (d + u) = trueLo l p d + u := by
 unfold P.trueLo; rw [h.first h2, show d + u - p = d - p + u by omega, mx_add]
theorem Moved.trueHi (h : Moved l l' u m) (h2 : 2 ≤ l.length) (p d : Int) : trueHi l' p (d + u) = trueHi l p d + u := by
 unfold P.trueHi; rw [h.last h2, show d + u + p = d + p + u by omega, mn_add]
theorem Moved.lowDips (h : Moved l l' u m) (h2 : 2 ≤ l.length) (p a b : Int) : lowDips l' p (a + u) (b + u) = ((lowDips l p a b).1 + u, (lowDips l p a b).2 + u) := by
 unfold P.lowDips
 rw [h.trueHi h2, h.trueLo h2, h.trueLo h2, mx_add]
 by_cases hc : P.trueHi l p a < P.trueLo l p b
 ·rw [if_pos hc, if_pos (by omega)]
 rw [if_neg hc, if_neg (by omega)]
theorem Moved.highDips (h : Moved l l' u m) (h2 : 2 ≤ l.length) (p a b : Int) : highDips l' p (a + u) (b + u) = ((highDips l p a b).1 + u, (highDips l p a b).2 + u) := by
 unfold P.highDips
 rw [h.trueHi h2, h.trueLo h2]
theorem inB_add (a b d u : Int) : inB (a + u) (b + u) (d + u) = inB a b d := by
 unfold inB
 rw [show decide (d + u < a + u) = decide (d < a) from decide_eq_decide.2 (by omega), show decide (b + u < d + u) = decide (b < d) from decide_eq_decide.2 (by omega)]
theorem Moved.endsE (h : Moved l l' u m) (hF : Fine l p) (hF' : Fine l' p) (a b : Int) : endsE l' p (a + u) (b + u) = endsE l p a b := by
 have h2 := hF.tank.n2
 have ho : openE l' p [a + u, b + u] = openE l p [a, b] := by
  unfold openE
  rw [hF.check, hF'.check, hF.tight, hF'.tight]
  simp only [List.all_cons, List.all_nil, h.first h2, h.last h2, inB_add]
 unfold P.endsE
 rw [ho, h.trueHi h2, h.trueLo h2]
 by_cases h1 : openE l p [a, b] ≠ 0
 ·rw [if_pos h1, if_pos h1]
 rw [if_neg h1, if_neg h1]
 by_cases hc : P.trueHi l p b < P.trueLo l p a
 ·rw [if_pos hc, if_pos (by omega)]
 rw [if_neg hc, if_neg (by omega)]
theorem map_getD (c : List Int) (m : Int) (i : Nat) (hi : i < c.length) : (c.map (· + m)).getD i 0 = c.getD i 0 + m := by
 rw [List.getD_eq_getElem?_getD, List.getD_eq_getElem?_getD, List.getElem?_map, List.getElem?_eq_getElem hi]; rfl
theorem Moved.chart (h : Moved l l' u m) {c : List Int} (hc : Chart l c) : Chart l' (c.map (· + m)) := by
 have hl := hc.len
 refine ⟨by rw [List.length_map, h.len, hl], ⟨fun i hi => ?_, fun i hi => ?_⟩, fun i j hij hj => ?_⟩
 ·have hi' : i < l.length := by rw [← h.len]; exact hi
  (try simp only)
  rw [map_getD c m i (by omega), h.lowN i hi']
  have := hc.inn.lo i hi'; (try simp only at this); omega
 ·have hi' : i < l.length := by rw [← h.len]; exact hi
  (try simp only)
  rw [map_getD c m i (by omega), h.highN i hi']
  have := hc.inn.hi i hi'; (try simp only at this); omega
 have hj' : j < l.length := by rw [← h.len]; exact hj
 (try simp only)
 rw [map_getD c m i (by omega), map_getD c m j (by omega)]
 have := hc.up i j hij hj'; (try simp only at this); omega
theorem wsum_add (n : Nat) (w c : Nat → Int) (m : Int) : wsum n w (fun i => c i + m) = wsum n w c + m * wsum n w (fun _ => 1) := by
 unfold wsum
 rw [← sumN_mul, ← sumN_add]
 exact sumN_congr (fun i hi => by rw [Int.mul_add, Int.mul_one, Int.mul_comm m])
theorem bw_zero (hT : TankOk l p) {d0 d1 : Int} (h0 : firstD l ≤ d0) (h01 : d0 ≤ d1) (h1 : d1 ≤ lastD l) : wsum l.length (bwF l d0 d1) (fun _ => 1) = 0 := by
 obtain ⟨s, hS, _⟩ := bw_signs hT h0 h01 h1
 have a := wsum_nonneg hS (c := fun _ => 1) (fun i j _ _ => Int.le_refl _)
 have b := wsum_nonneg hS (c := fun _ => -1) (fun i j _ _ => Int.le_refl _)
 have e := wsum_add l.length (bwF l d0 d1) (fun _ => 1) (-2)
 simp only [show (1 : Int) + -2 = -1 from rfl] at e
 rw [e] at b
 omega
theorem Moved.wsum (h : Moved l l' u m) (hT : TankOk l p) {d0 d1 : Int} (h0 : firstD l ≤ d0) (h01 : d0 ≤ d1) (h1 : d1 ≤ lastD l) {c : List Int} (hc : Chart l c) :
  wsum l'.length (P.bwF l' (d0 + u) (d1 + u)) (fun i => (c.map (· + m)).getD i 0) = wsum l.length (P.bwF l d0 d1) (fun i => c.getD i 0) := by
 rw [h.bwF hT.n2, h.len, wsum_congr (e := fun i => c.getD i 0 + m) (fun i hi => map_getD c m i (by have := hc.len; omega)), wsum_add, bw_zero hT h0 h01 h1, Int.mul_zero, Int.add_zero]
theorem Moved.few_le (h : Moved l l' u m) (hF : Fine l p) (hF' : Fine l' p) {d0 d1 : Int} (h0 : firstD l ≤ d0) (h01 : d0 ≤ d1) (h1 : d1 ≤ lastD l) : (fewR l' (d0 + u) (d1 + u)).1 ≤ (fewR l d0 d1).1 := by
 have h2 := hF.tank.n2
 obtain ⟨v, hv, _, e, _⟩ := few_all hF.tank hF.tight h0 h01 h1
 obtain ⟨v', _, _, _, _, hmin, _⟩ := few_all hF'.tank hF'.tight (d0 := d0 + u) (d1 := d1 + u) (by rw [h.first h2]; omega) (by omega) (by rw [h.last h2]; omega)
 have hc := extL_chart (l := l) (by omega) hF.tight _ (near_mem l v hv)
 have := hmin _ (h.chart hc)
 rw [h.wsum hF.tank h0 h01 h1 hc] at this
 omega
theorem Moved.most_ge (h : Moved l l' u m) (hF : Fine l p) (hF' : Fine l' p) {d0 d1 : Int} (h0 : firstD l ≤ d0) (h01 : d0 ≤ d1) (h1 : d1 ≤ lastD l) : (mostR l d0 d1).1 ≤ (mostR l' (d0 + u) (d1 + u)).1 := by
 have h2 := hF.tank.n2
 obtain ⟨s, hs, e, _⟩ := most_all hF.tank hF.tight h0 h01 h1
 obtain ⟨s', _, _, _, hmax, _⟩ := most_all hF'.tank hF'.tight (d0 := d0 + u) (d1 := d1 + u) (by rw [h.first h2]; omega) (by omega) (by rw [h.last h2]; omega)
 have hc := extL_chart (l := l) (by omega) hF.tight _ (thr_mem l s hs)
 have := hmax _ (h.chart hc)
 rw [h.wsum hF.tank h0 h01 h1 hc] at this
 omega
theorem Moved.few (h : Moved l l' u m) (hF : Fine l p) (hF' : Fine l' p) {d0 d1 : Int} (h0 : firstD l ≤ d0) (h01 : d0 ≤ d1) (h1 : d1 ≤ lastD l) : (fewR l' (d0 + u) (d1 + u)).1 = (fewR l d0 d1).1 := by
 have h2 := hF.tank.n2
 have a := h.few_le hF hF' h0 h01 h1
 have b := h.symm.few_le hF' hF (d0 := d0 + u) (d1 := d1 + u) (by rw [h.first h2]; omega) (by omega) (by rw [h.last h2]; omega)
 rw [show d0 + u + -u = d0 by omega, show d1 + u + -u = d1 by omega] at b
 omega
theorem Moved.most (h : Moved l l' u m) (hF : Fine l p) (hF' : Fine l' p) {d0 d1 : Int} (h0 : firstD l ≤ d0) (h01 : d0 ≤ d1) (h1 : d1 ≤ lastD l) : (mostR l' (d0 + u) (d1 + u)).1 = (mostR l d0 d1).1 := by
 have h2 := hF.tank.n2
 have a := h.most_ge hF hF' h0 h01 h1
 have b := h.symm.most_ge hF' hF (d0 := d0 + u) (d1 := d1 + u) (by rw [h.first h2]; omega) (by omega) (by rw [h.last h2]; omega)
 rw [show d0 + u + -u = d0 by omega, show d1 + u + -u = d1 by omega] at b
 omega
theorem Moved.net (h : Moved l l' u m) (hF : Fine l p) (hF' : Fine l' p) (a b : Int) : chart_Net.f l' p (a + u) (b + u) = chart_Net.f l p a b := by
 have h2 := hF.tank.n2
 unfold chart_Net.f
 rw [h.endsE hF hF']
 by_cases he : P.endsE l p a b = 0
 ·have hA := asked_of he
  obtain ⟨t1, t2, t3, t4, t5, t6, t7, t8⟩ := hA.dips
  have hord := hA.order
  obtain ⟨q1, q2, q3, q4, q5⟩ := lowDips_in hA
  rw [if_neg (by simp [he]), if_neg (by simp [he]), h.lowDips h2, h.highDips h2]
  simp only
  rw [h.few hF hF' (by omega) q5 (by omega), h.bden h2, h.most hF hF' (d0 := (P.highDips l p a b).1) (d1 := (P.highDips l p a b).2) t1 hord t8, h.bden h2]
 rw [if_pos he, if_pos he]
end
end Go.Proofs.Ytpkajhmchcbbhaa.P
end
