/- Part 44 of 50. -/
import Derived.Test.YtpkajhmchcbbhaaN41
import Derived.Test.YtpkajhmchcbbhaaN22
import Derived.Test.YtpkajhmchcbbhaaN18
set_option linter.unusedSimpArgs false
set_option linter.unusedVariables false
section
namespace Go.Proofs.Ytpkajhmchcbbhaa.P
open Go.RowKit Go.Proofs.YtpkajhmchcbbhaaW.PrintWords Go.Proofs.YtpkajhmchcbbhaaW.PrintLast Go.Proofs.YtpkajhmchcbbhaaW.PrintMore
theorem take_chart {l : List SRow} (h16 : l.length ≤ 16) {C e : List Int} (hC : C.length = 16) (he : Chart l e) (h : ∀ i, i < l.length → C.getD i 0 = e.getD i 0) : Chart l (C.take l.length) ∧ ∀ w, wsum l.length w (fun i => (C.take l.length).getD i 0) = wsum l.length w (fun i => e.getD i 0) := by
 have hg : ∀ i, i < l.length → (C.take l.length).getD i 0 = e.getD i 0 := fun i hi => by
  rw [← h i hi, List.getD_eq_getElem?_getD, List.getElem?_take, if_pos hi, ← List.getD_eq_getElem?_getD]
 refine ⟨⟨by rw [List.length_take]; omega, ⟨fun i hi => by simp only [hg i hi]; exact he.inn.lo i hi, fun i hi => by simp only [hg i hi]; exact he.inn.hi i hi⟩, fun i j hij hj => by
  simp only [hg i (show i < l.length by omega), hg j hj]; exact he.up i j hij hj⟩, fun w => wsum_congr hg⟩
section
variable {l : List SRow} {p water level : Int}
theorem refBetween_ev (hT : TankOk l p) {d0 d1 : Int} (q : Int) (h0 : firstD l ≤ d0) (h01 : d0 ≤ d1) (h1 : d1 ≤ lastD l) {c : List Int} (hc : Chart l c) :
  Ev (fun k => forecourtref01_Between.f k l q c d0 d1) (leastN (wsum l.length (bwF l d0 d1) (fun i => c.getD i 0)) (bden l d0 d1), leastD (wsum l.length (bwF l d0 d1) (fun i => c.getD i 0)) (bden l d0 d1)) := by
 obtain ⟨i, j, _, _, hD1, hD2, hall⟩ := between_all hT d0 d1 q h0 h01 h1
 obtain ⟨e1, e2, e3, e4⟩ := hall c hc
 have hbp := bden_pos hT d0 d1
 have hnn : 0 ≤ wsum l.length (bwF l d0 d1) (fun i => c.getD i 0) := by
  obtain ⟨s, hS, _⟩ := bw_signs hT h0 h01 h1
  exact wsum_nonneg hS hc.up
 obtain ⟨f1, f2⟩ := frac_eq hnn hbp e3 hD1 e2
 rw [f1, f2]
 exact Ev.bind e1 (Ev.bind (fraction_ev _ _ (by omega) (by omega) (by omega)) (Ev.now _))
theorem reached_ev (hA : Asked l p water level) (hn : l.length ≤ 1000) {c : List Int} (hc : Chart l c) {d0 d1 : Int} (a0 : trueLo l p water ≤ d0) (a1 : d0 ≤ trueHi l p water) (b0 : trueLo l p level ≤ d1) (b1 : d1 ≤ trueHi l p level) (h01 : d0 ≤ d1) :
  Ev (fun k => forecourtlaw01_reached.f k l p water level c d0 d1 (leastN (wsum l.length (bwF l d0 d1) (fun i => c.getD i 0)) (bden l d0 d1)) (leastD (wsum l.length (bwF l d0 d1) (fun i => c.getD i 0)) (bden l d0 d1))) true := by
 have hT := hA.tank
 obtain ⟨t1, t2, t3, t4, t5, t6, t7, t8⟩ := hA.dips
 have hcc : checkChart l p c = 0 := (chart_of hT hc.len hc.inn hc.up).2 hA.check
 refine Ev.bind (a := (trueLo l p water, trueHi l p water)) (by rw [true_f hT water hA.w0 hA.w1]; exact Ev.now _) (Ev.bind (a := (trueLo l p level, trueHi l p level)) (by rw [true_f hT level hA.l0 hA.l1]; exact Ev.now _) (Ev.bind (a := 0) (by have := refCheckChart_ev l p c hn; rwa [hcc] at this) ?_))
 simp only [if_true]
 simp only [if_neg (show ¬ d0 < trueLo l p water by omega), if_neg (show ¬ d0 > trueHi l p water by omega), if_neg (show ¬ d1 < trueLo l p level by omega), if_neg (show ¬ d1 > trueHi l p level by omega), if_neg (show ¬ d0 > d1 by omega)]
 refine Ev.bind (refBetween_ev hT p (by omega) h01 (by omega) hc) ?_
 simp only [beq_self_eq_true, Bool.and_self]
 exact Ev.now _
theorem lowDips_in (hA : Asked l p water level) : trueLo l p water ≤ (lowDips l p water level).1 ∧ (lowDips l p water level).1 ≤ trueHi l p water ∧ trueLo l p level ≤ (lowDips l p water level).2 ∧ (lowDips l p water level).2 ≤ trueHi l p level ∧ (lowDips l p water level).1 ≤ (lowDips l p water level).2 := by
 obtain ⟨t1, t2, t3, t4, t5, t6, t7, t8⟩ := hA.dips
 have ho := hA.order
 unfold lowDips
 by_cases h : trueHi l p water < trueLo l p level
 ·rw [if_pos h]
  simp only
  omega
 rw [if_neg h]
 simp only
 unfold mx
 split <;> omega
end
structure NetsFacts (l : List SRow) (p water level : Int) (high : Bool) (k : Nat) (n1 n2 n3 n4 e : Int) (x : List Int) (d0 d1 : Int) : Prop where
 net : chart_Net.f l p water level = some (n1, n2, n3, n4, e)
 ref : forecourtref01_Net.f k l p water level = some (n1, n2, n3, n4, e)
 fin : chart_End.f l p water level high = some (x, d0, d1, e)
 ok : e = 0 → forecourtlaw01_reached.f k l p water level x d0 d1 (if high then n3 else n1) (if high then n4 else n2) = some true
 no : e ≠ 0 → x = [] ∧ d0 = 0 ∧ d1 = 0
theorem nets_facts (l : List SRow) (p water level : Int) (high : Bool) (hn : l.length ≤ 1000) : ∃ k n1 n2 n3 n4 e x d0 d1, NetsFacts l p water level high k n1 n2 n3 n4 e x d0 d1 := by
 obtain ⟨⟨n1, n2, n3, n4, e⟩, hr, K1, hev⟩ := refNet_ev l p water level hn
 have hr2 := (Option.some.inj hr).symm
 by_cases he : endsE l p water level = 0
 ·have hA := asked_of he
  have hT := hA.tank
  have h16 := hT.n16
  have hT2 := hT.n2
  obtain ⟨t1, t2, t3, t4, t5, t6, t7, t8⟩ := hA.dips
  rw [if_neg (show ¬ endsE l p water level ≠ 0 by simp [he])] at hr2
  simp only [Prod.mk.injEq] at hr2
  obtain ⟨e1, e2, e3, e4, e5⟩ := hr2
  cases high with
  | true =>
   obtain ⟨s, hsl, em, hg, _, _⟩ := most_all (d0 := trueLo l p water) (d1 := trueHi l p level) hT hA.tight t1 hA.order t8
   obtain ⟨hch, hw⟩ := take_chart h16 (mostC_length h16 _ _) (extL_chart (by omega) hA.tight _ (thr_mem l s hsl)) hg
   obtain ⟨K2, hre⟩ := reached_ev (d0 := trueLo l p water) (d1 := trueHi l p level) hA hn hch (Int.le_refl _) (by omega) (by omega) (Int.le_refl _) hA.order
   refine ⟨max K1 K2, n1, n2, n3, n4, e, (mostC l (trueLo l p water) (trueHi l p level)).take l.length, trueLo l p water, trueHi l p level, hr, hev _ (by omega), ?_, fun _ => ?_, fun h => absurd e5 h⟩
   ·unfold chart_End.f
    rw [if_neg (show ¬ endsE l p water level ≠ 0 by simp [he]), if_pos rfl, e5]
    rfl
   have h2 := hre (max K1 K2) (by omega)
   simp only [if_true]
   rw [e3, e4]
   simp only at h2
   rw [hw, ← em] at h2
   exact h2
  | false =>
   obtain ⟨q1, q2, q3, q4, q5⟩ := lowDips_in hA
   obtain ⟨u, hu, f2, em, hg, _, _⟩ := few_all hT hA.tight (show firstD l ≤ (lowDips l p water level).1 by omega) q5 (show (lowDips l p water level).2 ≤ lastD l by omega)
   obtain ⟨hch, hw⟩ := take_chart h16 (nearC_length h16 u) (extL_chart (by omega) hA.tight _ (near_mem l u hu)) hg
   obtain ⟨K2, hre⟩ := reached_ev hA hn hch q1 q2 q3 q4 q5
   refine ⟨max K1 K2, n1, n2, n3, n4, e, (fewR l (lowDips l p water level).1 (lowDips l p water level).2).2.take l.length, (lowDips l p water level).1, (lowDips l p water level).2, hr, hev _ (by omega), ?_, fun _ => ?_, fun h => absurd e5 h⟩
   ·unfold chart_End.f
    rw [if_neg (show ¬ endsE l p water level ≠ 0 by simp [he]), if_neg (by simp), e5]
   have h2 := hre (max K1 K2) (by omega)
   simp only [Bool.false_eq_true, if_false]
   rw [e1, e2]
   simp only at h2
   rw [hw, ← em, ← f2] at h2
   exact h2
 rw [if_pos he] at hr2
 simp only [Prod.mk.injEq] at hr2
 obtain ⟨e1, e2, e3, e4, e5⟩ := hr2
 refine ⟨K1, n1, n2, n3, n4, e, [], 0, 0, hr, hev _ (Nat.le_refl _), ?_, fun h => absurd (e5.symm.trans h) he, fun _ => ⟨rfl, rfl, rfl⟩⟩
 unfold chart_End.f
 rw [if_pos he, e5]
end Go.Proofs.Ytpkajhmchcbbhaa.P
end
