/- Part 36 of 45. -/
import Derived.Test.YtpkajhmchcbbhaaE32
import Derived.Test.YtpkajhmchcbbhaaE16
import Derived.Test.YtpkajhmchcbbhaaE12
set_option linter.unusedSimpArgs false
set_option linter.unusedVariables false
section
namespace Go.Proofs.Ytpkajhmchcbbhaa.P
open Go.RowKit Go.Proofs.YtpkajhmchcbbhaaW.PrintWords Go.Proofs.YtpkajhmchcbbhaaW.PrintLast Go.Proofs.YtpkajhmchcbbhaaW.PrintMore
theorem take_chart {l : List SRow} (h16 : l.length ≤ 16) {C e : List Int} (hC : C.length = 16) (he : Chart l e) (h : ∀ i, i < l.length → C.getD i 0 = e.getD i 0) : Chart l (C.take l.length) ∧ ∀ w, wsum l.length w (fun i => (C.take l.length).getD i 0) = wsum l.length w (fun i => e.getD i 0) := by
 have hg : ∀ i, i < l.length → (C.take l.length).getD i 0 = e.getD i 0 := fun i hi => by
  rw [← h i hi, List.getD_eq_getElem?_getD, List.getElem?_take, if_pos hi, ← List.getD_eq_getElem?_getD]
 refine ⟨⟨by rw [List.length_take]; omega, ⟨fun i hi => by simp only [hg i hi]; exact he.inn.lo i hi, fun i hi => by simp only [hg i hi]; exact he.inn.hi i hi⟩, fun i j hij hj => by
  simp only [hg i (show i < l.length by omega), hg j hj]; exact he.up i j hij hj⟩, fun w => wsum_congr hg⟩
section
variable {l : List SRow} {p water level : Int}
theorem refBetween_ev (hT : TankOk l p) {d0 d1 : Int} (q : Int) (h0 : firstD l ≤ d0) (h01 : d0 ≤ d1) (h1 : d1 ≤ lastD l) {c : List Int} (hc : Chart l c) :
  Ev (fun k => forecourtref01_Between.f k l q c d0 d1) (leastN (wsum l.length (bwF l d0 d1) (fun i => c.getD i 0)) (bden l d0 d1), leastD (wsum l.length (bwF l d0 d1) (fun i => c.getD i 0)) (bden l d0 d1)) := by
 obtain ⟨i, j, _, _, hD1, hD2, hall⟩ := between_all hT d0 d1 q h0 h01 h1
 obtain ⟨e1, e2, e3, e4⟩ := hall c hc
 have hbp := bden_pos hT d0 d1
 have hnn : 0 ≤ wsum l.length (bwF l d0 d1) (fun i => c.getD i 0) := by
  obtain ⟨s, hS, _⟩ := bw_signs hT h0 h01 h1
  exact wsum_nonneg hS hc.up
 obtain ⟨f1, f2⟩ := frac_eq hnn hbp e3 hD1 e2
 rw [f1, f2]
 exact Ev.bind e1 (Ev.bind (fraction_ev _ _ (by omega) (by omega) (by omega)) (Ev.now _))
theorem reached_ev (hA : Asked l p water level) (hn : l.length ≤ 1000) {c : List Int} (hc : Chart l c) {d0 d1 : Int} (a0 : trueLo l p water ≤ d0) (a1 : d0 ≤ trueHi l p water) (b0 : trueLo l p level ≤ d1) (b1 : d1 ≤ trueHi l p level) (h01 : d0 ≤ d1) :
  Ev (fun k => forecourtlaw01_reached.f k l p water level c d0 d1 (leastN (wsum l.length (bwF l d0 d1) (fun i => c.getD i 0)) (bden l d0 d1)) (leastD (wsum l.length (bwF l d0 d1) (fun i => c.getD i 0)) (bden l d0 d1))) true := by
 have hT := hA.tank
 obtain ⟨t1, t2, t3, t4, t5, t6, t7, t8⟩ := hA.dips
 have hcc : checkChart l p c = 0 := (chart_of hT hc.len hc.inn hc.up).2 hA.check
 refine Ev.bind (a := (trueLo l p water, trueHi l p water)) (by rw [true_f hT water hA.w0 hA.w1]; exact Ev.now _) (Ev.bind (a := (trueLo l p level, trueHi l p level)) (by rw [true_f hT level hA.l0 hA.l1]; exact Ev.now _) (Ev.bind (a := 0) (by have := refCheckChart_ev l p c hn; rwa [hcc] at this) ?_))
 simp only [if_true]
 simp only [if_neg (show ¬ d0 < trueLo l p water by omega), if_neg (show ¬ d0 > trueHi l p water by omega), if_neg (show ¬ d1 < trueLo l p level by omega), if_neg (show ¬ d1 > trueHi l p level by omega), if_neg (show ¬ d0 > d1 by omega)]
 refine Ev.bind (refBetween_ev hT p (by omega) h01 (by omega) hc) ?_
 simp only [beq_self_eq_true, Bool.and_self]
 exact Ev.now _
theorem lowDips_in (hA : Asked l p water level) : trueLo l p water ≤ (lowDips l p water level).1 ∧ (lowDips l p water level).1 ≤ trueHi l p water ∧ trueLo l p level ≤ (lowDips l p water level).2 ∧ (lowDips l p water level).2 ≤ trueHi l p level ∧ (lowDips l p water level).1 ≤ (lowDips l p water level).2 := by
 obtain ⟨t1, t2, t3, t4, t5, t6, t7, t8⟩ := hA.dips
 have ho := hA.order
 unfold lowDips
 by_cases h : trueHi l p water < trueLo l p level
 ·rw [if_pos h]
  simp only
  omega
 rw [if_neg h]
 simp only
 unfold mx
 split <;> omega
end
end Go.Proofs.Ytpkajhmchcbbhaa.P
end
