/- Part 30 of 39. -/
import Derived.Test.YtpkajhmchcbbhaaF18
import Derived.Test.YtpkajhmchcbbhaaF29
import Derived.Test.YtpkajhmchcbbhaaF22
import Derived.Test.YtpkajhmchcbbhaaF4
import Derived.Test.YtpkajhmchcbbhaaF5
import Derived.Test.YtpkajhmchcbbhaaF9
import Derived.Test.YtpkajhmchcbbhaaF11
import Derived.Test.YtpkajhmchcbbhaaF6
import Derived.Test.YtpkajhmchcbbhaaF7
import Derived.Test.YtpkajhmchcbbhaaF19
set_option linter.unusedSimpArgs false
set_option linter.unusedVariables false
section
namespace Go.Proofs.Ytpkajhmchcbbhaa.P
open Go.RowKit Go.Proofs.YtpkajhmchcbbhaaW.PrintWords Go.Proofs.YtpkajhmchcbbhaaW.PrintLast Go.Proofs.YtpkajhmchcbbhaaW.PrintMore
theorem pos_in {l : List SRow} {p : Int} (hT : TankOk l p) (d : Int) (h0 : firstD l ≤ d) (h1 : d ≤ lastD l) : dipN l (pos l d - 1) ≤ d ∧ d ≤ dipN l (pos l d) := by
 obtain ⟨p1, p2, p3, p4⟩ := pos_spec hT.n2 d
 constructor
 ·by_cases hq : pos l d = 1
  ·rw [hq]; exact h0
  have := p3 (pos l d - 1) (by omega) (by omega); omega
 by_cases hq : pos l d < l.length - 1
 ·exact p4 hq
 have e : pos l d = l.length - 1 := by omega
 rw [e]; exact h1
theorem pos_le {l : List SRow} {p : Int} (hT : TankOk l p) {d0 d1 : Int} (h : d0 ≤ d1) : pos l d0 ≤ pos l d1 := by
 obtain ⟨p1, p2, p3, p4⟩ := pos_spec hT.n2 d0
 obtain ⟨q1, q2, q3, q4⟩ := pos_spec hT.n2 d1
 rcases Nat.lt_or_ge (pos l d1) (pos l d0) with hlt | hge
 ·have e1 := q4 (by omega)
  have e2 := p3 (pos l d1) q1 hlt
  omega
 exact hge
theorem bw_at (l : List SRow) (d0 d1 : Int) (i : Nat) (hi : i < 16) : (bwts l d0 d1).getD i 0 = (wts l d1).getD i 0 * wden l d0 - (wts l d0).getD i 0 * wden l d1 := by
 rw [← bw_end, bw_get _ _ _ _ _ _ hi, if_pos hi]
def bwF (l : List SRow) (d0 d1 : Int) (i : Nat) : Int := (bwts l d0 d1).getD i 0
theorem wts_sum {l : List SRow} {p : Int} (hT : TankOk l p) (d : Int) : sumN l.length (fun i => (wts l d).getD i 0) = wden l d := by
 obtain ⟨p1, p2, _, _⟩ := pos_spec hT.n2 d
 have h16 := hT.n16
 obtain ⟨j, hj⟩ : ∃ j, pos l d = j + 1 := ⟨pos l d - 1, by omega⟩
 rw [sumN_congr (g := fun i => (if i = j + 1 then (d - dipN l j) else if i = j then (dipN l (j + 1) - d) else 0) * (fun _ => (1 : Int)) i) (fun i hi => by
  rw [wts_get hT.dipOk d i (by omega), hj, Nat.add_sub_cancel, Int.mul_one]), sumN_two l.length j _ _ (fun _ => 1) (by omega)]
 unfold wden
 rw [hj, Nat.add_sub_cancel]
 omega
theorem bw_sum {l : List SRow} {p : Int} (hT : TankOk l p) (d0 d1 : Int) : sumN l.length (bwF l d0 d1) = 0 := by
 have h16 := hT.n16
 rw [sumN_congr (g := fun i => wden l d0 * (wts l d1).getD i 0 + (-wden l d1) * (wts l d0).getD i 0) (fun i hi => by
  unfold bwF
  rw [bw_at l d0 d1 i (by omega), Int.mul_comm (wden l d0), Int.neg_mul, Int.mul_comm (wden l d1)]; omega), sumN_add, sumN_mul, sumN_mul, wts_sum hT, wts_sum hT, Int.neg_mul, Int.mul_comm]
 omega
theorem bw_signs {l : List SRow} {p : Int} (hT : TankOk l p) {d0 d1 : Int} (h0 : firstD l ≤ d0) (h01 : d0 ≤ d1) (h1 : d1 ≤ lastD l) : ∃ s, Signs l.length (bwF l d0 d1) s ∧ s ≤ l.length := by
 have h16 := hT.n16
 obtain ⟨p1, p2, _, _⟩ := pos_spec hT.n2 d0
 obtain ⟨q1, q2, _, _⟩ := pos_spec hT.n2 d1
 obtain ⟨a1, a2⟩ := pos_in hT d0 h0 (by omega)
 obtain ⟨b1, b2⟩ := pos_in hT d1 (by omega) h1
 have hPQ := pos_le hT h01
 have ha := hT.wden_pos d0
 have hb := hT.wden_pos d1
 have hW : ∀ i, i < l.length → bwF l d0 d1 i = (if i = pos l d1 then d1 - dipN l (pos l d1 - 1) else if i = pos l d1 - 1 then dipN l (pos l d1) - d1 else 0) * wden l d0 -
   (if i = pos l d0 then d0 - dipN l (pos l d0 - 1) else if i = pos l d0 - 1 then dipN l (pos l d0) - d0 else 0) * wden l d1 := fun i hi => by
  unfold bwF
  rw [bw_at l d0 d1 i (by omega), wts_get hT.dipOk d1 i (by omega), wts_get hT.dipOk d0 i (by omega)]
 have hw0 : ∀ i : Nat, 0 ≤ (if i = pos l d0 then d0 - dipN l (pos l d0 - 1) else if i = pos l d0 - 1 then dipN l (pos l d0) - d0 else 0) * wden l d1 := fun i => by
  refine Int.mul_nonneg ?_ (by omega)
  (repeat' split) <;> omega
 have hw1 : ∀ i : Nat, 0 ≤ (if i = pos l d1 then d1 - dipN l (pos l d1 - 1) else if i = pos l d1 - 1 then dipN l (pos l d1) - d1 else 0) * wden l d0 := fun i => by
  refine Int.mul_nonneg ?_ (by omega)
  (repeat' split) <;> omega
 have hQ : pos l d0 = pos l d1 → bwF l d0 d1 (pos l d1 - 1) ≤ 0 ∧ 0 ≤ bwF l d0 d1 (pos l d1) := by
  intro e
  have ed : wden l d1 = wden l d0 := by unfold wden; rw [e]
  constructor
  ·rw [hW _ (by omega), if_neg (by omega), if_pos rfl, e, if_neg (by omega), if_pos rfl, ed, ← Int.sub_mul]
   exact Int.mul_nonpos_of_nonpos_of_nonneg (by omega) (by omega)
  rw [hW _ (by omega), if_pos rfl, e, if_pos rfl, ed, ← Int.sub_mul]
  exact Int.mul_nonneg (by omega) (by omega)
 refine ⟨if 0 < bwF l d0 d1 (pos l d1 - 1) then pos l d1 - 1 else pos l d1, ⟨fun i hi hs => ?_, fun i hi hs => ?_, bw_sum hT d0 d1⟩, by split <;> omega⟩
 ·by_cases hc : 0 < bwF l d0 d1 (pos l d1 - 1)
  ·rw [if_pos hc] at hs
   rw [hW i hi, if_neg (by omega), if_neg (by omega), Int.zero_mul]
   have := hw0 i
   omega
  rw [if_neg hc] at hs
  by_cases hi2 : i = pos l d1 - 1
  ·rw [hi2]; omega
  rw [hW i hi, if_neg (by omega), if_neg hi2, Int.zero_mul]
  have := hw0 i
  omega
 by_cases hi2 : i = pos l d1 - 1
 ·by_cases hc : 0 < bwF l d0 d1 (pos l d1 - 1)
  ·rw [hi2]; omega
  rw [if_neg hc] at hs; omega
 have hge : pos l d1 ≤ i := by
  by_cases hc : 0 < bwF l d0 d1 (pos l d1 - 1)
  ·rw [if_pos hc] at hs; omega
  rw [if_neg hc] at hs; exact hs
 by_cases hPe : pos l d0 = pos l d1
 ·by_cases hie : i = pos l d1
  ·rw [hie]; exact (hQ hPe).2
  rw [hW i hi, if_neg hie, if_neg hi2, if_neg (by omega), if_neg (by omega)]; simp
 have := hw1 i
 rw [hW i hi, if_neg (show ¬ i = pos l d0 by omega), if_neg (show ¬ i = pos l d0 - 1 by omega), Int.zero_mul]
 omega
theorem tube {l : List SRow} (hn : 1 ≤ l.length) (ht : tightOk l = true) : Tube l.length (lowN l) (highN l) := by
 have hle : ∀ i, i < l.length → lowN l i ≤ highN l i := fun i hi => by
  unfold tightOk at ht
  rw [List.all_eq_true] at ht
  exact of_decide_eq_true (ht i (List.mem_range.2 hi))
 refine ⟨hle, fun i j hij hj => ?_, fun i j hij hj => ?_⟩
 ·obtain ⟨d, rfl⟩ : ∃ d, j = i + d := ⟨j - i, by omega⟩
  clear hij
  induction d with
  | zero => exact Int.le_refl _
  | succ d ih =>
   have := ih (by omega)
   have h2 : lowN l (i + d) ≤ lowN l (i + d + 1) := by rw [lowN_succ]; exact mx_right
   have e : i + (d + 1) = i + d + 1 := by omega
   rw [e]; omega
 obtain ⟨d, rfl⟩ : ∃ d, j = i + d := ⟨j - i, by omega⟩
 clear hij
 induction d with
 | zero => exact Int.le_refl _
 | succ d ih =>
  have := ih (by omega)
  have h2 : highN l (i + d) ≤ highN l (i + d + 1) := by rw [highN_succ l (i + d) (by omega)]; exact mn_right
  have e : i + (d + 1) = i + d + 1 := by omega
  rw [e]; omega
end Go.Proofs.Ytpkajhmchcbbhaa.P
end
section
namespace Go.Proofs.Ytpkajhmchcbbhaa.P
open Go.RowKit Go.Proofs.YtpkajhmchcbbhaaW.PrintWords Go.Proofs.YtpkajhmchcbbhaaW.PrintLast Go.Proofs.YtpkajhmchcbbhaaW.PrintMore
theorem tightL_len (l : List SRow) : (tightL l).length = l.length := by simp [tightL]
theorem rdTight (l : List SRow) (i : Nat) (hi : i < l.length) : rd_T43 (tightL l) (i : Int) = ⟨lowN l i, highN l i⟩ := by rw [rdT_nat, tightL_get l i hi]
theorem range_getD (f : Nat → Int) (n i : Nat) (hi : i < n) : ((List.range n).map f).getD i 0 = f i := by
 rw [List.getD_eq_getElem?_getD, List.getElem?_map, List.getElem?_range hi]; rfl
structure Chart (l : List SRow) (c : List Int) : Prop where
 len : c.length = l.length
 inn : In l.length (lowN l) (highN l) (fun i => c.getD i 0)
 up : Up l.length (fun i => c.getD i 0)
theorem Chart.of_fun {l : List SRow} {f : Nat → Int} (h : In l.length (lowN l) (highN l) f ∧ Up l.length f) : Chart l ((List.range l.length).map f) :=
 ⟨by simp, ⟨fun i hi => by simp only [range_getD f _ i hi]; exact h.1.lo i hi, fun i hi => by simp only [range_getD f _ i hi]; exact h.1.hi i hi⟩, fun i j hij hj => by
  simp only [range_getD f _ i (show i < l.length by omega), range_getD f _ j hj]; exact h.2 i j hij hj⟩
theorem Chart.mem {l : List SRow} {p : Int} (hT : TankOk l p) {c : List Int} (h : Chart l c) : ∀ x, x ∈ c → 0 ≤ x ∧ x ≤ 100000 := by
 intro x hx
 obtain ⟨i, hi, e⟩ := List.getElem_of_mem hx
 have hl := h.len
 have h1 := h.inn.lo i (by omega)
 have h2 := h.inn.hi i (by omega)
 have e2 : c.getD i 0 = x := by rw [List.getD_eq_getElem?_getD, List.getElem?_eq_getElem hi, e]; rfl
 simp only [e2] at h1 h2
 have h3 := hT.lowN_in i (by omega)
 have h4 := hT.highN_in i (by omega)
 omega
theorem ring_a (u v a b x : Int) : (u * a - v * b) * x = a * (u * x) + (-b) * (v * x) := by
 rw [Int.sub_mul, Int.neg_mul, ← Int.mul_assoc a u x, ← Int.mul_assoc b v x, Int.mul_comm a u, Int.mul_comm b v]; omega
end Go.Proofs.Ytpkajhmchcbbhaa.P
end
section
namespace Go.Proofs.Ytpkajhmchcbbhaa.P
open Go.RowKit Go.Proofs.YtpkajhmchcbbhaaW.PrintWords Go.Proofs.YtpkajhmchcbbhaaW.PrintLast Go.Proofs.YtpkajhmchcbbhaaW.PrintMore
structure Fine (l : List SRow) (p : Int) : Prop where
 tank : TankOk l p
 check : checkTank l p = 0
 tight : tightOk l = true
end Go.Proofs.Ytpkajhmchcbbhaa.P
end
section
namespace Go.Proofs.Ytpkajhmchcbbhaa.P
open Go.RowKit Go.Proofs.YtpkajhmchcbbhaaW.PrintWords Go.Proofs.YtpkajhmchcbbhaaW.PrintLast Go.Proofs.YtpkajhmchcbbhaaW.PrintMore
section
variable {l : List SRow} {p : Int}
theorem low_chart (hT : TankOk l p) (ht : tightOk l = true) : Chart l (lows l) :=
 Chart.of_fun ⟨⟨fun i hi => Int.le_refl _, fun i hi => (tube (by have := hT.n2; omega) ht).le i hi⟩, (tube (by have := hT.n2; omega) ht).low⟩
theorem high_chart (hT : TankOk l p) (ht : tightOk l = true) : Chart l (highs l) :=
 Chart.of_fun ⟨⟨fun i hi => (tube (by have := hT.n2; omega) ht).le i hi, fun i hi => Int.le_refl _⟩, (tube (by have := hT.n2; omega) ht).high⟩
end
end Go.Proofs.Ytpkajhmchcbbhaa.P
end
