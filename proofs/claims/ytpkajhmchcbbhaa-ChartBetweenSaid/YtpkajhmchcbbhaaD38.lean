/- Part 38 of 51. -/
import Derived.Test.YtpkajhmchcbbhaaD25
import Derived.Test.YtpkajhmchcbbhaaD37
import Derived.Test.YtpkajhmchcbbhaaD30
import Derived.Test.YtpkajhmchcbbhaaD5
import Derived.Test.YtpkajhmchcbbhaaD6
import Derived.Test.YtpkajhmchcbbhaaD12
import Derived.Test.YtpkajhmchcbbhaaD14
import Derived.Test.YtpkajhmchcbbhaaD7
import Derived.Test.YtpkajhmchcbbhaaD8
import Derived.Test.YtpkajhmchcbbhaaD9
import Derived.Test.YtpkajhmchcbbhaaD26
import Derived.Test.YtpkajhmchcbbhaaD15
import Derived.Test.YtpkajhmchcbbhaaD16
import Derived.Test.YtpkajhmchcbbhaaD17
set_option linter.unusedSimpArgs false
set_option linter.unusedVariables false
section
namespace Go.Proofs.Ytpkajhmchcbbhaa.P
open Go.RowKit Go.Proofs.YtpkajhmchcbbhaaW.PrintWords Go.Proofs.YtpkajhmchcbbhaaW.PrintLast Go.Proofs.YtpkajhmchcbbhaaW.PrintMore
theorem pos_in {l : List SRow} {p : Int} (hT : TankOk l p) (d : Int) (h0 : firstD l ≤ d) (h1 : d ≤ lastD l) : dipN l (pos l d - 1) ≤ d ∧ d ≤ dipN l (pos l d) := by
 obtain ⟨p1, p2, p3, p4⟩ := pos_spec hT.n2 d
 constructor
 ·by_cases hq : pos l d = 1
  ·rw [hq]; exact h0
  have := p3 (pos l d - 1) (by omega) (by omega); omega
 by_cases hq : pos l d < l.length - 1
 ·exact p4 hq
 have e : pos l d = l.length - 1 := by omega
 rw [e]; exact h1
theorem pos_le {l : List SRow} {p : Int} (hT : TankOk l p) {d0 d1 : Int} (h : d0 ≤ d1) : pos l d0 ≤ pos l d1 := by
 obtain ⟨p1, p2, p3, p4⟩ := pos_spec hT.n2 d0
 obtain ⟨q1, q2, q3, q4⟩ := pos_spec hT.n2 d1
 rcases Nat.lt_or_ge (pos l d1) (pos l d0) with hlt | hge
 ·have e1 := q4 (by omega)
  have e2 := p3 (pos l d1) q1 hlt
  omega
 exact hge
theorem bw_at (l : List SRow) (d0 d1 : Int) (i : Nat) (hi : i < 16) : (bwts l d0 d1).getD i 0 = (wts l d1).getD i 0 * wden l d0 - (wts l d0).getD i 0 * wden l d1 := by
 rw [← bw_end, bw_get _ _ _ _ _ _ hi, if_pos hi]
def bwF (l : List SRow) (d0 d1 : Int) (i : Nat) : Int := (bwts l d0 d1).getD i 0
theorem wts_sum {l : List SRow} {p : Int} (hT : TankOk l p) (d : Int) : sumN l.length (fun i => (wts l d).getD i 0) = wden l d := by
 obtain ⟨p1, p2, _, _⟩ := pos_spec hT.n2 d
 have h16 := hT.n16
 obtain ⟨j, hj⟩ : ∃ j, pos l d = j + 1 := ⟨pos l d - 1, by omega⟩
 rw [sumN_congr (g := fun i => (if i = j + 1 then (d - dipN l j) else if i = j then (dipN l (j + 1) - d) else 0) * (fun _ => (1 : Int)) i) (fun i hi => by
  rw [wts_get hT.dipOk d i (by omega), hj, Nat.add_sub_cancel, Int.mul_one]), sumN_two l.length j _ _ (fun _ => 1) (by omega)]
 unfold wden
 rw [hj, Nat.add_sub_cancel]
 omega
theorem bw_sum {l : List SRow} {p : Int} (hT : TankOk l p) (d0 d1 : Int) : sumN l.length (bwF l d0 d1) = 0 := by
 have h16 := hT.n16
 rw [sumN_congr (g := fun i => wden l d0 * (wts l d1).getD i 0 + (-wden l d1) * (wts l d0).getD i 0) (fun i hi => by
  unfold bwF
  rw [bw_at l d0 d1 i (by omega), Int.mul_comm (wden l d0), Int.neg_mul, Int.mul_comm (wden l d1)]; omega), sumN_add, sumN_mul, sumN_mul, wts_sum hT, wts_sum hT, Int.neg_mul, Int.mul_comm]
 omega
theorem bw_signs {l : List SRow} {p : Int} (hT : TankOk l p) {d0 d1 : Int} (h0 : firstD l ≤ d0) (h01 : d0 ≤ d1) (h1 : d1 ≤ lastD l) : ∃ s, Signs l.length (bwF l d0 d1) s ∧ s ≤ l.length := by
 have h16 := hT.n16
 obtain ⟨p1, p2, _, _⟩ := pos_spec hT.n2 d0
 obtain ⟨q1, q2, _, _⟩ := pos_spec hT.n2 d1
 obtain ⟨a1, a2⟩ := pos_in hT d0 h0 (by omega)
 obtain ⟨b1, b2⟩ := pos_in hT d1 (by omega) h1
 have hPQ := pos_le hT h01
 have ha := hT.wden_pos d0
 have hb := hT.wden_pos d1
 have hW : ∀ i, i < l.length → bwF l d0 d1 i = (if i = pos l d1 then d1 - dipN l (pos l d1 - 1) else if i = pos l d1 - 1 then dipN l (pos l d1) - d1 else 0) * wden l d0 -
   (if i = pos l d0 then d0 - dipN l (pos l d0 - 1) else if i = pos l d0 - 1 then dipN l (pos l d0) - d0 else 0) * wden l d1 := fun i hi => by
  unfold bwF
  rw [bw_at l d0 d1 i (by omega), wts_get hT.dipOk d1 i (by omega), wts_get hT.dipOk d0 i (by omega)]
 have hw0 : ∀ i : Nat, 0 ≤ (if i = pos l d0 then d0 - dipN l (pos l d0 - 1) else if i = pos l d0 - 1 then dipN l (pos l d0) - d0 else 0) * wden l d1 := fun i => by
  refine Int.mul_nonneg ?_ (by omega)
  (repeat' split) <;> omega
 have hw1 : ∀ i : Nat, 0 ≤ (if i = pos l d1 then d1 - dipN l (pos l d1 - 1) else if i = pos l d1 - 1 then dipN l (pos l d1) - d1 else 0) * wden l d0 := fun i => by
  refine Int.mul_nonneg ?_ (by omega)
  (repeat' split) <;> omega
 have hQ : pos l d0 = pos l d1 → bwF l d0 d1 (pos l d1 - 1) ≤ 0 ∧ 0 ≤ bwF l d0 d1 (pos l d1) := by
  intro e
  have ed : wden l d1 = wden l d0 := by unfold wden; rw [e]
  constructor
  ·rw [hW _ (by omega), if_neg (by omega), if_pos rfl, e, if_neg (by omega), if_pos rfl, ed, ← Int.sub_mul]
   exact Int.mul_nonpos_of_nonpos_of_nonneg (by omega) (by omega)
  rw [hW _ (by omega), if_pos rfl, e, if_pos rfl, ed, ← Int.sub_mul]
  exact Int.mul_nonneg (by omega) (by omega)
 refine ⟨if 0 < bwF l d0 d1 (pos l d1 - 1) then pos l d1 - 1 else pos l d1, ⟨fun i hi hs => ?_, fun i hi hs => ?_, bw_sum hT d0 d1⟩, by split <;> omega⟩
 ·by_cases hc : 0 < bwF l d0 d1 (pos l d1 - 1)
  ·rw [if_pos hc] at hs
   rw [hW i hi, if_neg (by omega), if_neg (by omega), Int.zero_mul]
   have := hw0 i
   omega
  rw [if_neg hc] at hs
  by_cases hi2 : i = pos l d1 - 1
  ·rw [hi2]; omega
  rw [hW i hi, if_neg (by omega), if_neg hi2, Int.zero_mul]
  have := hw0 i
  omega
 by_cases hi2 : i = pos l d1 - 1
 ·by_cases hc : 0 < bwF l d0 d1 (pos l d1 - 1)
  ·rw [hi2]; omega
  rw [if_neg hc] at hs; omega
 have hge : pos l d1 ≤ i := by
  by_cases hc : 0 < bwF l d0 d1 (pos l d1 - 1)
  ·rw [if_pos hc] at hs; omega
  rw [if_neg hc] at hs; exact hs
 by_cases hPe : pos l d0 = pos l d1
 ·by_cases hie : i = pos l d1
  ·rw [hie]; exact (hQ hPe).2
  rw [hW i hi, if_neg hie, if_neg hi2, if_neg (by omega), if_neg (by omega)]; simp
 have := hw1 i
 rw [hW i hi, if_neg (show ¬ i = pos l d0 by omega), if_neg (show ¬ i = pos l d0 - 1 by omega), Int.zero_mul]
 omega
theorem tube {l : List SRow} (hn : 1 ≤ l.length) (ht : tightOk l = true) : Tube l.length (lowN l) (highN l) := by
 have hle : ∀ i, i < l.length → lowN l i ≤ highN l i := fun i hi => by
  unfold tightOk at ht
  rw [List.all_eq_true] at ht
  exact of_decide_eq_true (ht i (List.mem_range.2 hi))
 refine ⟨hle, fun i j hij hj => ?_, fun i j hij hj => ?_⟩
 ·obtain ⟨d, rfl⟩ : ∃ d, j = i + d := ⟨j - i, by omega⟩
  clear hij
  induction d with
  | zero => exact Int.le_refl _
  | succ d ih =>
   have := ih (by omega)
   have h2 : lowN l (i + d) ≤ lowN l (i + d + 1) := by rw [lowN_succ]; exact mx_right
   have e : i + (d + 1) = i + d + 1 := by omega
   rw [e]; omega
 obtain ⟨d, rfl⟩ : ∃ d, j = i + d := ⟨j - i, by omega⟩
 clear hij
 induction d with
 | zero => exact Int.le_refl _
 | succ d ih =>
  have := ih (by omega)
  have h2 : highN l (i + d) ≤ highN l (i + d + 1) := by rw [highN_succ l (i + d) (by omega)]; exact mn_right
  have e : i + (d + 1) = i + d + 1 := by omega
  rw [e]; omega
theorem chartOk_iff (l : List SRow) : ∀ (last : Int) (c : List Int), c.length = l.length → (chartOk last l c = true ↔ (∀ i, i < l.length → loR l i ≤ c.getD i 0 ∧ c.getD i 0 ≤ hiR l i ∧ last ≤ c.getD i 0) ∧ Up l.length (fun i => c.getD i 0)) := by
 induction l with
 | nil => intro last c _; exact ⟨fun _ => ⟨fun i hi => absurd hi (Nat.not_lt_zero _), fun i j _ hj => absurd hj (Nat.not_lt_zero _)⟩, fun _ => by simp [chartOk]⟩
 | cons r l ih =>
  intro last c hc
  cases c with
  | nil => simp at hc
  | cons n c =>
   have hc2 : c.length = l.length := by simpa using hc
   rw [chartOk, Bool.and_eq_true, inB_iff, ih n c hc2]
   have hm : mx last r.f1.f0 ≤ n ↔ last ≤ n ∧ r.f1.f0 ≤ n := by unfold mx; split <;> omega
   rw [hm]
   constructor
   ·rintro ⟨⟨⟨h1, h2⟩, h3⟩, h4, h5⟩
    refine ⟨fun i hi => ?_, fun i j hij hj => ?_⟩
    ·cases i with
     | zero => exact ⟨h2, h3, h1⟩
     | succ i =>
      obtain ⟨g1, g2, g3⟩ := h4 i (by simpa using hi)
      exact ⟨g1, g2, by simpa using Int.le_trans h1 g3⟩
    cases i with
    | zero =>
     cases j with
     | zero => exact Int.le_refl _
     | succ j => simpa using (h4 j (by simpa using hj)).2.2
    | succ i =>
     cases j with
     | zero => omega
     | succ j => simpa using h5 i j (by omega) (by simpa using hj)
   rintro ⟨h1, h2⟩
   obtain ⟨g1, g2, g3⟩ := h1 0 (by simp)
   refine ⟨⟨⟨g3, g1⟩, g2⟩, fun i hi => ?_, fun i j hij hj => ?_⟩
   ·obtain ⟨k1, k2, _⟩ := h1 (i + 1) (by simpa using hi)
    exact ⟨k1, k2, by simpa using h2 0 (i + 1) (by omega) (by simpa using hi)⟩
   simpa using h2 (i + 1) (j + 1) (by omega) (by simpa using hj)
theorem chart_in {l : List SRow} {c : List Int} (hc : c.length = l.length) (h : chartOk 0 l c = true) : In l.length (lowN l) (highN l) (fun i => c.getD i 0) ∧ Up l.length (fun i => c.getD i 0) := by
 obtain ⟨h1, h2⟩ := (chartOk_iff l 0 c hc).1 h
 refine ⟨⟨fun i hi => ?_, fun i hi => ?_⟩, h2⟩
 ·obtain ⟨k, hk, e⟩ := lowN_of l i
  rw [e]
  exact Int.le_trans (h1 k (by omega)).1 (h2 k i hk hi)
 obtain ⟨k, hk, hk2, e⟩ := highN_of l (l.length - (i + 1)) i (by omega)
 rw [e]
 exact Int.le_trans (h2 i k hk hk2) (h1 k hk2).2.1
theorem chart_of {l : List SRow} {p : Int} (hT : TankOk l p) {c : List Int} (hc : c.length = l.length) (hin : In l.length (lowN l) (highN l) (fun i => c.getD i 0)) (hup : Up l.length (fun i => c.getD i 0)) : checkChart l p c = 0 ↔ checkTank l p = 0 := by
 have hok : chartOk 0 l c = true := (chartOk_iff l 0 c hc).2 ⟨fun i hi => by
  have h1 := hin.lo i hi
  have h2 := hin.hi i hi
  have h3 := hT.lowN_in i hi
  have h4 := highN_le l (l.length - (i + 1)) i (by omega) i (Nat.le_refl _) hi
  exact ⟨by omega, by omega, by omega⟩, hup⟩
 unfold checkChart
 constructor
 ·intro h
  split at h
  ·rename_i h2; exact absurd h h2
  rename_i h2; exact Classical.byContradiction h2
 intro h
 rw [if_neg (by simp [h]), if_neg (by simp [hc]), if_pos hok]
end Go.Proofs.Ytpkajhmchcbbhaa.P
end
section
namespace Go.Proofs.Ytpkajhmchcbbhaa.P
open Go.RowKit Go.Proofs.YtpkajhmchcbbhaaW.PrintWords Go.Proofs.YtpkajhmchcbbhaaW.PrintLast Go.Proofs.YtpkajhmchcbbhaaW.PrintMore
theorem tightL_len (l : List SRow) : (tightL l).length = l.length := by simp [tightL]
theorem rdTight (l : List SRow) (i : Nat) (hi : i < l.length) : rd_T43 (tightL l) (i : Int) = ⟨lowN l i, highN l i⟩ := by rw [rdT_nat, tightL_get l i hi]
theorem range_getD (f : Nat → Int) (n i : Nat) (hi : i < n) : ((List.range n).map f).getD i 0 = f i := by
 rw [List.getD_eq_getElem?_getD, List.getElem?_map, List.getElem?_range hi]; rfl
structure Chart (l : List SRow) (c : List Int) : Prop where
 len : c.length = l.length
 inn : In l.length (lowN l) (highN l) (fun i => c.getD i 0)
 up : Up l.length (fun i => c.getD i 0)
theorem Chart.mem {l : List SRow} {p : Int} (hT : TankOk l p) {c : List Int} (h : Chart l c) : ∀ x, x ∈ c → 0 ≤ x ∧ x ≤ 100000 := by
 intro x hx
 obtain ⟨i, hi, e⟩ := List.getElem_of_mem hx
 have hl := h.len
 have h1 := h.inn.lo i (by omega)
 have h2 := h.inn.hi i (by omega)
 have e2 : c.getD i 0 = x := by rw [List.getD_eq_getElem?_getD, List.getElem?_eq_getElem hi, e]; rfl
 simp only [e2] at h1 h2
 have h3 := hT.lowN_in i (by omega)
 have h4 := hT.highN_in i (by omega)
 omega
theorem ring_a (u v a b x : Int) : (u * a - v * b) * x = a * (u * x) + (-b) * (v * x) := by
 rw [Int.sub_mul, Int.neg_mul, ← Int.mul_assoc a u x, ← Int.mul_assoc b v x, Int.mul_comm a u, Int.mul_comm b v]; omega
end Go.Proofs.Ytpkajhmchcbbhaa.P
end
section
namespace Go.Proofs.Ytpkajhmchcbbhaa.P
open Go.RowKit Go.Proofs.YtpkajhmchcbbhaaW.PrintWords Go.Proofs.YtpkajhmchcbbhaaW.PrintLast Go.Proofs.YtpkajhmchcbbhaaW.PrintMore
structure Fine (l : List SRow) (p : Int) : Prop where
 tank : TankOk l p
 check : checkTank l p = 0
 tight : tightOk l = true
theorem fine_ev (l : List SRow) (p : Int) : ∃ b : Bool, Ev (fun k => forecourtlaw01_fine.f k l p) b ∧ (b = true → Fine l p) := by
 unfold forecourtlaw01_fine.f forecourtlaw01_great.f
 simp only [Option.bind_some]
 by_cases h25 : (l.length : Int) > 25
 ·refine ⟨false, ?_, fun h => by cases h⟩
  simp only [decide_eq_true h25, if_true]
  exact Ev.now _
 simp only [decide_eq_false h25, Bool.false_eq_true, if_false]
 have hn : l.length ≤ 1000 := by omega
 by_cases h : checkTank l p = 0
 ·refine ⟨tightOk l, Ev.bind (refCheckTank_ev l p hn) ?_, fun ht => ⟨tankOk_of h, h, ht⟩⟩
  simp only [if_pos h]
  refine Ev.bind (refClashes_ev l p hn) ?_
  rw [clashes_of h, Bool.not_not]
  exact Ev.now _
 refine ⟨false, Ev.bind (refCheckTank_ev l p hn) ?_, fun h => by cases h⟩
 simp only [if_neg h]
 exact Ev.now _
structure SoFar (l : List SRow) (i : Nat) (out : List Int) (last : Int) : Prop where
 len : out.length = i
 lo : ∀ j, j < i → lowN l j ≤ out.getD j 0
 hi : ∀ j, j < i → out.getD j 0 ≤ highN l j
 up : ∀ j m, j ≤ m → m < i → out.getD j 0 ≤ out.getD m 0
 bnd : ∀ j, j < i → out.getD j 0 ≤ last
 top : ∀ j, i = j + 1 → last ≤ highN l j
 zero : i = 0 → last = 0
theorem SoFar.snoc {l : List SRow} {p : Int} (hF : Fine l p) {i : Nat} {out : List Int} {last x : Int} (h : SoFar l i out last) (hi : i < l.length) (h0 : mx last (lowN l i) ≤ x) (h1 : x ≤ highN l i) : SoFar l (i + 1) (out ++ [x]) x := by
 have hg : ∀ j, j < i → (out ++ [x]).getD j 0 = out.getD j 0 := fun j hj => by
  rw [List.getD_eq_getElem?_getD, List.getElem?_append_left (by have := h.len; omega), ← List.getD_eq_getElem?_getD]
 have hx : (out ++ [x]).getD i 0 = x := by
  rw [List.getD_eq_getElem?_getD, List.getElem?_append_right (by have := h.len; omega), h.len, Nat.sub_self]; rfl
 have hlast : last ≤ x := by unfold mx at h0; split at h0 <;> omega
 have hlow : lowN l i ≤ x := by unfold mx at h0; split at h0 <;> omega
 refine ⟨by rw [List.length_append, h.len]; rfl, fun j hj => ?_, fun j hj => ?_, fun j m hjm hm => ?_, fun j hj => ?_, fun j hj => ?_, fun h => by omega⟩
 ·by_cases hji : j < i
  ·rw [hg j hji]; exact h.lo j hji
  obtain rfl : j = i := by omega
  rw [hx]; exact hlow
 ·by_cases hji : j < i
  ·rw [hg j hji]; exact h.hi j hji
  obtain rfl : j = i := by omega
  rw [hx]; exact h1
 ·by_cases hmi : m < i
  ·rw [hg j (by omega), hg m hmi]; exact h.up j m hjm hmi
  obtain rfl : m = i := by omega
  rw [hx]
  by_cases hji : j < m
  ·rw [hg j hji]; exact Int.le_trans (h.bnd j hji) hlast
  obtain rfl : j = m := by omega
  rw [hx]; exact Int.le_refl _
 ·by_cases hji : j < i
  ·rw [hg j hji]; exact Int.le_trans (h.bnd j hji) hlast
  obtain rfl : j = i := by omega
  rw [hx]; exact Int.le_refl _
 obtain rfl : j = i := by omega
 exact h1
theorem true_l0 {l : List SRow} {p : Int} (hF : Fine l p) (by_ : List Int) (hb : ∀ x, x ∈ by_ → 0 ≤ x ∧ x ≤ 4294967295) (hbl : by_.length ≤ 1000) (d : Nat) : ∀ (i : Nat) (out : List Int) (last : Int), i + d = l.length → SoFar l i out last →
  ∃ c, Chart l c ∧ Ev (fun k => forecourtlaw01_True.l0 k by_ (tightL l) out last i) c := by
 have h16 := hF.tank.n16
 have htl : (tightL l).length = l.length := tightL_len l
 induction d with
 | zero =>
  intro i out last hi hs
  obtain rfl : i = l.length := by omega
  refine ⟨out, ⟨hs.len, ⟨hs.lo, hs.hi⟩, fun j m hjm hm => hs.up j m hjm hm⟩, Ev.step (f := fun _ => some out) (fun k => ?_) (Ev.now _)⟩
  simp only [forecourtlaw01_True.l0]
  rw [htl, if_neg (by omega)]
 | succ d ih =>
  intro i out last hi hs
  have hil : i < l.length := by omega
  have b1 := hF.tank.lowN_in i hil
  have b2 := hF.tank.highN_in i hil
  have hT := tube (by omega) hF.tight
  have hle := hT.le i hil
  have hlo : mx last (lowN l i) ≤ highN l i := by
   have : last ≤ highN l i := by
    cases i with
    | zero => rw [hs.zero rfl]; omega
    | succ j =>
     have h1 := hs.top j rfl
     have h2 := hT.high j (j + 1) (by omega) hil
     omega
   unfold mx; split <;> omega
  have hlow : lowN l i ≤ mx last (lowN l i) := mx_right
  by_cases h0 : by_.length = 0
  ·obtain ⟨c, hc, hev⟩ := ih (i + 1) (out ++ [mx last (lowN l i)]) (mx last (lowN l i)) (by omega) (hs.snoc hF hil (Int.le_refl _) hlo)
   refine ⟨c, hc, Ev.step (fun k => ?_) hev⟩
   simp only [forecourtlaw01_True.l0]
   rw [htl, if_pos (by omega), if_pos (by omega), if_neg (by omega), if_pos (by have := hs.len; omega), rdTight l i hil, wrap_nat i (by omega)]
  have hm0 : 0 < by_.length := by omega
  have em : Int.tmod (i : Int) (by_.length : Int) = ((i % by_.length : Nat) : Int) := by rw [Int.tmod_eq_emod_of_nonneg (by omega)]; rfl
  have hml : i % by_.length < by_.length := Nat.mod_lt _ hm0
  have hx : 0 ≤ by_.getD (i % by_.length) 0 ∧ by_.getD (i % by_.length) 0 ≤ 4294967295 := hb _ (by rw [List.getD_eq_getElem?_getD, List.getElem?_eq_getElem hml]; exact List.getElem_mem _)
  have hw1 : wrap64 (highN l i - mx last (lowN l i)) = highN l i - mx last (lowN l i) := wrap_id (by omega)
  have hw2 : wrap64 (highN l i - mx last (lowN l i) + 1) = highN l i - mx last (lowN l i) + 1 := wrap_id (by omega)
  have hr : Int.tmod (by_.getD (i % by_.length) 0) (highN l i - mx last (lowN l i) + 1) = by_.getD (i % by_.length) 0 % (highN l i - mx last (lowN l i) + 1) := Int.tmod_eq_emod_of_nonneg hx.1
  have hr0 := Int.emod_nonneg (by_.getD (i % by_.length) 0) (show highN l i - mx last (lowN l i) + 1 ≠ 0 by omega)
  have hr1 := Int.emod_lt_of_pos (by_.getD (i % by_.length) 0) (show 0 < highN l i - mx last (lowN l i) + 1 by omega)
  obtain ⟨c, hc, hev⟩ := ih (i + 1) (out ++ [mx last (lowN l i) + by_.getD (i % by_.length) 0 % (highN l i - mx last (lowN l i) + 1)]) (mx last (lowN l i) + by_.getD (i % by_.length) 0 % (highN l i - mx last (lowN l i) + 1)) (by omega) (hs.snoc hF hil (by omega) (by omega))
  refine ⟨c, hc, Ev.step (fun k => ?_) hev⟩
  simp only [forecourtlaw01_True.l0]
  rw [htl, if_pos (by omega), if_pos (by omega), if_pos (by omega), if_neg (by omega), em, if_pos (by omega), if_pos (by omega), rdTight l i hil]
  simp only
  rw [hw1, hw2, if_neg (by omega), if_pos (by have := hs.len; omega), rd_nat, wrap_id (x := by_.getD (i % by_.length) 0) (by omega), hr, wrap_id (x := mx last (lowN l i) + _) (by omega), wrap_nat i (by omega)]
theorem true_ev {l : List SRow} {p : Int} (hF : Fine l p) (by_ : List Int) (hb : ∀ x, x ∈ by_ → 0 ≤ x ∧ x ≤ 4294967295) (hbl : by_.length ≤ 1000) : ∃ c, Chart l c ∧ Ev (fun k => forecourtlaw01_True.f k l p by_) c := by
 have h16 := hF.tank.n16
 obtain ⟨c, hc, hev⟩ := true_l0 hF by_ hb hbl l.length 0 [] 0 (by omega) ⟨rfl, fun j hj => by omega, fun j hj => by omega, fun j m _ hm => by omega, fun j hj => by omega, fun j hj => by omega, fun _ => rfl⟩
 refine ⟨c, hc, Ev.bind (refTight_ev l p (by omega)) ?_⟩
 have e : openE l p [] = 0 := by
  unfold openE
  rw [if_neg (by simp [hF.check]), if_neg (by simp), if_pos hF.tight]
 rw [if_pos e]
 exact hev
theorem read_f {l : List SRow} {p : Int} (hT : TankOk l p) (x : Int) (hx : 0 ≤ x ∧ x ≤ 65535) : ∃ d, forecourtlaw01_Read.f l p x = some d ∧ firstD l ≤ d ∧ d ≤ lastD l := by
 have hn := hT.n2
 have h16 := hT.n16
 have hf := hT.first_last
 have e0 : rd_T70 l 0 = l.getD 0 zRow := rfl
 have e1 : wrap64 ((l.length : Int) - 1) = ((l.length - 1 : Nat) : Int) := by unfold wrap64; omega
 have k0 : (l.getD 0 zRow).f0 = firstD l := rfl
 have k1 : (l.getD (l.length - 1) zRow).f0 = lastD l := rfl
 have hr0 := Int.emod_nonneg x (show lastD l - firstD l + 1 ≠ 0 by omega)
 have hr1 := Int.emod_lt_of_pos x (show 0 < lastD l - firstD l + 1 by omega)
 refine ⟨firstD l + x % (lastD l - firstD l + 1), ?_, by omega, by omega⟩
 unfold forecourtlaw01_Read.f
 rw [if_pos (by omega), e0, e1, rdR_nat, if_pos (by omega), if_pos (by omega), k0, k1, wrap_id (x := lastD l - firstD l) (by omega), wrap_id (x := lastD l - firstD l + 1) (by omega), if_neg (by omega), wrap_id (x := x) (by omega),
  Int.tmod_eq_emod_of_nonneg hx.1, wrap_id (x := firstD l + _) (by omega)]
end Go.Proofs.Ytpkajhmchcbbhaa.P
end
