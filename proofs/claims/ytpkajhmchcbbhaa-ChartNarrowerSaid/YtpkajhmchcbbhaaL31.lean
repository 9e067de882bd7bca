/- Part 31 of 44. -/
import Derived.Test.YtpkajhmchcbbhaaL18
import Derived.Test.YtpkajhmchcbbhaaL30
import Derived.Test.YtpkajhmchcbbhaaL23
import Derived.Test.YtpkajhmchcbbhaaL4
import Derived.Test.YtpkajhmchcbbhaaL5
import Derived.Test.YtpkajhmchcbbhaaL9
import Derived.Test.YtpkajhmchcbbhaaL10
import Derived.Test.YtpkajhmchcbbhaaL11
import Derived.Test.YtpkajhmchcbbhaaL19
import Derived.Test.YtpkajhmchcbbhaaL6
import Derived.Test.YtpkajhmchcbbhaaL7
set_option linter.unusedSimpArgs false
set_option linter.unusedVariables false
section
namespace Go.Proofs.Ytpkajhmchcbbhaa.P
open Go.RowKit Go.Proofs.YtpkajhmchcbbhaaW.PrintWords Go.Proofs.YtpkajhmchcbbhaaW.PrintLast Go.Proofs.YtpkajhmchcbbhaaW.PrintMore
theorem pos_in {l : List SRow} {p : Int} (hT : TankOk l p) (d : Int) (h0 : firstD l ≤ d) (h1 : d ≤ lastD l) : dipN l (pos l d - 1) ≤ d ∧ d ≤ dipN l (pos l d) := by
 obtain ⟨p1, p2, p3, p4⟩ := pos_spec hT.n2 d
 constructor
 ·by_cases hq : pos l d = 1
  ·rw [hq]; exact h0
  have := p3 (pos l d - 1) (by omega) (by omega); omega
 by_cases hq : pos l d < l.length - 1
 ·exact p4 hq
 have e : pos l d = l.length - 1 := by omega
 rw [e]; exact h1
theorem pos_le {l : List SRow} {p : Int} (hT : TankOk l p) {d0 d1 : Int} (h : d0 ≤ d1) : pos l d0 ≤ pos l d1 := by
 obtain ⟨p1, p2, p3, p4⟩ := pos_spec hT.n2 d0
 obtain ⟨q1, q2, q3, q4⟩ := pos_spec hT.n2 d1
 rcases Nat.lt_or_ge (pos l d1) (pos l d0) with hlt | hge
 ·have e1 := q4 (by omega)
  have e2 := p3 (pos l d1) q1 hlt
  omega
 exact hge
theorem bw_at (l : List SRow) (d0 d1 : Int) (i : Nat) (hi : i < 16) : (bwts l d0 d1).getD i 0 = (wts l d1).getD i 0 * wden l d0 - (wts l d0).getD i 0 * wden l d1 := by
 rw [← bw_end, bw_get _ _ _ _ _ _ hi, if_pos hi]
def bwF (l : List SRow) (d0 d1 : Int) (i : Nat) : Int := (bwts l d0 d1).getD i 0
theorem wts_sum {l : List SRow} {p : Int} (hT : TankOk l p) (d : Int) : sumN l.length (fun i => (wts l d).getD i 0) = wden l d := by
 obtain ⟨p1, p2, _, _⟩ := pos_spec hT.n2 d
 have h16 := hT.n16
 obtain ⟨j, hj⟩ : ∃ j, pos l d = j + 1 := ⟨pos l d - 1, by omega⟩
 rw [sumN_congr (g := fun i => (if i = j + 1 then (d - dipN l j) else if i = j then (dipN l (j + 1) - d) else 0) * (fun _ => (1 : Int)) i) (fun i hi => by
  rw [wts_get hT.dipOk d i (by omega), hj, Nat.add_sub_cancel, Int.mul_one]), sumN_two l.length j _ _ (fun _ => 1) (by omega)]
 unfold wden
 rw [hj, Nat.add_sub_cancel]
 omega
theorem bw_sum {l : List SRow} {p : Int} (hT : TankOk l p) (d0 d1 : Int) : sumN l.length (bwF l d0 d1) = 0 := by
 have h16 := hT.n16
 rw [sumN_congr (g := fun i => wden l d0 * (wts l d1).getD i 0 + (-wden l d1) * (wts l d0).getD i 0) (fun i hi => by
  unfold bwF
  rw [bw_at l d0 d1 i (by omega), Int.mul_comm (wden l d0), Int.neg_mul, Int.mul_comm (wden l d1)]; omega), sumN_add, sumN_mul, sumN_mul, wts_sum hT, wts_sum hT, Int.neg_mul, Int.mul_comm]
 omega
theorem bw_signs {l : List SRow} {p : Int} (hT : TankOk l p) {d0 d1 : Int} (h0 : firstD l ≤ d0) (h01 : d0 ≤ d1) (h1 : d1 ≤ lastD l) : ∃ s, Signs l.length (bwF l d0 d1) s ∧ s ≤ l.length := by
 have h16 := hT.n16
 obtain ⟨p1, p2, _, _⟩ := pos_spec hT.n2 d0
 obtain ⟨q1, q2, _, _⟩ := pos_spec hT.n2 d1
 obtain ⟨a1, a2⟩ := pos_in hT d0 h0 (by omega)
 obtain ⟨b1, b2⟩ := pos_in hT d1 (by omega) h1
 have hPQ := pos_le hT h01
 have ha := hT.wden_pos d0
 have hb := hT.wden_pos d1
 have hW : ∀ i, i < l.length → bwF l d0 d1 i = (if i = pos l d1 then d1 - dipN l (pos l d1 - 1) else if i = pos l d1 - 1 then dipN l (pos l d1) - d1 else 0) * wden l d0 -
   (if i = pos l d0 then d0 - dipN l (pos l d0 - 1) else if i = pos l d0 - 1 then dipN l (pos l d0) - d0 else 0) * wden l d1 := fun i hi => by
  unfold bwF
  rw [bw_at l d0 d1 i (by omega), wts_get hT.dipOk d1 i (by omega), wts_get hT.dipOk d0 i (by omega)]
 have hw0 : ∀ i : Nat, 0 ≤ (if i = pos l d0 then d0 - dipN l (pos l d0 - 1) else if i = pos l d0 - 1 then dipN l (pos l d0) - d0 else 0) * wden l d1 := fun i => by
  refine Int.mul_nonneg ?_ (by omega)
  (repeat' split) <;> omega
 have hw1 : ∀ i : Nat, 0 ≤ (if i = pos l d1 then d1 - dipN l (pos l d1 - 1) else if i = pos l d1 - 1 then dipN l (pos l d1) - d1 else 0) * wden l d0 := fun i => by
  refine Int.mul_nonneg ?_ (by omega)
  (repeat' split) <;> omega
 have hQ : pos l d0 = pos l d1 → bwF l d0 d1 (pos l d1 - 1) ≤ 0 ∧ 0 ≤ bwF l d0 d1 (pos l d1) := by
  intro e
  have ed : wden l d1 = wden l d0 := by unfold wden; rw [e]
  constructor
  ·rw [hW _ (by omega), if_neg (by omega), if_pos rfl, e, if_neg (by omega), if_pos rfl, ed, ← Int.sub_mul]
   exact Int.mul_nonpos_of_nonpos_of_nonneg (by omega) (by omega)
  rw [hW _ (by omega), if_pos rfl, e, if_pos rfl, ed, ← Int.sub_mul]
  exact Int.mul_nonneg (by omega) (by omega)
 refine ⟨if 0 < bwF l d0 d1 (pos l d1 - 1) then pos l d1 - 1 else pos l d1, ⟨fun i hi hs => ?_, fun i hi hs => ?_, bw_sum hT d0 d1⟩, by split <;> omega⟩
 ·by_cases hc : 0 < bwF l d0 d1 (pos l d1 - 1)
  ·rw [if_pos hc] at hs
   rw [hW i hi, if_neg (by omega), if_neg (by omega), Int.zero_mul]
   have := hw0 i
   omega
  rw [if_neg hc] at hs
  by_cases hi2 : i = pos l d1 - 1
  ·rw [hi2]; omega
  rw [hW i hi, if_neg (by omega), if_neg hi2, Int.zero_mul]
  have := hw0 i
  omega
 by_cases hi2 : i = pos l d1 - 1
 ·by_cases hc : 0 < bwF l d0 d1 (pos l d1 - 1)
  ·rw [hi2]; omega
  rw [if_neg hc] at hs; omega
 have hge : pos l d1 ≤ i := by
  by_cases hc : 0 < bwF l d0 d1 (pos l d1 - 1)
  ·rw [if_pos hc] at hs; omega
  rw [if_neg hc] at hs; exact hs
 by_cases hPe : pos l d0 = pos l d1
 ·by_cases hie : i = pos l d1
  ·rw [hie]; exact (hQ hPe).2
  rw [hW i hi, if_neg hie, if_neg hi2, if_neg (by omega), if_neg (by omega)]; simp
 have := hw1 i
 rw [hW i hi, if_neg (show ¬ i = pos l d0 by omega), if_neg (show ¬ i = pos l d0 - 1 by omega), Int.zero_mul]
 omega
theorem tube {l : List SRow} (hn : 1 ≤ l.length) (ht : tightOk l = true) : Tube l.length (lowN l) (highN l) := by
 have hle : ∀ i, i < l.length → lowN l i ≤ highN l i := fun i hi => by
  unfold tightOk at ht
  rw [List.all_eq_true] at ht
  exact of_decide_eq_true (ht i (List.mem_range.2 hi))
 refine ⟨hle, fun i j hij hj => ?_, fun i j hij hj => ?_⟩
 ·obtain ⟨d, rfl⟩ : ∃ d, j = i + d := ⟨j - i, by omega⟩
  clear hij
  induction d with
  | zero => exact Int.le_refl _
  | succ d ih =>
   have := ih (by omega)
   have h2 : lowN l (i + d) ≤ lowN l (i + d + 1) := by rw [lowN_succ]; exact mx_right
   have e : i + (d + 1) = i + d + 1 := by omega
   rw [e]; omega
 obtain ⟨d, rfl⟩ : ∃ d, j = i + d := ⟨j - i, by omega⟩
 clear hij
 induction d with
 | zero => exact Int.le_refl _
 | succ d ih =>
  have := ih (by omega)
  have h2 : highN l (i + d) ≤ highN l (i + d + 1) := by rw [highN_succ l (i + d) (by omega)]; exact mn_right
  have e : i + (d + 1) = i + d + 1 := by omega
  rw [e]; omega
theorem dot_bw {l : List SRow} {p : Int} (hT : TankOk l p) (d0 d1 : Int) (c : List Int) (h1 : l.length ≤ c.length) (h2 : c.length ≤ 16) : dot (bwts l d0 d1) c = wsum l.length (bwF l d0 d1) (fun i => c.getD i 0) := by
 have hl : (bwts l d0 d1).length = 16 := by rw [← bw_end, bw_length]
 rw [dot_n _ _ l.length (by omega) h1 (fun i hi hi2 => ?_)]
 ·rfl
 obtain ⟨p1, p2, _, _⟩ := pos_spec hT.n2 d0
 obtain ⟨q1, q2, _, _⟩ := pos_spec hT.n2 d1
 rw [bw_at l d0 d1 i (by omega), wts_get hT.dipOk d1 i (by omega), wts_get hT.dipOk d0 i (by omega), if_neg (by omega), if_neg (by omega), if_neg (by omega), if_neg (by omega)]
 simp
theorem wsum_congr {n : Nat} {w c e : Nat → Int} (h : ∀ i, i < n → c i = e i) : wsum n w c = wsum n w e := sumN_congr fun i hi => by rw [h i hi]
theorem mostC_step {l : List SRow} {p : Int} (hT : TankOk l p) {d0 d1 : Int} (h0 : firstD l ≤ d0) (h01 : d0 ≤ d1) (h1 : d1 ≤ lastD l) :
  ∃ s, Signs l.length (bwF l d0 d1) s ∧ s ≤ l.length ∧ ∀ i, i < l.length → (mostC l d0 d1).getD i 0 = if i < s then lowN l i else highN l i := by
 have h16 := hT.n16
 obtain ⟨s0, hs0, hsl⟩ := bw_signs hT h0 h01 h1
 have hl : (bwts l d0 d1).length = 16 := by rw [← bw_end, bw_length]
 have hz : ∀ i, l.length ≤ i → i < 16 → (bwts l d0 d1).getD i 0 = 0 := fun i hi hi2 => by
  obtain ⟨p1, p2, _, _⟩ := pos_spec hT.n2 d0
  obtain ⟨q1, q2, _, _⟩ := pos_spec hT.n2 d1
  rw [bw_at l d0 d1 i (by omega), wts_get hT.dipOk d1 i (by omega), wts_get hT.dipOk d0 i (by omega), if_neg (by omega), if_neg (by omega), if_neg (by omega), if_neg (by omega)]
  simp
 unfold mostC
 rw [pad16_lows h16, pad16_highs h16]
 by_cases hany : ∃ k, k < 16 ∧ 0 < (bwts l d0 d1).getD k 0
 ·
  have hmin : ∃ k, k < 16 ∧ 0 < (bwts l d0 d1).getD k 0 ∧ ∀ j, j < k → ¬ 0 < (bwts l d0 d1).getD j 0 := by
   obtain ⟨k, hk, hp⟩ := hany
   induction k using Nat.strongRecOn with
   | _ k ih =>
    by_cases hq : ∃ j, j < k ∧ 0 < (bwts l d0 d1).getD j 0
    ·obtain ⟨j, hj, hpj⟩ := hq
     exact ih j hj (by omega) hpj
    exact ⟨k, hk, hp, fun j hj hpj => hq ⟨j, hj, hpj⟩⟩
  obtain ⟨k, hk, hp, hno⟩ := hmin
  have hidx : idxF (fun n : Int => decide (0 < n)) (bwts l d0 d1) = k := idxF_at _ _ k 0 (by omega) (fun j hj => by simpa using hno j hj) (by simpa using hp)
  have hkl : k < l.length := by
   rcases Nat.lt_or_ge k l.length with h | h
   ·exact h
   rw [hz k h hk] at hp; omega
  rw [hidx, if_neg (by omega)]
  refine ⟨k, ⟨fun i hi hs => ?_, fun i hi hs => ?_, hs0.sum⟩, by omega, fun i hi => ?_⟩
  ·have := hno i hs; unfold bwF; omega
  ·rcases Nat.lt_or_ge k s0 with h | h
   ·have := hs0.neg k hkl h; unfold bwF at this; omega
   exact hs0.pos i hi (by omega)
  rw [Int.toNat_natCast, List.getD_eq_getElem?_getD]
  have hlk : (LowAt l l.length).length = 16 := padRow_length _ _
  by_cases hik : i < k
  ·rw [if_pos hik, List.getElem?_append_left (by rw [List.length_take]; omega), List.getElem?_take, if_pos hik, ← List.getD_eq_getElem?_getD, LowAt_get l i hi h16]
  rw [if_neg hik, List.getElem?_append_right (by rw [List.length_take]; omega), List.length_take, Nat.min_eq_left (by omega), List.getElem?_drop, show k + (i - k) = i by omega, ← List.getD_eq_getElem?_getD, HighAt_get l i hi h16]
 have hidx : idxF (fun n : Int => decide (0 < n)) (bwts l d0 d1) = -1 := idxF_no _ _ 0 (fun j hj => by
  rw [hl] at hj
  have : ¬ 0 < (bwts l d0 d1).getD j 0 := fun h => hany ⟨j, hj, h⟩
  simpa using this)
 rw [hidx, if_pos (by omega)]
 refine ⟨l.length, ⟨fun i hi _ => ?_, fun i hi hs => by omega, hs0.sum⟩, Nat.le_refl _, fun i hi => ?_⟩
 ·have : ¬ 0 < (bwts l d0 d1).getD i 0 := fun h => hany ⟨i, by omega, h⟩
  unfold bwF; omega
 rw [if_pos hi, LowAt_get l i hi h16]
theorem mostC_length {l : List SRow} (h16 : l.length ≤ 16) (d0 d1 : Int) : (mostC l d0 d1).length = 16 := by
 rw [mostC_eq h16]
 exact mostL_length _ _ _ (padRow_length _ _) (padRow_length _ _) (by rw [← bw_end, bw_length])
theorem nearC_get {l : List SRow} (h16 : l.length ≤ 16) (u : Int) (i : Nat) (hi : i < l.length) : (nearC l u).getD i 0 = nearF (lowN l) (highN l) u i := by
 rw [nearC_eq h16]
 unfold nearL
 rw [padRow_get _ _ _ (by omega), if_pos hi, LowAt_get l i hi h16, HighAt_get l i hi h16]
 rfl
theorem fewF_best (l : List SRow) (d0 d1 : Int) (L : List Int) : ∀ u : Int, ∃ v, (v = u ∨ v ∈ L) ∧ fewF l d0 d1 L (some (dot (bwts l d0 d1) (nearC l u), nearC l u)) = some (dot (bwts l d0 d1) (nearC l v), nearC l v) ∧
  dot (bwts l d0 d1) (nearC l v) ≤ dot (bwts l d0 d1) (nearC l u) ∧ ∀ x, x ∈ L → dot (bwts l d0 d1) (nearC l v) ≤ dot (bwts l d0 d1) (nearC l x) := by
 induction L with
 | nil => intro u; exact ⟨u, .inl rfl, rfl, Int.le_refl _, fun x hx => by cases hx⟩
 | cons y L ih =>
  intro u
  rw [fewF]
  by_cases h : dot (bwts l d0 d1) (nearC l y) < dot (bwts l d0 d1) (nearC l u)
  ·rw [if_pos h]
   obtain ⟨v, h1, h2, h3, h4⟩ := ih y
   refine ⟨v, ?_, h2, by omega, fun x hx => ?_⟩
   ·rcases h1 with rfl | h1
    ·exact .inr List.mem_cons_self
    exact .inr (List.mem_cons_of_mem _ h1)
   rcases List.mem_cons.1 hx with rfl | hx
   ·exact h3
   exact h4 x hx
  rw [if_neg h]
  obtain ⟨v, h1, h2, h3, h4⟩ := ih u
  refine ⟨v, ?_, h2, h3, fun x hx => ?_⟩
  ·rcases h1 with rfl | h1
   ·exact .inl rfl
   exact .inr (List.mem_cons_of_mem _ h1)
  rcases List.mem_cons.1 hx with rfl | hx
  ·omega
  exact h4 x hx
theorem fewR_spec {l : List SRow} (hn : 1 ≤ l.length) (d0 d1 : Int) : ∃ v, v ∈ cands l l.length ∧ fewR l d0 d1 = (dot (bwts l d0 d1) (nearC l v), nearC l v) ∧ ∀ x, x ∈ cands l l.length → dot (bwts l d0 d1) (nearC l v) ≤ dot (bwts l d0 d1) (nearC l x) := by
 unfold fewR
 have hm : lowN l 0 ∈ cands l l.length := (mem_cands l l.length _).2 ⟨0, by omega, .inl rfl⟩
 cases hc : cands l l.length with
 | nil => rw [hc] at hm; cases hm
 | cons y L =>
  rw [fewF]
  obtain ⟨v, h1, h2, h3, h4⟩ := fewF_best l d0 d1 L y
  rw [h2]
  refine ⟨v, ?_, rfl, fun x hx => ?_⟩
  ·rcases h1 with rfl | h1
   ·exact List.mem_cons_self
   exact List.mem_cons_of_mem _ h1
  rcases List.mem_cons.1 hx with rfl | hx
  ·exact h3
  exact h4 x hx
end Go.Proofs.Ytpkajhmchcbbhaa.P
end
section
namespace Go.Proofs.Ytpkajhmchcbbhaa.P
open Go.RowKit Go.Proofs.YtpkajhmchcbbhaaW.PrintWords Go.Proofs.YtpkajhmchcbbhaaW.PrintLast Go.Proofs.YtpkajhmchcbbhaaW.PrintMore
def thrL (l : List SRow) (s : Nat) : List Int := (List.range l.length).map fun i => if i < s then lowN l i else highN l i
def nearL' (l : List SRow) (v : Int) : List Int := (List.range l.length).map (nearF (lowN l) (highN l) v)
def candAt (l : List SRow) (s : Nat) : Int := if s % 2 = 1 then highN l (s / 2) else lowN l (s / 2)
def extL (l : List SRow) : List (List Int) := (List.range (l.length + 1)).map (thrL l) ++ (List.range (2 * l.length)).map fun s => nearL' l (candAt l s)
theorem tightL_len (l : List SRow) : (tightL l).length = l.length := by simp [tightL]
theorem rdTight (l : List SRow) (i : Nat) (hi : i < l.length) : rd_T43 (tightL l) (i : Int) = ⟨lowN l i, highN l i⟩ := by rw [rdT_nat, tightL_get l i hi]
theorem range_getD (f : Nat → Int) (n i : Nat) (hi : i < n) : ((List.range n).map f).getD i 0 = f i := by
 rw [List.getD_eq_getElem?_getD, List.getElem?_map, List.getElem?_range hi]; rfl
structure Chart (l : List SRow) (c : List Int) : Prop where
 len : c.length = l.length
 inn : In l.length (lowN l) (highN l) (fun i => c.getD i 0)
 up : Up l.length (fun i => c.getD i 0)
theorem Chart.of_fun {l : List SRow} {f : Nat → Int} (h : In l.length (lowN l) (highN l) f ∧ Up l.length f) : Chart l ((List.range l.length).map f) :=
 ⟨by simp, ⟨fun i hi => by simp only [range_getD f _ i hi]; exact h.1.lo i hi, fun i hi => by simp only [range_getD f _ i hi]; exact h.1.hi i hi⟩, fun i j hij hj => by
  simp only [range_getD f _ i (show i < l.length by omega), range_getD f _ j hj]; exact h.2 i j hij hj⟩
theorem Chart.mem {l : List SRow} {p : Int} (hT : TankOk l p) {c : List Int} (h : Chart l c) : ∀ x, x ∈ c → 0 ≤ x ∧ x ≤ 100000 := by
 intro x hx
 obtain ⟨i, hi, e⟩ := List.getElem_of_mem hx
 have hl := h.len
 have h1 := h.inn.lo i (by omega)
 have h2 := h.inn.hi i (by omega)
 have e2 : c.getD i 0 = x := by rw [List.getD_eq_getElem?_getD, List.getElem?_eq_getElem hi, e]; rfl
 simp only [e2] at h1 h2
 have h3 := hT.lowN_in i (by omega)
 have h4 := hT.highN_in i (by omega)
 omega
theorem extL_chart {l : List SRow} (h1 : 1 ≤ l.length) (ht : tightOk l = true) : ∀ c, c ∈ extL l → Chart l c := by
 intro c hc
 have hT := tube h1 ht
 rcases List.mem_append.1 hc with hc | hc
 ·obtain ⟨s, _, rfl⟩ := List.mem_map.1 hc
  exact Chart.of_fun (step_in hT s)
 obtain ⟨s, _, rfl⟩ := List.mem_map.1 hc
 exact Chart.of_fun (near_in hT _)
theorem thr_mem (l : List SRow) (s : Nat) (hs : s ≤ l.length) : thrL l s ∈ extL l := List.mem_append_left _ (List.mem_map.2 ⟨s, List.mem_range.2 (by omega), rfl⟩)
theorem near_mem (l : List SRow) (u : Int) (hu : u ∈ cands l l.length) : nearL' l u ∈ extL l := by
 obtain ⟨j, hj, h⟩ := (mem_cands l l.length u).1 hu
 refine List.mem_append_right _ (List.mem_map.2 ?_)
 rcases h with rfl | rfl
 ·exact ⟨2 * j, List.mem_range.2 (by omega), by unfold candAt; rw [if_neg (by omega), show 2 * j / 2 = j by omega]⟩
 exact ⟨2 * j + 1, List.mem_range.2 (by omega), by unfold candAt; rw [if_pos (by omega), show (2 * j + 1) / 2 = j by omega]⟩
theorem ring_a (u v a b x : Int) : (u * a - v * b) * x = a * (u * x) + (-b) * (v * x) := by
 rw [Int.sub_mul, Int.neg_mul, ← Int.mul_assoc a u x, ← Int.mul_assoc b v x, Int.mul_comm a u, Int.mul_comm b v]; omega
end Go.Proofs.Ytpkajhmchcbbhaa.P
end
section
namespace Go.Proofs.Ytpkajhmchcbbhaa.P
open Go.RowKit Go.Proofs.YtpkajhmchcbbhaaW.PrintWords Go.Proofs.YtpkajhmchcbbhaaW.PrintLast Go.Proofs.YtpkajhmchcbbhaaW.PrintMore
theorem true_f {l : List SRow} {p : Int} (hT : TankOk l p) (d : Int) (h0 : firstD l ≤ d) (h1 : d ≤ lastD l) : forecourtref01_True.f l p d = some (trueLo l p d, trueHi l p d) := by
 have hn := hT.n2
 have h16 := hT.n16
 have hf := hT.first_last
 have hp := hT.p0
 have hp1 := hT.p1
 unfold forecourtref01_True.f trueLo trueHi
 have e0 : rd_T70 l 0 = l.getD 0 zRow := rfl
 have e1 : wrap64 ((l.length : Int) - 1) = ((l.length - 1 : Nat) : Int) := by unfold wrap64; omega
 rw [if_pos (by omega), e0, e1, rdR_nat, if_pos (by omega), if_pos (by omega), wrap_id (x := d - p) (by omega), wrap_id (x := d + p) (by omega)]
 rfl
theorem netError_ev (l : List SRow) (p water level : Int) (hn : l.length ≤ 1000) : Ev (fun k => forecourtref01_NetError.f k l p water level) (endsE l p water level) := by
 refine Ev.bind (refCheckTank_ev l p hn) ?_
 unfold endsE
 by_cases h : checkTank l p = 0
 ·have hT := tankOk_of h
  have hT2 := hT.n2
  simp only [if_pos h]
  have eo : openE l p [water, level] = if ([water, level].all fun d => inB (firstD l) (lastD l) d) = false then 3 else if tightOk l then 0 else 21 := by
   unfold openE; rw [if_neg (by simp [h])]
  refine Ev.bind (a := inB (firstD l) (lastD l) water) (by rw [inside_ev l p water (by omega) hn]; exact Ev.now _) ?_
  cases hw : inB (firstD l) (lastD l) water with
  | false =>
   simp only [Bool.false_eq_true, if_false]
   have e : ([water, level].all fun d => inB (firstD l) (lastD l) d) = false := by simp [hw]
   rw [if_pos e] at eo
   rw [eo, if_pos (show (3 : Int) ≠ 0 by omega)]
   exact Ev.step (f := fun _ => some 3) (fun k => by simp only [forecourtref01_NetError.j0, if_true]) (Ev.now _)
  | true =>
   simp only [if_true]
   refine Ev.bind (a := inB (firstD l) (lastD l) level) (by rw [inside_ev l p level (by omega) hn]; exact Ev.now _) ?_
   cases hl : inB (firstD l) (lastD l) level with
   | false =>
    have e : ([water, level].all fun d => inB (firstD l) (lastD l) d) = false := by simp [hw, hl]
    rw [if_pos e] at eo
    rw [eo, if_pos (show (3 : Int) ≠ 0 by omega)]
    exact Ev.step (f := fun _ => some 3) (fun k => by simp only [forecourtref01_NetError.j0, Bool.not_false, if_true]) (Ev.now _)
   | true =>
    have e : ¬ ([water, level].all fun d => inB (firstD l) (lastD l) d) = false := by simp [hw, hl]
    rw [if_neg e] at eo
    obtain ⟨w0, w1⟩ := (inB_iff _ _ _).1 hw
    obtain ⟨l0, l1⟩ := (inB_iff _ _ _).1 hl
    refine Ev.step (fun k => by simp only [forecourtref01_NetError.j0, Bool.not_true, Bool.false_eq_true, if_false]; exact rfl) ?_
    refine Ev.bind (refClashes_ev l p hn) ?_
    rw [clashes_of h]
    cases ht : tightOk l with
    | false =>
     rw [ht] at eo
     simp only [Bool.not_false, if_true]
     rw [if_neg (by simp)] at eo
     rw [eo, if_pos (show (21 : Int) ≠ 0 by omega)]
     exact Ev.now _
    | true =>
     rw [ht, if_pos rfl] at eo
     simp only [Bool.not_true, Bool.false_eq_true, if_false]
     refine Ev.bind (a := (trueLo l p water, trueHi l p water)) (by rw [true_f hT water w0 w1]; exact Ev.now _) (Ev.bind (a := (trueLo l p level, trueHi l p level)) (by rw [true_f hT level l0 l1]; exact Ev.now _) ?_)
     rw [eo, if_neg (show ¬ (0 : Int) ≠ 0 by simp)]
     by_cases hc : trueHi l p level < trueLo l p water
     ·simp only [if_pos (show trueLo l p water > trueHi l p level from hc), if_pos hc]; exact Ev.now _
     simp only [if_neg (show ¬ trueLo l p water > trueHi l p level from hc), if_neg hc]; exact Ev.now _
 have eo : openE l p [water, level] = checkTank l p := by unfold openE; rw [if_pos h]
 simp only [if_neg h]
 rw [eo, if_pos h]
 exact Ev.bind (refCheckTank_ev l p hn) (Ev.now _)
structure Asked (l : List SRow) (p water level : Int) : Prop where
 tank : TankOk l p
 check : checkTank l p = 0
 tight : tightOk l = true
 w0 : firstD l ≤ water
 w1 : water ≤ lastD l
 l0 : firstD l ≤ level
 l1 : level ≤ lastD l
 order : trueLo l p water ≤ trueHi l p level
theorem asked_of {l : List SRow} {p water level : Int} (h : endsE l p water level = 0) : Asked l p water level := by
 unfold endsE at h
 by_cases ho : openE l p [water, level] = 0
 ·rw [if_neg (by simp [ho])] at h
  have hord : ¬ trueHi l p level < trueLo l p water := by
   intro hc
   rw [if_pos hc] at h
   cases h
  unfold openE at ho
  by_cases hc : checkTank l p = 0
  ·rw [if_neg (by simp [hc])] at ho
   by_cases ha : ([water, level].all fun d => inB (firstD l) (lastD l) d) = true
   ·rw [if_neg (by rw [ha]; simp)] at ho
    have ht : tightOk l = true := by
     cases ht : tightOk l with
     | true => rfl
     | false => rw [ht] at ho; cases ho
    simp only [List.all_cons, List.all_nil, Bool.and_true, Bool.and_eq_true] at ha
    obtain ⟨g1, g2⟩ := (inB_iff _ _ _).1 ha.1
    obtain ⟨g3, g4⟩ := (inB_iff _ _ _).1 ha.2
    exact ⟨tankOk_of hc, hc, ht, g1, g2, g3, g4, by omega⟩
   rw [if_pos (by simpa using ha)] at ho; cases ho
  rw [if_pos hc] at ho; exact absurd ho hc
 rw [if_pos ho] at h; exact absurd h ho
section
variable {l : List SRow} {p water level : Int}
theorem Asked.dips (h : Asked l p water level) : firstD l ≤ trueLo l p water ∧ trueLo l p water ≤ water ∧ water ≤ trueHi l p water ∧ trueHi l p water ≤ lastD l ∧ firstD l ≤ trueLo l p level ∧ trueLo l p level ≤ level ∧ level ≤ trueHi l p level ∧ trueHi l p level ≤ lastD l := by
 obtain ⟨a, b, c, d⟩ := h.tank.true_in water h.w0 h.w1
 obtain ⟨e, f, g, i⟩ := h.tank.true_in level h.l0 h.l1
 exact ⟨a, b, c, d, e, f, g, i⟩
theorem bden_pos {l : List SRow} {p : Int} (hT : TankOk l p) (d0 d1 : Int) : 1 ≤ bden l d0 d1 := by
 have h1 := hT.wden_pos d0
 have := Int.mul_le_mul_of_nonneg_left (hT.wden_pos d1) (show 0 ≤ wden l d0 by omega)
 unfold bden; omega
theorem most_all (hT : TankOk l p) (ht : tightOk l = true) {d0 d1 : Int} (h0 : firstD l ≤ d0) (h01 : d0 ≤ d1) (h1 : d1 ≤ lastD l) :
  ∃ s, s ≤ l.length ∧ (mostR l d0 d1).1 = wsum l.length (bwF l d0 d1) (fun i => (thrL l s).getD i 0) ∧ (∀ i, i < l.length → (mostC l d0 d1).getD i 0 = (thrL l s).getD i 0) ∧
   (∀ c, Chart l c → wsum l.length (bwF l d0 d1) (fun i => c.getD i 0) ≤ (mostR l d0 d1).1) ∧ 0 ≤ (mostR l d0 d1).1 := by
 have h16 := hT.n16
 have h2 := hT.n2
 obtain ⟨s, hS, hsl, hget⟩ := mostC_step hT h0 h01 h1
 have hg : ∀ i, i < l.length → (mostC l d0 d1).getD i 0 = (thrL l s).getD i 0 := fun i hi => by
  rw [hget i hi]; unfold thrL; rw [range_getD _ _ _ hi]
 have e : (mostR l d0 d1).1 = wsum l.length (bwF l d0 d1) (fun i => (thrL l s).getD i 0) := by
  unfold mostR
  simp only
  rw [dot_bw hT d0 d1 _ (by rw [mostC_length h16]; exact h16) (by rw [mostC_length h16]; exact Nat.le_refl _)]
  exact wsum_congr hg
 have e2 : wsum l.length (bwF l d0 d1) (fun i => (thrL l s).getD i 0) = wsum l.length (bwF l d0 d1) (fun i => if i < s then lowN l i else highN l i) := wsum_congr fun i hi => by unfold thrL; rw [range_getD _ _ _ hi]
 refine ⟨s, hsl, e, hg, fun c hc => ?_, ?_⟩
 ·rw [e, e2]
  exact wsum_most hS hc.inn
 rw [e]
 exact wsum_nonneg hS (extL_chart (by omega) ht _ (thr_mem l s hsl)).up
theorem few_all (hT : TankOk l p) (ht : tightOk l = true) {d0 d1 : Int} (h0 : firstD l ≤ d0) (h01 : d0 ≤ d1) (h1 : d1 ≤ lastD l) :
  ∃ u, u ∈ cands l l.length ∧ (fewR l d0 d1).2 = nearC l u ∧ (fewR l d0 d1).1 = wsum l.length (bwF l d0 d1) (fun i => (nearL' l u).getD i 0) ∧ (∀ i, i < l.length → (nearC l u).getD i 0 = (nearL' l u).getD i 0) ∧
   (∀ c, Chart l c → (fewR l d0 d1).1 ≤ wsum l.length (bwF l d0 d1) (fun i => c.getD i 0)) ∧ 0 ≤ (fewR l d0 d1).1 := by
 have h16 := hT.n16
 have h2 := hT.n2
 obtain ⟨s, hS, _⟩ := bw_signs hT h0 h01 h1
 obtain ⟨u, hu, e, hmin⟩ := fewR_spec (by omega : 1 ≤ l.length) d0 d1
 have hg : ∀ v i, i < l.length → (nearC l v).getD i 0 = (nearL' l v).getD i 0 := fun v i hi => by
  rw [nearC_get h16 v i hi]; unfold nearL'; rw [range_getD _ _ _ hi]
 have hd : ∀ v, dot (bwts l d0 d1) (nearC l v) = wsum l.length (bwF l d0 d1) (fun i => (nearL' l v).getD i 0) := fun v => by
  rw [dot_bw hT d0 d1 _ (by rw [nearC_length h16]; exact h16) (by rw [nearC_length h16]; exact Nat.le_refl _)]
  exact wsum_congr (hg v)
 have e1 : (fewR l d0 d1).1 = wsum l.length (bwF l d0 d1) (fun i => (nearL' l u).getD i 0) := by rw [e]; exact hd u
 refine ⟨u, hu, by rw [e], e1, hg u, fun c hc => ?_, ?_⟩
 ·obtain ⟨v, hv, hle⟩ := wsum_least hS (tube (by omega) ht) (by omega) (cands l l.length) (fun i hi => ⟨(mem_cands _ _ _).2 ⟨i, hi, .inl rfl⟩, (mem_cands _ _ _).2 ⟨i, hi, .inr rfl⟩⟩) hc.inn hc.up
  have h3 := hmin v hv
  rw [hd u, hd v] at h3
  rw [e1]
  have h4 : wsum l.length (bwF l d0 d1) (fun i => (nearL' l v).getD i 0) = wsum l.length (bwF l d0 d1) (nearF (lowN l) (highN l) v) := wsum_congr fun i hi => by unfold nearL'; rw [range_getD _ _ _ hi]
  omega
 rw [e1]
 exact wsum_nonneg hS (extL_chart (by omega) ht _ (near_mem l u hu)).up
end
end Go.Proofs.Ytpkajhmchcbbhaa.P
end
section
namespace Go.Proofs.Ytpkajhmchcbbhaa.P
open Go.RowKit Go.Proofs.YtpkajhmchcbbhaaW.PrintWords Go.Proofs.YtpkajhmchcbbhaaW.PrintLast Go.Proofs.YtpkajhmchcbbhaaW.PrintMore
structure Fine (l : List SRow) (p : Int) : Prop where
 tank : TankOk l p
 check : checkTank l p = 0
 tight : tightOk l = true
theorem fine_ev (l : List SRow) (p : Int) : ∃ b : Bool, Ev (fun k => forecourtlaw01_fine.f k l p) b ∧ (b = true → Fine l p) := by
 unfold forecourtlaw01_fine.f forecourtlaw01_great.f
 simp only [Option.bind_some]
 by_cases h25 : (l.length : Int) > 25
 ·refine ⟨false, ?_, fun h => by cases h⟩
  simp only [decide_eq_true h25, if_true]
  exact Ev.now _
 simp only [decide_eq_false h25, Bool.false_eq_true, if_false]
 have hn : l.length ≤ 1000 := by omega
 by_cases h : checkTank l p = 0
 ·refine ⟨tightOk l, Ev.bind (refCheckTank_ev l p hn) ?_, fun ht => ⟨tankOk_of h, h, ht⟩⟩
  simp only [if_pos h]
  refine Ev.bind (refClashes_ev l p hn) ?_
  rw [clashes_of h, Bool.not_not]
  exact Ev.now _
 refine ⟨false, Ev.bind (refCheckTank_ev l p hn) ?_, fun h => by cases h⟩
 simp only [if_neg h]
 exact Ev.now _
theorem read_f {l : List SRow} {p : Int} (hT : TankOk l p) (x : Int) (hx : 0 ≤ x ∧ x ≤ 65535) : ∃ d, forecourtlaw01_Read.f l p x = some d ∧ firstD l ≤ d ∧ d ≤ lastD l := by
 have hn := hT.n2
 have h16 := hT.n16
 have hf := hT.first_last
 have e0 : rd_T70 l 0 = l.getD 0 zRow := rfl
 have e1 : wrap64 ((l.length : Int) - 1) = ((l.length - 1 : Nat) : Int) := by unfold wrap64; omega
 have k0 : (l.getD 0 zRow).f0 = firstD l := rfl
 have k1 : (l.getD (l.length - 1) zRow).f0 = lastD l := rfl
 have hr0 := Int.emod_nonneg x (show lastD l - firstD l + 1 ≠ 0 by omega)
 have hr1 := Int.emod_lt_of_pos x (show 0 < lastD l - firstD l + 1 by omega)
 refine ⟨firstD l + x % (lastD l - firstD l + 1), ?_, by omega, by omega⟩
 unfold forecourtlaw01_Read.f
 rw [if_pos (by omega), e0, e1, rdR_nat, if_pos (by omega), if_pos (by omega), k0, k1, wrap_id (x := lastD l - firstD l) (by omega), wrap_id (x := lastD l - firstD l + 1) (by omega), if_neg (by omega), wrap_id (x := x) (by omega),
  Int.tmod_eq_emod_of_nonneg hx.1, wrap_id (x := firstD l + _) (by omega)]
end Go.Proofs.Ytpkajhmchcbbhaa.P
end
