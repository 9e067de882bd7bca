/- Part 31 of 39. -/
import Derived.Test.YtpkajhmchcbbhaaF30
import Derived.Test.YtpkajhmchcbbhaaF25
import Derived.Test.YtpkajhmchcbbhaaF9
set_option linter.unusedSimpArgs false
set_option linter.unusedVariables false
section
namespace Go.Proofs.Ytpkajhmchcbbhaa.P
open Go.RowKit Go.Proofs.YtpkajhmchcbbhaaW.PrintWords Go.Proofs.YtpkajhmchcbbhaaW.PrintLast Go.Proofs.YtpkajhmchcbbhaaW.PrintMore
def wv (l : List SRow) (d : Int) (c : Nat → Int) : Int := sumN l.length fun i => (wts l d).getD i 0 * c i
theorem wv_mono {l : List SRow} {p : Int} (hT : TankOk l p) {d0 d1 : Int} (h0 : firstD l ≤ d0) (h01 : d0 ≤ d1) (h1 : d1 ≤ lastD l) {c : Nat → Int} (hc : Up l.length c) : wv l d0 c * wden l d1 ≤ wv l d1 c * wden l d0 := by
 have h16 := hT.n16
 obtain ⟨s, hS, _⟩ := bw_signs hT h0 h01 h1
 have h := wsum_nonneg hS hc
 unfold wsum at h
 rw [sumN_congr (g := fun x => wden l d0 * ((wts l d1).getD x 0 * c x) + (-wden l d1) * ((wts l d0).getD x 0 * c x)) (fun x hx => by
  unfold bwF
  rw [bw_at l _ _ x (by omega)]
  exact ring_a _ _ _ _ _), sumN_add, sumN_mul, sumN_mul, Int.neg_mul] at h
 unfold wv
 rw [Int.mul_comm _ (wden l d1), Int.mul_comm _ (wden l d0)]
 omega
theorem dot_wv {l : List SRow} {p : Int} (hT : TankOk l p) (d : Int) (c : List Int) (hc : c.length = l.length) : dot (wts l d) c = wv l d (fun i => c.getD i 0) := by
 have h16 := hT.n16
 rw [dot_sum (wts l d) c (by rw [wts_length]; omega), hc]
 rfl
theorem halve_spec (good : Int → Bool) : ∀ (n : Nat) (lo hi : Int), (hi + 1 - lo).toNat < n → lo ≤ hi + 1 → (∀ x y, lo ≤ x → x ≤ y → y ≤ hi → good x = true → good y = true) →
  (∀ x, lo ≤ x → x ≤ hi → x < halveF good lo hi → good x = false) ∧ (∀ x, lo ≤ x → x ≤ hi → halveF good lo hi ≤ x → good x = true) := by
 intro n
 induction n with
 | zero => intro lo hi h; omega
 | succ n ih =>
  intro lo hi hn hle hm
  by_cases h : lo ≤ hi
  ·by_cases hg : good (lo + (hi - lo) / 2) = true
   ·obtain ⟨i1, i2⟩ := ih lo (lo + (hi - lo) / 2 - 1) (by omega) (by omega) (fun x y hx hxy hy => hm x y hx hxy (by omega))
    have hin := halveF_in good lo (lo + (hi - lo) / 2 - 1) (by omega)
    rw [halveF_yes good lo hi h hg]
    refine ⟨fun x hx hx2 hlt => i1 x hx (by omega) hlt, fun x hx hx2 hge => ?_⟩
    by_cases hxm : x ≤ lo + (hi - lo) / 2 - 1
    ·exact i2 x hx hxm hge
    exact hm _ x (by omega) (by omega) hx2 hg
   have hg' : good (lo + (hi - lo) / 2) = false := by simpa using hg
   obtain ⟨i1, i2⟩ := ih (lo + (hi - lo) / 2 + 1) hi (by omega) (by omega) (fun x y hx hxy hy => hm x y (by omega) hxy hy)
   have hin := halveF_in good (lo + (hi - lo) / 2 + 1) hi (by omega)
   rw [halveF_no good lo hi h hg']
   refine ⟨fun x hx hx2 hlt => ?_, fun x hx hx2 hge => i2 x (by omega) hx2 hge⟩
   by_cases hxm : lo + (hi - lo) / 2 + 1 ≤ x
   ·exact i1 x hxm hx2 hlt
   cases hgx : good x with
   | false => rfl
   | true => exact absurd (hm x _ hx (by omega) (by omega) hgx) hg
  rw [halveF_end good lo hi h]
  exact ⟨fun x hx hx2 => by omega, fun x hx hx2 => by omega⟩
theorem halve_all (good : Int → Bool) {lo hi : Int} (hle : lo ≤ hi + 1) (hm : ∀ x y, lo ≤ x → x ≤ y → y ≤ hi → good x = true → good y = true) :
  (∀ x, lo ≤ x → x ≤ hi → x < halveF good lo hi → good x = false) ∧ (∀ x, lo ≤ x → x ≤ hi → halveF good lo hi ≤ x → good x = true) := halve_spec good _ lo hi (Nat.lt_succ_self _) hle hm
section
variable {l : List SRow} {p : Int}
theorem Fine.low_up (hF : Fine l p) : Up l.length (lowN l) := (tube (by have := hF.tank.n2; omega) hF.tight).low
theorem Fine.high_up (hF : Fine l p) : Up l.length (highN l) := (tube (by have := hF.tank.n2; omega) hF.tight).high
theorem over_eq (hF : Fine l p) (f : Nat → Int) (v d : Int) : overF l ((List.range l.length).map f) v d = wv l d f - wden l d * v := by
 unfold overF
 rw [dot_wv hF.tank d _ (by simp)]
 unfold wv
 rw [sumN_congr (g := fun i => (wts l d).getD i 0 * f i) (fun i hi => by show _ * ((List.range l.length).map f).getD i 0 = _; rw [range_getD f _ i hi])]
theorem over_mono (hF : Fine l p) {f : Nat → Int} (hf : Up l.length f) (v : Int) {d0 d1 : Int} (h0 : firstD l ≤ d0) (h01 : d0 ≤ d1) (h1 : d1 ≤ lastD l) :
  (0 ≤ wv l d0 f - wden l d0 * v → 0 ≤ wv l d1 f - wden l d1 * v) ∧ (0 < wv l d0 f - wden l d0 * v → 0 < wv l d1 f - wden l d1 * v) := by
 have hm := wv_mono hF.tank h0 h01 h1 hf
 have a := hF.tank.wden_pos d0
 have b := hF.tank.wden_pos d1
 generalize wv l d0 f = X0 at *
 generalize wv l d1 f = X1 at *
 generalize wden l d0 = w0 at *
 generalize wden l d1 = w1 at *
 have e : w0 * (X1 - w1 * v) = X1 * w0 - X0 * w1 + w1 * (X0 - w0 * v) := by
  rw [Int.mul_sub, Int.mul_sub, Int.mul_comm w0 X1, Int.mul_comm w1 X0, Int.mul_left_comm w0 w1 v]; omega
 constructor
 ·intro h
  have h2 : 0 ≤ w1 * (X0 - w0 * v) := Int.mul_nonneg (by omega) h
  have h3 : 0 ≤ w0 * (X1 - w1 * v) := by omega
  exact Int.nonneg_of_mul_nonneg_right h3 (by omega)
 intro h
 have h2 : 0 < w1 * (X0 - w0 * v) := Int.mul_pos (by omega) h
 have h3 : 0 < w0 * (X1 - w1 * v) := by omega
 exact Int.pos_of_mul_pos_right h3 (by omega)
theorem from_spec (hF : Fine l p) (v : Int) : (∀ x, firstD l ≤ x → x ≤ lastD l → x < dipsFrom l v → wv l x (highN l) < wden l x * v) ∧ (∀ x, firstD l ≤ x → x ≤ lastD l → dipsFrom l v ≤ x → wden l x * v ≤ wv l x (highN l)) := by
 have hfl := hF.tank.first_last
 have hg : ∀ d, decide (0 ≤ overF l (highs l) v d) = decide (0 ≤ wv l d (highN l) - wden l d * v) := fun d => by unfold highs; rw [over_eq hF]
 obtain ⟨a, b⟩ := halve_all (fun d => decide (0 ≤ overF l (highs l) v d)) (lo := firstD l) (hi := lastD l) (by omega) (fun x y hx hxy hy h => by
  simp only [hg, decide_eq_true_eq] at h ⊢
  exact (over_mono hF hF.high_up v hx hxy hy).1 h)
 refine ⟨fun x h0 h1 hlt => ?_, fun x h0 h1 hge => ?_⟩
 ·have := a x h0 h1 hlt
  simp only [hg, decide_eq_false_iff_not] at this
  omega
 have := b x h0 h1 hge
 simp only [hg, decide_eq_true_eq] at this
 omega
theorem to_spec (hF : Fine l p) (v : Int) : (∀ x, firstD l ≤ x → x ≤ lastD l → x ≤ dipsTo l v → wv l x (lowN l) ≤ wden l x * v) ∧ (∀ x, firstD l ≤ x → x ≤ lastD l → dipsTo l v < x → wden l x * v < wv l x (lowN l)) := by
 have hfl := hF.tank.first_last
 have hg : ∀ d, decide (0 < overF l (lows l) v d) = decide (0 < wv l d (lowN l) - wden l d * v) := fun d => by unfold lows; rw [over_eq hF]
 obtain ⟨a, b⟩ := halve_all (fun d => decide (0 < overF l (lows l) v d)) (lo := firstD l) (hi := lastD l) (by omega) (fun x y hx hxy hy h => by
  simp only [hg, decide_eq_true_eq] at h ⊢
  exact (over_mono hF hF.low_up v hx hxy hy).2 h)
 unfold dipsTo
 refine ⟨fun x h0 h1 hlt => ?_, fun x h0 h1 hge => ?_⟩
 ·have := a x h0 h1 (by omega)
  simp only [hg, decide_eq_false_iff_not] at this
  omega
 have := b x h0 h1 (by omega)
 simp only [hg, decide_eq_true_eq] at this
 omega
theorem from_in (hF : Fine l p) (v : Int) : firstD l ≤ dipsFrom l v ∧ dipsFrom l v ≤ lastD l + 1 := by
 have hfl := hF.tank.first_last
 exact halveF_in _ _ _ (by omega)
theorem to_in (hF : Fine l p) (v : Int) : firstD l - 1 ≤ dipsTo l v ∧ dipsTo l v ≤ lastD l := by
 have hfl := hF.tank.first_last
 have := halveF_in (fun d => decide (0 < overF l (lows l) v d)) (firstD l) (lastD l) (by omega)
 unfold dipsTo
 omega
theorem Chart.getIn {c : List Int} (h : Chart l c) (hT : TankOk l p) (i : Nat) (hi : i < l.length) : 0 ≤ c.getD i 0 ∧ c.getD i 0 ≤ 100000 := by
 have hl := h.len
 refine h.mem hT _ ?_
 rw [List.getD_eq_getElem?_getD, List.getElem?_eq_getElem (by omega)]
 exact List.getElem_mem _
end
end Go.Proofs.Ytpkajhmchcbbhaa.P
end
section
namespace Go.Proofs.Ytpkajhmchcbbhaa.P
open Go.RowKit Go.Proofs.YtpkajhmchcbbhaaW.PrintWords Go.Proofs.YtpkajhmchcbbhaaW.PrintLast Go.Proofs.YtpkajhmchcbbhaaW.PrintMore
def forecourtref01_Dips.f (l : List SRow) (p litres : Int) : Option (Int × Int × Int) := if l.length ≤ 1000 then chart_Dips.f l p litres else none
section
variable {l : List SRow} {p : Int}
theorem piece_same {i j : Nat} {d : Int} (hi : i + 1 < l.length) (hj : j + 1 < l.length) (i1 : ∀ k, 1 ≤ k → k ≤ i → dipN l k ≤ d) (i2 : i + 2 < l.length → d < dipN l (i + 1)) (j1 : ∀ k, 1 ≤ k → k ≤ j → dipN l k ≤ d) (j2 : j + 2 < l.length → d < dipN l (j + 1)) : i = j := by
 rcases Nat.lt_trichotomy i j with h | h | h
 ·have a := i2 (by omega); have b := j1 (i + 1) (by omega) (by omega); omega
 ·exact h
 have a := j2 (by omega); have b := i1 (j + 1) (by omega) (by omega); omega
theorem low_in (hF : Fine l p) : ∀ x, x ∈ lows l → 0 ≤ x ∧ x ≤ 100000 := by
 intro x hx
 obtain ⟨i, hi, rfl⟩ := List.getElem_of_mem hx
 have := (low_chart hF.tank hF.tight).getIn hF.tank i (by simpa [lows] using hi)
 rw [List.getD_eq_getElem?_getD, List.getElem?_eq_getElem hi] at this
 exact this
theorem high_in (hF : Fine l p) : ∀ x, x ∈ highs l → 0 ≤ x ∧ x ≤ 100000 := by
 intro x hx
 obtain ⟨i, hi, rfl⟩ := List.getElem_of_mem hx
 have := (high_chart hF.tank hF.tight).getIn hF.tank i (by simpa [highs] using hi)
 rw [List.getD_eq_getElem?_getD, List.getElem?_eq_getElem hi] at this
 exact this
theorem cmp_frac {a b w x v : Int} (hb : 1 ≤ b) (hw : 1 ≤ w) (h : x * b = a * w) : (a ≤ v * b ↔ x ≤ w * v) ∧ (v * b ≤ a ↔ w * v ≤ x) := by
 have e : v * b * w = w * v * b := by rw [Int.mul_comm (v * b) w, Int.mul_assoc]
 have k (x y c : Int) (hc : 1 ≤ c) : x ≤ y ↔ x * c ≤ y * c := ⟨fun g => Int.mul_le_mul_of_nonneg_right g (by omega), fun g => Int.le_of_mul_le_mul_right g (by omega)⟩
 constructor
 ·rw [k a (v * b) w hw, k x (w * v) b hb, h, e]
 rw [k (v * b) a w hw, k (w * v) x b hb, h, e]
theorem good_at (hF : Fine l p) {v d : Int} (hv : 0 ≤ v ∧ v ≤ 100000) (h0 : firstD l ≤ d) (h1 : d ≤ lastD l) :
  ∃ a b c e k, forecourtref01_below.f k l p (lows l) d = some (a, b) ∧ forecourtref01_below.f k l p (highs l) d = some (c, e) ∧ (0 ≤ v * b ∧ v * b ≤ 400000000) ∧ ((a ≤ v * b ∧ v * b ≤ c) ↔ (dipsFrom l v ≤ d ∧ d ≤ dipsTo l v)) := by
 have hll : (lows l).length = l.length := by simp [lows]
 have hhl : (highs l).length = l.length := by simp [highs]
 obtain ⟨i, i1, i2, i3, i4, i5, e1⟩ := refbelow_ev hF.tank (lows l) hll (low_in hF) d h0 h1 p
 obtain ⟨j, j1, j2, j3, j4, j5, e2⟩ := refbelow_ev hF.tank (highs l) hhl (high_in hF) d h0 h1 p
 obtain rfl := piece_same i1 j1 i2 i3 j2 j3
 have s1 := below_same hF.tank d i i1 i2 i3 (lows l) (by omega) (by have := hF.tank.n16; omega)
 have s2 := below_same hF.tank d i i1 i2 i3 (highs l) (by omega) (by have := hF.tank.n16; omega)
 have f1 : dot (wts l d) (lows l) = wv l d (lowN l) := by
  rw [dot_wv hF.tank d _ hll]
  exact sumN_congr (fun k hk => by show _ * (lows l).getD k 0 = _; rw [show (lows l).getD k 0 = lowN l k from range_getD (lowN l) l.length k hk])
 have f2 : dot (wts l d) (highs l) = wv l d (highN l) := by
  rw [dot_wv hF.tank d _ hhl]
  exact sumN_congr (fun k hk => by show _ * (highs l).getD k 0 = _; rw [show (highs l).getD k 0 = highN l k from range_getD (highN l) l.length k hk])
 rw [f1] at s1
 rw [f2] at s2
 have hw := hF.tank.wden_pos d
 have r1 := hF.tank.top i (by omega)
 have r2 := hF.tank.top (i + 1) i1
 have r3 := hF.tank.low i (by omega)
 have r4 := hF.tank.low (i + 1) i1
 have r5 := hF.tank.up i i1
 obtain ⟨K1, hK1⟩ := e1
 obtain ⟨K2, hK2⟩ := e2
 refine ⟨_, _, _, _, K1 + K2, hK1 _ (by omega), hK2 _ (by omega), ?_, ?_⟩
 ·have := mul_in (x := v) (y := dipN l (i + 1) - dipN l i) (A := 100000) (B := 4000) (by omega) hv (by omega)
  omega
 rw [(cmp_frac (by omega) (by omega) s1).1, (cmp_frac (by omega) (by omega) s2).2]
 constructor
 ·rintro ⟨g1, g2⟩
  constructor
  ·rcases Int.lt_or_le d (dipsFrom l v) with h | h
   ·have := (from_spec hF v).1 d h0 h1 h; omega
   exact h
  rcases Int.lt_or_le (dipsTo l v) d with h | h
  ·have := (to_spec hF v).2 d h0 h1 h; omega
  exact h
 rintro ⟨g1, g2⟩
 exact ⟨(to_spec hF v).1 d h0 h1 g2, (from_spec hF v).2 d h0 h1 g1⟩
end
theorem lows_succ (l : List SRow) (i : Nat) (h : i < l.length) : (lows l).take (i + 1) = (lows l).take i ++ [lowN l i] := by
 rw [List.take_add_one]; simp [lows, h]
theorem highs_succ (l : List SRow) (i : Nat) (h : i < l.length) : (highs l).take (i + 1) = (highs l).take i ++ [highN l i] := by
 rw [List.take_add_one]; simp [highs, h]
theorem lows_all (l : List SRow) : (lows l).take l.length = lows l := List.take_of_length_le (by simp [lows])
theorem highs_all (l : List SRow) : (highs l).take l.length = highs l := List.take_of_length_le (by simp [highs])
theorem cell_lt {w : World} {a : Addr} {v : Value} (h : w.cell? a = some v) : a.block < w.heap.size := by
 rcases Nat.lt_or_ge a.block w.heap.size with h1 | h1
 ·exact h1
 unfold World.cell? at h
 rw [Array.getElem?_eq_none h1] at h
 simp at h
structure Seen (F T d : Int) (b : Bool) (x y : Int) : Prop where
 yes : b = true → F < d ∧ F ≤ T ∧ x = F ∧ y = (if d - 1 ≤ T then d - 1 else T)
 no : b = false → (d ≤ F ∨ T < F) ∧ x = 0 ∧ y = 0
theorem Seen.start {F T d : Int} (h : d ≤ F) : Seen F T d false 0 0 := ⟨fun e => (by cases e), fun _ => ⟨Or.inl h, rfl, rfl⟩⟩
theorem Seen.good {F T d x y : Int} {b : Bool} (h : Seen F T d b x y) (h1 : F ≤ d) (h2 : d ≤ T) : Seen F T (d + 1) true (if b then x else d) d := by
 refine ⟨fun _ => ⟨by omega, by omega, ?_, ?_⟩, fun e => by cases e⟩
 ·cases b with
  | false => have := (h.no rfl).1; simp; omega
  | true => have := (h.yes rfl).2.2.1; simp; omega
 rw [if_pos (by omega)]; omega
theorem Seen.bad {F T d x y : Int} {b : Bool} (h : Seen F T d b x y) (h1 : ¬ (F ≤ d ∧ d ≤ T)) : Seen F T (d + 1) b x y := by
 refine ⟨fun e => ?_, fun e => ?_⟩
 ·obtain ⟨a, c, hx, hy⟩ := h.yes e
  refine ⟨by omega, c, hx, ?_⟩
  rw [hy]
  split <;> split <;> omega
 obtain ⟨a, hx, hy⟩ := h.no e
 exact ⟨by omega, hx, hy⟩
theorem Seen.last {F T d x y : Int} {b : Bool} (h : Seen F T (d + 1) b x y) (hF : F ≤ d + 1) (hT : T ≤ d) : (b = true → F ≤ T ∧ x = F ∧ y = T) ∧ (b = false → T < F) := by
 refine ⟨fun e => ?_, fun e => ?_⟩
 ·obtain ⟨a, c, hx, hy⟩ := h.yes e
  refine ⟨c, hx, ?_⟩
  rw [hy]; split <;> omega
 have := (h.no e).1; omega
end Go.Proofs.Ytpkajhmchcbbhaa.P
end
