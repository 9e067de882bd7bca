/- Part 39 of 51. -/
import Derived.Test.YtpkajhmchcbbhaaD38
import Derived.Test.YtpkajhmchcbbhaaD33
set_option linter.unusedSimpArgs false
set_option linter.unusedVariables false
section
namespace Go.Proofs.Ytpkajhmchcbbhaa.P
open Go.RowKit Go.Proofs.YtpkajhmchcbbhaaW.PrintWords Go.Proofs.YtpkajhmchcbbhaaW.PrintLast Go.Proofs.YtpkajhmchcbbhaaW.PrintMore
def wv (l : List SRow) (d : Int) (c : Nat → Int) : Int := sumN l.length fun i => (wts l d).getD i 0 * c i
theorem wv_mono {l : List SRow} {p : Int} (hT : TankOk l p) {d0 d1 : Int} (h0 : firstD l ≤ d0) (h01 : d0 ≤ d1) (h1 : d1 ≤ lastD l) {c : Nat → Int} (hc : Up l.length c) : wv l d0 c * wden l d1 ≤ wv l d1 c * wden l d0 := by
 have h16 := hT.n16
 obtain ⟨s, hS, _⟩ := bw_signs hT h0 h01 h1
 have h := wsum_nonneg hS hc
 unfold wsum at h
 rw [sumN_congr (g := fun x => wden l d0 * ((wts l d1).getD x 0 * c x) + (-wden l d1) * ((wts l d0).getD x 0 * c x)) (fun x hx => by
  unfold bwF
  rw [bw_at l _ _ x (by omega)]
  exact ring_a _ _ _ _ _), sumN_add, sumN_mul, sumN_mul, Int.neg_mul] at h
 unfold wv
 rw [Int.mul_comm _ (wden l d1), Int.mul_comm _ (wden l d0)]
 omega
theorem wv_le {l : List SRow} {p : Int} (hT : TankOk l p) {d : Int} (h0 : firstD l ≤ d) (h1 : d ≤ lastD l) {c e : Nat → Int} (h : ∀ i, i < l.length → c i ≤ e i) : wv l d c ≤ wv l d e := by
 have h16 := hT.n16
 obtain ⟨a1, a2⟩ := pos_in hT d h0 h1
 refine sumN_le fun i hi => Int.mul_le_mul_of_nonneg_left (h i hi) ?_
 rw [wts_get hT.dipOk d i (by omega)]
 (repeat' split) <;> omega
theorem dot_wv {l : List SRow} {p : Int} (hT : TankOk l p) (d : Int) (c : List Int) (hc : c.length = l.length) : dot (wts l d) c = wv l d (fun i => c.getD i 0) := by
 have h16 := hT.n16
 rw [dot_sum (wts l d) c (by rw [wts_length]; omega), hc]
 rfl
theorem halve_spec (good : Int → Bool) : ∀ (n : Nat) (lo hi : Int), (hi + 1 - lo).toNat < n → lo ≤ hi + 1 → (∀ x y, lo ≤ x → x ≤ y → y ≤ hi → good x = true → good y = true) →
  (∀ x, lo ≤ x → x ≤ hi → x < halveF good lo hi → good x = false) ∧ (∀ x, lo ≤ x → x ≤ hi → halveF good lo hi ≤ x → good x = true) := by
 intro n
 induction n with
 | zero => intro lo hi h; omega
 | succ n ih =>
  intro lo hi hn hle hm
  by_cases h : lo ≤ hi
  ·by_cases hg : good (lo + (hi - lo) / 2) = true
   ·obtain ⟨i1, i2⟩ := ih lo (lo + (hi - lo) / 2 - 1) (by omega) (by omega) (fun x y hx hxy hy => hm x y hx hxy (by omega))
    have hin := halveF_in good lo (lo + (hi - lo) / 2 - 1) (by omega)
    rw [halveF_yes good lo hi h hg]
    refine ⟨fun x hx hx2 hlt => i1 x hx (by omega) hlt, fun x hx hx2 hge => ?_⟩
    by_cases hxm : x ≤ lo + (hi - lo) / 2 - 1
    ·exact i2 x hx hxm hge
    exact hm _ x (by omega) (by omega) hx2 hg
   have hg' : good (lo + (hi - lo) / 2) = false := by simpa using hg
   obtain ⟨i1, i2⟩ := ih (lo + (hi - lo) / 2 + 1) hi (by omega) (by omega) (fun x y hx hxy hy => hm x y (by omega) hxy hy)
   have hin := halveF_in good (lo + (hi - lo) / 2 + 1) hi (by omega)
   rw [halveF_no good lo hi h hg']
   refine ⟨fun x hx hx2 hlt => ?_, fun x hx hx2 hge => i2 x (by omega) hx2 hge⟩
   by_cases hxm : lo + (hi - lo) / 2 + 1 ≤ x
   ·exact i1 x hxm hx2 hlt
   cases hgx : good x with
   | false => rfl
   | true => exact absurd (hm x _ hx (by omega) (by omega) hgx) hg
  rw [halveF_end good lo hi h]
  exact ⟨fun x hx hx2 => by omega, fun x hx hx2 => by omega⟩
theorem halve_all (good : Int → Bool) {lo hi : Int} (hle : lo ≤ hi + 1) (hm : ∀ x y, lo ≤ x → x ≤ y → y ≤ hi → good x = true → good y = true) :
  (∀ x, lo ≤ x → x ≤ hi → x < halveF good lo hi → good x = false) ∧ (∀ x, lo ≤ x → x ≤ hi → halveF good lo hi ≤ x → good x = true) := halve_spec good _ lo hi (Nat.lt_succ_self _) hle hm
section
variable {l : List SRow} {p : Int}
theorem Fine.low_up (hF : Fine l p) : Up l.length (lowN l) := (tube (by have := hF.tank.n2; omega) hF.tight).low
theorem Fine.high_up (hF : Fine l p) : Up l.length (highN l) := (tube (by have := hF.tank.n2; omega) hF.tight).high
theorem over_eq (hF : Fine l p) (f : Nat → Int) (v d : Int) : overF l ((List.range l.length).map f) v d = wv l d f - wden l d * v := by
 unfold overF
 rw [dot_wv hF.tank d _ (by simp)]
 unfold wv
 rw [sumN_congr (g := fun i => (wts l d).getD i 0 * f i) (fun i hi => by show _ * ((List.range l.length).map f).getD i 0 = _; rw [range_getD f _ i hi])]
theorem over_mono (hF : Fine l p) {f : Nat → Int} (hf : Up l.length f) (v : Int) {d0 d1 : Int} (h0 : firstD l ≤ d0) (h01 : d0 ≤ d1) (h1 : d1 ≤ lastD l) :
  (0 ≤ wv l d0 f - wden l d0 * v → 0 ≤ wv l d1 f - wden l d1 * v) ∧ (0 < wv l d0 f - wden l d0 * v → 0 < wv l d1 f - wden l d1 * v) := by
 have hm := wv_mono hF.tank h0 h01 h1 hf
 have a := hF.tank.wden_pos d0
 have b := hF.tank.wden_pos d1
 generalize wv l d0 f = X0 at *
 generalize wv l d1 f = X1 at *
 generalize wden l d0 = w0 at *
 generalize wden l d1 = w1 at *
 have e : w0 * (X1 - w1 * v) = X1 * w0 - X0 * w1 + w1 * (X0 - w0 * v) := by
  rw [Int.mul_sub, Int.mul_sub, Int.mul_comm w0 X1, Int.mul_comm w1 X0, Int.mul_left_comm w0 w1 v]; omega
 constructor
 ·intro h
  have h2 : 0 ≤ w1 * (X0 - w0 * v) := Int.mul_nonneg (by omega) h
  have h3 : 0 ≤ w0 * (X1 - w1 * v) := by omega
  exact Int.nonneg_of_mul_nonneg_right h3 (by omega)
 intro h
 have h2 : 0 < w1 * (X0 - w0 * v) := Int.mul_pos (by omega) h
 have h3 : 0 < w0 * (X1 - w1 * v) := by omega
 exact Int.pos_of_mul_pos_right h3 (by omega)
theorem from_spec (hF : Fine l p) (v : Int) : (∀ x, firstD l ≤ x → x ≤ lastD l → x < dipsFrom l v → wv l x (highN l) < wden l x * v) ∧ (∀ x, firstD l ≤ x → x ≤ lastD l → dipsFrom l v ≤ x → wden l x * v ≤ wv l x (highN l)) := by
 have hfl := hF.tank.first_last
 have hg : ∀ d, decide (0 ≤ overF l (highs l) v d) = decide (0 ≤ wv l d (highN l) - wden l d * v) := fun d => by unfold highs; rw [over_eq hF]
 obtain ⟨a, b⟩ := halve_all (fun d => decide (0 ≤ overF l (highs l) v d)) (lo := firstD l) (hi := lastD l) (by omega) (fun x y hx hxy hy h => by
  simp only [hg, decide_eq_true_eq] at h ⊢
  exact (over_mono hF hF.high_up v hx hxy hy).1 h)
 refine ⟨fun x h0 h1 hlt => ?_, fun x h0 h1 hge => ?_⟩
 ·have := a x h0 h1 hlt
  simp only [hg, decide_eq_false_iff_not] at this
  omega
 have := b x h0 h1 hge
 simp only [hg, decide_eq_true_eq] at this
 omega
theorem to_spec (hF : Fine l p) (v : Int) : (∀ x, firstD l ≤ x → x ≤ lastD l → x ≤ dipsTo l v → wv l x (lowN l) ≤ wden l x * v) ∧ (∀ x, firstD l ≤ x → x ≤ lastD l → dipsTo l v < x → wden l x * v < wv l x (lowN l)) := by
 have hfl := hF.tank.first_last
 have hg : ∀ d, decide (0 < overF l (lows l) v d) = decide (0 < wv l d (lowN l) - wden l d * v) := fun d => by unfold lows; rw [over_eq hF]
 obtain ⟨a, b⟩ := halve_all (fun d => decide (0 < overF l (lows l) v d)) (lo := firstD l) (hi := lastD l) (by omega) (fun x y hx hxy hy h => by
  simp only [hg, decide_eq_true_eq] at h ⊢
  exact (over_mono hF hF.low_up v hx hxy hy).2 h)
 unfold dipsTo
 refine ⟨fun x h0 h1 hlt => ?_, fun x h0 h1 hge => ?_⟩
 ·have := a x h0 h1 (by omega)
  simp only [hg, decide_eq_false_iff_not] at this
  omega
 have := b x h0 h1 (by omega)
 simp only [hg, decide_eq_true_eq] at this
 omega
theorem from_in (hF : Fine l p) (v : Int) : firstD l ≤ dipsFrom l v ∧ dipsFrom l v ≤ lastD l + 1 := by
 have hfl := hF.tank.first_last
 exact halveF_in _ _ _ (by omega)
theorem to_in (hF : Fine l p) (v : Int) : firstD l - 1 ≤ dipsTo l v ∧ dipsTo l v ≤ lastD l := by
 have hfl := hF.tank.first_last
 have := halveF_in (fun d => decide (0 < overF l (lows l) v d)) (firstD l) (lastD l) (by omega)
 unfold dipsTo
 omega
theorem from_up (hF : Fine l p) {a b : Int} (h : a ≤ b) : dipsFrom l a ≤ dipsFrom l b := by
 have ha := from_in hF a
 have hb := from_in hF b
 by_cases hlt : dipsFrom l a ≤ dipsFrom l b
 ·exact hlt
 have h1 := (from_spec hF a).1 (dipsFrom l b) (by omega) (by omega) (by omega)
 have h2 := (from_spec hF b).2 (dipsFrom l b) (by omega) (by omega) (Int.le_refl _)
 have hw := hF.tank.wden_pos (dipsFrom l b)
 have h3 : wden l (dipsFrom l b) * a ≤ wden l (dipsFrom l b) * b := Int.mul_le_mul_of_nonneg_left h (by omega)
 omega
theorem to_up (hF : Fine l p) {a b : Int} (h : a ≤ b) : dipsTo l a ≤ dipsTo l b := by
 have ha := to_in hF a
 have hb := to_in hF b
 by_cases hlt : dipsTo l a ≤ dipsTo l b
 ·exact hlt
 have h1 := (to_spec hF a).1 (dipsTo l b + 1) (by omega) (by omega) (by omega)
 have h2 := (to_spec hF b).2 (dipsTo l b + 1) (by omega) (by omega) (by omega)
 have hw := hF.tank.wden_pos (dipsTo l b + 1)
 have h3 : wden l (dipsTo l b + 1) * a ≤ wden l (dipsTo l b + 1) * b := Int.mul_le_mul_of_nonneg_left h (by omega)
 omega
theorem dips_hold (hF : Fine l p) {c : List Int} (hc : Chart l c) {d v : Int} (h0 : firstD l ≤ d) (h1 : d ≤ lastD l) (hv : dot (wts l d) c = wden l d * v) : dipsFrom l v ≤ d ∧ d ≤ dipsTo l v := by
 rw [dot_wv hF.tank d c hc.len] at hv
 have a := wv_le hF.tank h0 h1 (c := lowN l) (e := fun i => c.getD i 0) (fun i hi => hc.inn.lo i hi)
 have b := wv_le hF.tank h0 h1 (c := fun i => c.getD i 0) (e := highN l) (fun i hi => hc.inn.hi i hi)
 constructor
 ·by_cases h : dipsFrom l v ≤ d
  ·exact h
  have := (from_spec hF v).1 d h0 h1 (by omega); omega
 by_cases h : d ≤ dipsTo l v
 ·exact h
 have := (to_spec hF v).2 d h0 h1 (by omega); omega
theorem dips_val (hF : Fine l p) {v : Int} (hv : 0 ≤ v ∧ v ≤ 100000) : chart_Dips.f l p v = some (if dipsTo l v < dipsFrom l v then (0, 0, 17) else (dipsFrom l v, dipsTo l v, 0)) := by
 unfold chart_Dips.f
 rw [if_neg (by simp [hF.check]), if_neg (by rw [(inB_iff _ _ _).2 hv]; simp), if_neg (by rw [hF.tight]; simp)]
structure BetTwo (l : List SRow) (p a b r1 r2 e1 s1 s2 e2 : Int) : Prop where
 one : chart_Dips.f l p a = some (r1, r2, e1)
 two : chart_Dips.f l p b = some (s1, s2, e2)
 k1 : e1 = 0 ∨ e1 = 17
 k2 : e2 = 0 ∨ e2 = 17
 up : e1 = 0 → e2 = 0 → r1 ≤ s1 ∧ r2 ≤ s2
 inn : e1 = 0 → r1 ≤ r2 ∧ forecourtref01_Inside.f l p r1 = some true ∧ forecourtref01_Inside.f l p r2 = some true
theorem bet_two (hF : Fine l p) {a b : Int} (ha : 0 ≤ a) (hab : a ≤ b) (hb : b ≤ 100000) : ∃ r1 r2 e1 s1 s2 e2, BetTwo l p a b r1 r2 e1 s1 s2 e2 := by
 have h1 := dips_val hF (v := a) ⟨ha, by omega⟩
 have h2 := dips_val hF (v := b) ⟨by omega, hb⟩
 have hi := hF.tank.n2
 have h16 := hF.tank.n16
 have fa := from_in hF a
 have ta := to_in hF a
 have u1 := from_up hF hab
 have u2 := to_up hF hab
 have hI : ∀ x, firstD l ≤ x → x ≤ lastD l → forecourtref01_Inside.f l p x = some true := fun x hx hy => by
  rw [inside_ev l p x (by omega) (by omega), (inB_iff _ _ _).2 ⟨hx, hy⟩]
 by_cases c1 : dipsTo l a < dipsFrom l a
 ·rw [if_pos c1] at h1
  by_cases c2 : dipsTo l b < dipsFrom l b
  ·rw [if_pos c2] at h2
   exact ⟨_, _, _, _, _, _, h1, h2, .inr rfl, .inr rfl, (fun h => by cases h), (fun h => by cases h)⟩
  rw [if_neg c2] at h2
  exact ⟨_, _, _, _, _, _, h1, h2, .inr rfl, .inl rfl, (fun h => by cases h), (fun h => by cases h)⟩
 rw [if_neg c1] at h1
 by_cases c2 : dipsTo l b < dipsFrom l b
 ·rw [if_pos c2] at h2
  exact ⟨_, _, _, _, _, _, h1, h2, .inl rfl, .inr rfl, (fun _ h => by cases h), fun _ => ⟨by omega, hI _ (by omega) (by omega), hI _ (by omega) (by omega)⟩⟩
 rw [if_neg c2] at h2
 exact ⟨_, _, _, _, _, _, h1, h2, .inl rfl, .inl rfl, fun _ _ => ⟨u1, u2⟩, fun _ => ⟨by omega, hI _ (by omega) (by omega), hI _ (by omega) (by omega)⟩⟩
theorem Chart.getIn {c : List Int} (h : Chart l c) (hT : TankOk l p) (i : Nat) (hi : i < l.length) : 0 ≤ c.getD i 0 ∧ c.getD i 0 ≤ 100000 := by
 have hl := h.len
 refine h.mem hT _ ?_
 rw [List.getD_eq_getElem?_getD, List.getElem?_eq_getElem (by omega)]
 exact List.getElem_mem _
structure BetAt (l : List SRow) (p : Int) (c : List Int) (d v1 v2 t1 t2 : Int) : Prop where
 below : chart_Below.f l p c d = some (v1, v2, 0)
 den : 1 ≤ v2
 small : v2 = 1 → 0 ≤ v1 ∧ v1 ≤ 100000
 dips : v2 = 1 → chart_Dips.f l p v1 = some (t1, t2, 0) ∧ t1 ≤ d ∧ d ≤ t2
theorem bet_at (hF : Fine l p) {c : List Int} (hc : Chart l c) {d : Int} (h0 : firstD l ≤ d) (h1 : d ≤ lastD l) : ∃ v1 v2 t1 t2, BetAt l p c d v1 v2 t1 t2 := by
 have hcc := (chart_of hF.tank hc.len hc.inn hc.up).2 hF.check
 have hw := hF.tank.wden_pos d
 have hX0 : 0 ≤ dot (wts l d) c := by
  rw [dot_wv hF.tank d c hc.len]
  have := wv_le hF.tank h0 h1 (c := fun _ => 0) (e := fun i => c.getD i 0) (fun i hi => (hc.getIn hF.tank i hi).1)
  have e : wv l d (fun _ => 0) = 0 := by unfold wv; rw [sumN_congr (g := fun _ => 0) (fun i _ => Int.mul_zero _), sumN_zero]
  omega
 have hX1 : dot (wts l d) c ≤ 100000 * wden l d := by
  rw [dot_wv hF.tank d c hc.len]
  have := wv_le hF.tank h0 h1 (c := fun i => c.getD i 0) (e := fun _ => 100000) (fun i hi => (hc.getIn hF.tank i hi).2)
  have e : wv l d (fun _ => 100000) = 100000 * wden l d := by
   unfold wv; rw [sumN_congr (g := fun i => 100000 * (wts l d).getD i 0) (fun i _ => Int.mul_comm _ _), sumN_mul, wts_sum hF.tank]
  omega
 obtain ⟨e1, e2, e3, e4, e5⟩ := frac_val hX0 hw
 have hb : chart_Below.f l p c d = some (leastN (dot (wts l d) c) (wden l d), leastD (dot (wts l d) c) (wden l d), 0) := by
  unfold chart_Below.f
  rw [if_neg (by simp [hcc]), if_neg (by rw [(inB_iff _ _ _).2 ⟨h0, h1⟩]; simp)]
 refine ⟨_, _, dipsFrom l (leastN (dot (wts l d) c) (wden l d)), dipsTo l (leastN (dot (wts l d) c) (wden l d)), hb, e2, fun h => ⟨e3, ?_⟩, fun h => ?_⟩
 ·rw [h, Int.mul_one] at e1
  have : leastN (dot (wts l d) c) (wden l d) * wden l d ≤ 100000 * wden l d := by omega
  exact Int.le_of_mul_le_mul_right this (by omega)
 rw [h, Int.mul_one] at e1
 have hsm : leastN (dot (wts l d) c) (wden l d) ≤ 100000 := by
  have : leastN (dot (wts l d) c) (wden l d) * wden l d ≤ 100000 * wden l d := by omega
  exact Int.le_of_mul_le_mul_right this (by omega)
 obtain ⟨f1, f2⟩ := dips_hold hF hc h0 h1 (v := leastN (dot (wts l d) c) (wden l d)) (by rw [Int.mul_comm, e1])
 refine ⟨?_, f1, f2⟩
 rw [dips_val hF ⟨e3, hsm⟩, if_neg (by omega)]
end
end Go.Proofs.Ytpkajhmchcbbhaa.P
end
