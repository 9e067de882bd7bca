/- Part 18 of 44. -/
import Derived.Test.YtpkajhmchcbbhaaL17
import Derived.Test.YtpkajhmchcbbhaaL9
import Derived.Test.YtpkajhmchcbbhaaL16
set_option linter.unusedSimpArgs false
set_option linter.unusedVariables false
section
namespace Go.Proofs.Ytpkajhmchcbbhaa.P
open Go.RowKit Go.Proofs.YtpkajhmchcbbhaaW.PrintWords Go.Proofs.YtpkajhmchcbbhaaW.PrintLast Go.Proofs.YtpkajhmchcbbhaaW.PrintMore
theorem dot_snoc (w l : List Int) (x : Int) (h : l.length < w.length) : dot w (l ++ [x]) = dot w l + w.getD l.length 0 * x := by
 induction w generalizing l with
 | nil => simp at h
 | cons y w ih =>
  cases l with
  | nil => simp [dot]
  | cons z l =>
   simp only [List.length_cons, Nat.add_lt_add_iff_right] at h
   simp only [List.cons_append, dot, ih l h, List.length_cons, List.getD_cons_succ]
   omega
theorem dot_take (w l : List Int) (k : Nat) (hk : k < l.length) (hw : k < w.length) : dot w (l.take (k + 1)) = dot w (l.take k) + w.getD k 0 * l.getD k 0 := by
 have h := dot_snoc w (l.take k) (l.getD k 0) (by rw [List.length_take]; omega)
 rw [List.length_take, Nat.min_eq_left (by omega)] at h
 rw [← h, List.take_succ_eq_append_getElem hk, List.getD_eq_getElem?_getD, List.getElem?_eq_getElem hk]
 rfl
theorem mul_within {x y : Int} (hx : -100000000 ≤ x ∧ x ≤ 100000000) (hy : -1000000 ≤ y ∧ y ≤ 1000000) : -100000000000000 ≤ x * y ∧ x * y ≤ 100000000000000 := by
 have h1 := Int.mul_le_mul_of_nonneg_left (a := 100000000 - x) (b := 0) (c := 1)
 have a1 : 0 ≤ (100000000 - x) * (1000000 - y) := Int.mul_nonneg (by omega) (by omega)
 have a2 : 0 ≤ (100000000 + x) * (1000000 + y) := Int.mul_nonneg (by omega) (by omega)
 have a3 : 0 ≤ (100000000 - x) * (1000000 + y) := Int.mul_nonneg (by omega) (by omega)
 have a4 : 0 ≤ (100000000 + x) * (1000000 - y) := Int.mul_nonneg (by omega) (by omega)
 simp only [Int.sub_mul, Int.mul_sub, Int.add_mul, Int.mul_add] at a1 a2 a3 a4
 omega
theorem dot_within (w l : List Int) (hw : ∀ x, x ∈ w → -100000000 ≤ x ∧ x ≤ 100000000) (hl : ∀ x, x ∈ l → -1000000 ≤ x ∧ x ≤ 1000000) : -(l.length : Int) * 100000000000000 ≤ dot w l ∧ dot w l ≤ l.length * 100000000000000 := by
 induction w generalizing l with
 | nil => simp only [dot]; omega
 | cons y w ih =>
  cases l with
  | nil => simp [dot]
  | cons z l =>
   have h1 := ih l (fun x hx => hw x (List.mem_cons_of_mem _ hx)) (fun x hx => hl x (List.mem_cons_of_mem _ hx))
   have h2 := mul_within (hw y List.mem_cons_self) (hl z List.mem_cons_self)
   simp only [dot, List.length_cons]
   omega
set_option maxRecDepth 100000 in
set_option maxHeartbeats 1000000 in
theorem sum_calls (W : List Int) (hW : W.length = 16) (hb : ∀ x, x ∈ W → -100000000 ≤ x ∧ x ≤ 100000000) (A : Option Addr) (c : Nat) (l : List Int) (h16 : l.length ≤ 16) (hl : ∀ x, x ∈ l → -1000000 ≤ x ∧ x ≤ 1000000) (w : World)
  (hr : Kd.C (Kd.int .i64) w A l.length l) :
  Calls Try.prog 66 #[.agg (ints W), .slice A l.length c] w fun e w' => e = .returned (.int .i64 (dot W l)) ∧ Below w.heap.size w w' := by
 have HR := Aside0.mk hr
 have HB := Aside0.mk hb
 have HL := Aside0.mk hl
 have HW := Lib.hid hW
 have hu5 := Try.underlying97
 clear hr hb hl hW
 go_enter Try.func66, Try.ntmps66
 go_wp2_with fail
 obtain ⟨W1, hW1⟩ : ∃ W1, w.alloc (.cells (ints W) 97) = W1 := ⟨_, rfl⟩
 have hB1 : Below w.heap.size w W1 := by rw [← hW1]; exact (Below.refl _ _).alloc (Nat.le_refl _) _
 have HK : Aside0 (W1.heap[w.heap.size]? = some (.cells (ints W) 97 (0, 0))) := ⟨by rw [← hW1]; exact blk_new _ _⟩
 have HB1 := Aside0.mk hB1
 try rw [hW1]
 clear hW1 hB1
 go_loop [5, 10] (fun v5 v10 => ∃ k : Nat, k ≤ l.length ∧ v10 = .int .i64 k ∧ v5 = .int .i64 (dot W (l.take k))) (fun _ v10 => l.length - (intOf v10).toNat)
 case atStart => exact ⟨0, Nat.zero_le _, rfl, by cases W <;> simp [dot]⟩
 case round =>
  obtain ⟨k, hk, rfl, rfl⟩ := hrel
  by_cases hlt : k < l.length
  ·have hc := HR.out
   obtain ⟨ad, rfl, _⟩ := hc.2.2 (by omega)
   have hcell := pw_cell_below HB1.out (Kd.foot_int hc (k : Int) (by omega) (by omega))
   rw [Int.toNat_natCast] at hcell
   clear hc
   have hz := (blk_cell HK.out k).trans (ints_getD W k (by rw [HW.out]; omega))
   have hsn := dot_take W l k hlt (by rw [HW.out]; omega)
   have hbd := dot_within W (l.take k) HB.out (fun x hx => HL.out x (List.mem_of_mem_take hx))
   rw [List.length_take, Nat.min_eq_left hk] at hbd
   have e1 : rd l k = l.getD k 0 := by simp [rd]
   rw [e1] at hcell
   have hm1 : W.getD k 0 ∈ W := by
    rw [List.getD_eq_getElem?_getD, List.getElem?_eq_getElem (by rw [HW.out]; omega)]; exact List.getElem_mem _
   have hm2 : l.getD k 0 ∈ l := by
    rw [List.getD_eq_getElem?_getD, List.getElem?_eq_getElem hlt]; exact List.getElem_mem _
   have hmb := mul_within (HB.out _ hm1) (HL.out _ hm2)
   obtain ⟨x, hx⟩ : ∃ x, x = W.getD k 0 := ⟨_, rfl⟩
   obtain ⟨y, hy⟩ : ∃ y, y = l.getD k 0 := ⟨_, rfl⟩
   obtain ⟨s, hs⟩ : ∃ s, s = dot W (l.take k) := ⟨_, rfl⟩
   rw [← hx] at hz hsn hmb
   rw [← hy] at hcell hsn hmb
   rw [← hs] at hsn hbd ⊢
   have HSN := Lib.hid hsn
   clear hm1 hm2 hx hy hs e1 hsn
   obtain ⟨b1, b2⟩ := hbd
   obtain ⟨b3, b4⟩ := hmb
   have k16 : k < 16 := by omega
   have b5 : -1700000000000000 ≤ s := by omega
   have b6 : s ≤ 1700000000000000 := by omega
   clear b1 b2
   go_wp2
   go_round
   case rel => exact ⟨k + 1, by omega, by go_num, by rw [HSN.out]⟩
   case measure => simp [intOf]; omega
  have hd : decide (k < l.length) = false := by simpa using hlt
  obtain rfl : k = l.length := by omega
  go_wp2
  go_ret
  exact ⟨ret_int (by first | rfl | rw [List.take_of_length_le (Nat.le_refl _)]), HB1.out⟩
end Go.Proofs.Ytpkajhmchcbbhaa.P
end
section
namespace Go.Proofs.Ytpkajhmchcbbhaa.P
open Go.RowKit Go.Proofs.YtpkajhmchcbbhaaW.PrintWords Go.Proofs.YtpkajhmchcbbhaaW.PrintLast Go.Proofs.YtpkajhmchcbbhaaW.PrintMore
theorem gcdT_zero (a : Int) : gcdT a 0 = a := by rw [gcdT]; simp
theorem gcdT_step (a b : Int) (h : b ≠ 0) : gcdT a b = gcdT b (a.tmod b) := by rw [gcdT, dif_neg h]
theorem tmod_abs (a b : Int) (h : b ≠ 0) : (a.tmod b).natAbs < b.natAbs := by
 rw [Int.natAbs_tmod]; exact Nat.mod_lt _ (by omega)
theorem tmod_in (a b : Int) (hb : -4611686018427387904 ≤ b ∧ b ≤ 4611686018427387904) (h : b ≠ 0) : -4611686018427387904 ≤ a.tmod b ∧ a.tmod b ≤ 4611686018427387904 := by
 have := tmod_abs a b h
 omega
theorem gcdT_ne (a b : Int) (h : a ≠ 0 ∨ b ≠ 0) : gcdT a b ≠ 0 := by
 have key : ∀ n (a b : Int), b.natAbs < n → (a ≠ 0 ∨ b ≠ 0) → gcdT a b ≠ 0 := by
  intro n
  induction n with
  | zero => intro a b h; omega
  | succ n ih =>
   intro a b hn h
   by_cases hb : b = 0
   ·subst hb; rw [gcdT_zero]; simpa using h
   rw [gcdT_step a b hb]
   have := tmod_abs a b hb
   exact ih b _ (by omega) (.inl hb)
 exact key _ a b (Nat.lt_succ_self _) h
theorem common_some (n : Nat) : ∀ (k : Nat) (a b : Int), b.natAbs < n → n ≤ k → -4611686018427387904 ≤ b ∧ b ≤ 4611686018427387904 → chart_common_int64.l0 k a b = some (gcdT a b) := by
 induction n with
 | zero => intro k a b h; omega
 | succ n ih =>
  intro k a b hn hk hb
  obtain ⟨k, rfl⟩ : ∃ m, k = m + 1 := ⟨k - 1, by omega⟩
  simp only [chart_common_int64.l0]
  by_cases h : b = 0
  ·subst h; simp [gcdT_zero]
  have h1 := tmod_abs a b h
  have h2 := tmod_in a b hb h
  rw [gcdT_step a b h]
  rw [if_neg h]
  exact ih k b _ (by omega) (by omega) h2
theorem tdiv_in (a b : Int) (ha : -4611686018427387904 ≤ a ∧ a ≤ 4611686018427387904) : wrap64 (a.tdiv b) = a.tdiv b := by
 have h2 : (a.tdiv b).natAbs ≤ a.natAbs := by rw [Int.natAbs_tdiv]; exact Nat.div_le_self a.natAbs b.natAbs
 unfold wrap64
 omega
theorem least_some (num den : Int) (hn : -4611686018427387904 ≤ num ∧ num ≤ 4611686018427387904) (hd : -4611686018427387904 ≤ den ∧ den ≤ 4611686018427387904) (h0 : den ≠ 0) : ∃ k, chart_least.f k num den = some (leastN num den, leastD num den) := by
 refine ⟨den.natAbs + 1, ?_⟩
 unfold chart_least.f chart_common_int64.f
 rw [common_some (den.natAbs + 1) _ _ _ (by omega) (Nat.le_refl _) hd]
 simp only [Option.bind_some]
 rw [if_neg (gcdT_ne num den (.inr h0)), tdiv_in _ _ hn, tdiv_in _ _ hd]
 rfl
theorem least_calls (num den : Int) (hn : -4611686018427387904 ≤ num ∧ num ≤ 4611686018427387904) (hd : -4611686018427387904 ≤ den ∧ den ≤ 4611686018427387904) (h0 : den ≠ 0) (w : World) :
  Calls Try.prog 65 #[.int .i64 num, .int .i64 den] w fun e w' => e = .returned (.agg #[.int .i64 (leastN num den), .int .i64 (leastD num den)]) ∧ Below w.heap.size w w' := by
 obtain ⟨k, hk⟩ := least_some num den hn hd h0
 exact chart_least.calls k num den _ _ w hk
end Go.Proofs.Ytpkajhmchcbbhaa.P
end
section
namespace Go.Proofs.Ytpkajhmchcbbhaa.P
open Go.RowKit Go.Proofs.YtpkajhmchcbbhaaW.PrintWords Go.Proofs.YtpkajhmchcbbhaaW.PrintLast Go.Proofs.YtpkajhmchcbbhaaW.PrintMore
theorem gcdT_nat (n : Nat) : ∀ a b : Nat, b < n → gcdT (a : Int) (b : Int) = ((Nat.gcd a b : Nat) : Int) := by
 induction n with
 | zero => intro a b h; omega
 | succ n ih =>
  intro a b h
  by_cases hb : b = 0
  ·subst hb; rw [show ((0 : Nat) : Int) = 0 from rfl, gcdT_zero, Nat.gcd_zero_right]
  rw [gcdT_step _ _ (by omega)]
  have e : ((a : Int)).tmod (b : Int) = ((a % b : Nat) : Int) := by rw [Int.tmod_eq_emod_of_nonneg (by omega)]; rfl
  rw [e, ih b (a % b) (by have := Nat.mod_lt a (Nat.pos_of_ne_zero hb); omega), Nat.gcd_comm a b, Nat.gcd_rec b a, Nat.gcd_comm]
theorem leastN_nat (a b : Nat) : leastN (a : Int) (b : Int) = ((a / Nat.gcd a b : Nat) : Int) := by
 unfold leastN
 rw [gcdT_nat (b + 1) a b (Nat.lt_succ_self _), Int.tdiv_eq_ediv_of_nonneg (by omega)]
 rfl
theorem leastD_nat (a b : Nat) : leastD (a : Int) (b : Int) = ((b / Nat.gcd a b : Nat) : Int) := by
 unfold leastD
 rw [gcdT_nat (b + 1) a b (Nat.lt_succ_self _), Int.tdiv_eq_ediv_of_nonneg (by omega)]
 rfl
theorem frac_val {a b : Int} (ha : 0 ≤ a) (hb : 1 ≤ b) : leastN a b * b = a * leastD a b ∧ 1 ≤ leastD a b ∧ 0 ≤ leastN a b ∧ leastN a b ≤ a ∧ leastD a b ≤ b := by
  obtain ⟨a, rfl⟩ := Int.eq_ofNat_of_zero_le ha
  obtain ⟨b, rfl⟩ := Int.eq_ofNat_of_zero_le (show 0 ≤ b by omega)
  have hb' : 0 < b := by omega
  rw [leastN_nat, leastD_nat]
  obtain ⟨u, hu⟩ := Nat.gcd_dvd_left a b
  obtain ⟨v, hv⟩ := Nat.gcd_dvd_right a b
  have hg : 0 < Nat.gcd a b := Nat.gcd_pos_of_pos_right _ hb'
  have e1 : a / Nat.gcd a b = u := by conv => lhs; lhs; rw [hu]
                                      exact Nat.mul_div_cancel_left _ hg
  have e2 : b / Nat.gcd a b = v := by conv => lhs; lhs; rw [hv]
                                      exact Nat.mul_div_cancel_left _ hg
  have h1 : a / Nat.gcd a b ≤ a := Nat.div_le_self _ _
  have h2 : b / Nat.gcd a b ≤ b := Nat.div_le_self _ _
  have h3 : 0 < v := by
    rcases Nat.eq_zero_or_pos v with h | h
    · rw [h] at hv; omega
    exact h
  refine ⟨?_, by rw [e2]; omega, by omega, by omega, by omega⟩
  rw [e1, e2]
  have : u * b = a * v := by
    conv => lhs; rw [hv]
    conv => rhs; rw [hu]
    rw [Nat.mul_comm (Nat.gcd a b) v, ← Nat.mul_assoc, Nat.mul_comm _ (Nat.gcd a b), Nat.mul_assoc]
  exact_mod_cast this
def sumN : Nat → (Nat → Int) → Int
 | 0, _ => 0
 | n + 1, f => sumN n f + f n
theorem sumN_congr {n : Nat} {f g : Nat → Int} (h : ∀ i, i < n → f i = g i) : sumN n f = sumN n g := by
 induction n with
 | zero => rfl
 | succ n ih => rw [sumN, sumN, ih (fun i hi => h i (by omega)), h n (by omega)]
theorem sumN_le {n : Nat} {f g : Nat → Int} (h : ∀ i, i < n → f i ≤ g i) : sumN n f ≤ sumN n g := by
 induction n with
 | zero => exact Int.le_refl _
 | succ n ih =>
  have h1 := ih (fun i hi => h i (by omega))
  have h2 := h n (by omega)
  rw [sumN, sumN]; omega
theorem sumN_add (n : Nat) (f g : Nat → Int) : sumN n (fun i => f i + g i) = sumN n f + sumN n g := by
 induction n with
 | zero => rfl
 | succ n ih => rw [sumN, sumN, sumN, ih]; omega
theorem sumN_mul (n : Nat) (c : Int) (f : Nat → Int) : sumN n (fun i => c * f i) = c * sumN n f := by
 induction n with
 | zero => rw [sumN, sumN, Int.mul_zero]
 | succ n ih => rw [sumN, sumN, ih, Int.mul_add]
theorem sumN_zero (n : Nat) : sumN n (fun _ => 0) = 0 := by
 induction n with
 | zero => rfl
 | succ n ih => rw [sumN, ih]; rfl
theorem dot_take_sum (w c : List Int) (hw : c.length ≤ w.length) : ∀ k, k ≤ c.length → dot w (c.take k) = sumN k (fun i => w.getD i 0 * c.getD i 0) := by
 intro k
 induction k with
 | zero => intro _; rw [List.take_zero]; cases w <;> rfl
 | succ k ih => intro hk; rw [dot_take w c k (by omega) (by omega), ih (by omega), sumN]
theorem dot_sum (w c : List Int) (hw : c.length ≤ w.length) : dot w c = sumN c.length (fun i => w.getD i 0 * c.getD i 0) := by
 have := dot_take_sum w c hw c.length (Nat.le_refl _)
 rwa [List.take_length] at this
theorem dot_n (w c : List Int) (n : Nat) (hw : c.length ≤ w.length) (hn : n ≤ c.length) (h0 : ∀ i, n ≤ i → i < c.length → w.getD i 0 = 0) : dot w c = sumN n (fun i => w.getD i 0 * c.getD i 0) := by
 rw [dot_sum w c hw]
 have : ∀ d, n + d ≤ c.length → sumN (n + d) (fun i => w.getD i 0 * c.getD i 0) = sumN n (fun i => w.getD i 0 * c.getD i 0) := by
  intro d
  induction d with
  | zero => intro _; rfl
  | succ d ih => intro h; rw [← Nat.add_assoc, sumN, ih (by omega), h0 (n + d) (by omega) (by omega)]; simp
 have h2 := this (c.length - n) (by omega)
 rwa [show n + (c.length - n) = c.length by omega] at h2
theorem sumN_two (n j : Nat) (x y : Int) (c : Nat → Int) (hj : j + 1 < n) : sumN n (fun i => (if i = j + 1 then y else if i = j then x else 0) * c i) = x * c j + y * c (j + 1) := by
 have h : ∀ m, sumN m (fun i => (if i = j + 1 then y else if i = j then x else 0) * c i) = (if j < m then x * c j else 0) + (if j + 1 < m then y * c (j + 1) else 0) := by
  intro m
  induction m with
  | zero => simp [sumN]
  | succ m ih =>
   rw [sumN, ih]
   rcases Nat.lt_trichotomy m j with h | rfl | h
   ·rw [if_neg (by omega), if_neg (by omega), if_neg (by omega), if_neg (by omega), if_neg (by omega), if_neg (by omega)]; simp
   ·rw [if_neg (by omega), if_neg (by omega), if_neg (by omega), if_pos rfl, if_pos (by omega), if_neg (by omega)]; omega
   by_cases hm : m = j + 1
   ·subst hm
    rw [if_pos (by omega), if_neg (by omega), if_pos rfl, if_pos (by omega), if_pos (by omega)]; omega
   rw [if_pos (by omega), if_pos (by omega), if_neg (by omega), if_neg (by omega), if_pos (by omega), if_pos (by omega)]; simp
 rw [h n, if_pos (by omega), if_pos hj]
theorem posA_spec (l : List SRow) (dip : Int) : ∀ (f i : Nat), l.length - 1 - i ≤ f → i ≤ l.length - 1 → i ≤ posA l dip f i ∧ posA l dip f i ≤ l.length - 1 ∧ (∀ j, i ≤ j → j < posA l dip f i → dipN l j < dip) ∧ (posA l dip f i < l.length - 1 → dip ≤ dipN l (posA l dip f i)) := by
 intro f
 induction f with
 | zero => intro i hf hi; rw [posA]; exact ⟨Nat.le_refl _, hi, fun j h1 h2 => by omega, fun h => by omega⟩
 | succ f ih =>
  intro i hf hi
  by_cases hc : i < l.length - 1 ∧ dipN l i < dip
  ·rw [posA_step l dip f i hc]
   obtain ⟨h1, h2, h3, h4⟩ := ih (i + 1) (by omega) (by omega)
   refine ⟨by omega, h2, fun j hj1 hj2 => ?_, h4⟩
   rcases Nat.lt_or_ge i j with h | h
   ·exact h3 j h hj2
   obtain rfl : j = i := by omega
   exact hc.2
  rw [posA_stop l dip (f + 1) i hc]
  refine ⟨Nat.le_refl _, hi, fun j h1 h2 => by omega, fun h => ?_⟩
  rcases Int.lt_or_le (dipN l i) dip with h2 | h2
  ·exact absurd ⟨h, h2⟩ hc
  exact h2
theorem pos_spec {l : List SRow} (h2 : 2 ≤ l.length) (dip : Int) : 1 ≤ pos l dip ∧ pos l dip < l.length ∧ (∀ j, 1 ≤ j → j < pos l dip → dipN l j < dip) ∧ (pos l dip < l.length - 1 → dip ≤ dipN l (pos l dip)) := by
 obtain ⟨a, b, c, d⟩ := posA_spec l dip l.length 1 (by omega) (by omega)
 exact ⟨a, by unfold pos; omega, c, d⟩
end Go.Proofs.Ytpkajhmchcbbhaa.P
end
section
namespace Go.Proofs.Ytpkajhmchcbbhaa.P
open Go.RowKit Go.Proofs.YtpkajhmchcbbhaaW.PrintWords Go.Proofs.YtpkajhmchcbbhaaW.PrintLast Go.Proofs.YtpkajhmchcbbhaaW.PrintMore
structure Tube (n : Nat) (low high : Nat → Int) : Prop where
 le : ∀ i, i < n → low i ≤ high i
 low : ∀ i j, i ≤ j → j < n → low i ≤ low j
 high : ∀ i j, i ≤ j → j < n → high i ≤ high j
structure Signs (n : Nat) (w : Nat → Int) (s : Nat) : Prop where
 neg : ∀ i, i < n → i < s → w i ≤ 0
 pos : ∀ i, i < n → s ≤ i → 0 ≤ w i
 sum : sumN n w = 0
structure In (n : Nat) (low high c : Nat → Int) : Prop where
 lo : ∀ i, i < n → low i ≤ c i
 hi : ∀ i, i < n → c i ≤ high i
def Up (n : Nat) (c : Nat → Int) : Prop := ∀ i j, i ≤ j → j < n → c i ≤ c j
def wsum (n : Nat) (w c : Nat → Int) : Int := sumN n fun i => w i * c i
theorem mul_le_neg {w a b : Int} (hw : w ≤ 0) (h : b ≤ a) : w * a ≤ w * b := by
 have := Int.mul_le_mul_of_nonpos_left hw h
 omega
theorem mul_le_pos {w a b : Int} (hw : 0 ≤ w) (h : a ≤ b) : w * a ≤ w * b := Int.mul_le_mul_of_nonneg_left h hw
section
variable {n s : Nat} {low high w : Nat → Int}
theorem split_at {c : Nat → Int} (h0 : 0 < n) (hc : Up n c) (s : Nat) : ∃ j, j < n ∧ (∀ i, i < n → i < s → c i ≤ c j) ∧ (∀ i, i < n → s ≤ i → c j ≤ c i) := by
 by_cases h : s < n
 ·exact ⟨s, h, fun i _ hs => hc i s (by omega) h, fun i hi hs => hc s i hs hi⟩
 exact ⟨n - 1, by omega, fun i hi _ => hc i (n - 1) (by omega) (by omega), fun i hi hs => by omega⟩
theorem wsum_nonneg (hS : Signs n w s) {c : Nat → Int} (hc : Up n c) : 0 ≤ wsum n w c := by
 by_cases h0 : n = 0
 ·subst h0; exact Int.le_refl _
 obtain ⟨j, hj, h1, h2⟩ := split_at (by omega) hc s
 have e : sumN n (fun i => w i * c j) = 0 := by
  rw [sumN_congr (g := fun i => c j * w i) (fun i _ => Int.mul_comm _ _), sumN_mul, hS.sum, Int.mul_zero]
 rw [← e]
 refine sumN_le fun i hi => ?_
 rcases Nat.lt_or_ge i s with h | h
 ·exact mul_le_neg (hS.neg i hi h) (h1 i hi h)
 exact mul_le_pos (hS.pos i hi h) (h2 i hi h)
theorem wsum_most (hS : Signs n w s) {c : Nat → Int} (hc : In n low high c) : wsum n w c ≤ wsum n w (fun i => if i < s then low i else high i) := by
 refine sumN_le fun i hi => ?_
 simp only
 rcases Nat.lt_or_ge i s with h | h
 ·rw [if_pos h]; exact mul_le_neg (hS.neg i hi h) (hc.lo i hi)
 rw [if_neg (by omega)]; exact mul_le_pos (hS.pos i hi h) (hc.hi i hi)
def nearF (low high : Nat → Int) (v : Int) (i : Nat) : Int := mx (low i) (mn (high i) v)
theorem wsum_near (hS : Signs n w s) (h0 : 0 < n) {c : Nat → Int} (hc : In n low high c) (hu : Up n c) : ∃ v j, j < n ∧ low j ≤ v ∧ v ≤ high j ∧ wsum n w (nearF low high v) ≤ wsum n w c := by
 obtain ⟨j, hj, h1, h2⟩ := split_at h0 hu s
 refine ⟨c j, j, hj, hc.lo j hj, hc.hi j hj, sumN_le fun i hi => ?_⟩
 have a1 := hc.lo i hi
 have a2 := hc.hi i hi
 unfold nearF
 rcases Nat.lt_or_ge i s with h | h
 ·refine mul_le_neg (hS.neg i hi h) ?_
  have := h1 i hi h
  unfold mx mn; (repeat' split) <;> omega
 refine mul_le_pos (hS.pos i hi h) ?_
 have := h2 i hi h
 unfold mx mn; (repeat' split) <;> omega
theorem greatest_of (L : List Int) (P : Int → Prop) (h : ∃ x, x ∈ L ∧ P x) : ∃ x, x ∈ L ∧ P x ∧ ∀ y, y ∈ L → P y → y ≤ x := by
 classical
 induction L with
 | nil => obtain ⟨x, hx, _⟩ := h; cases hx
 | cons a L ih =>
  by_cases hL : ∃ x, x ∈ L ∧ P x
  ·obtain ⟨x, hx, hp, hm⟩ := ih hL
   by_cases ha : P a ∧ x < a
   ·refine ⟨a, List.mem_cons_self, ha.1, fun y hy hpy => ?_⟩
    rcases List.mem_cons.1 hy with rfl | hy
    ·exact Int.le_refl _
    have := hm y hy hpy; omega
   refine ⟨x, List.mem_cons_of_mem _ hx, hp, fun y hy hpy => ?_⟩
   rcases List.mem_cons.1 hy with rfl | hy
   ·rcases Int.lt_or_le x y with h1 | h1
    ·exact absurd ⟨hpy, h1⟩ ha
    exact h1
   exact hm y hy hpy
  obtain ⟨x, hx, hp⟩ := h
  rcases List.mem_cons.1 hx with rfl | hx
  ·refine ⟨x, List.mem_cons_self, hp, fun y hy hpy => ?_⟩
   rcases List.mem_cons.1 hy with rfl | hy
   ·exact Int.le_refl _
   exact absurd ⟨y, hy, hpy⟩ hL
  exact absurd ⟨x, hx, hp⟩ hL
theorem least_of (L : List Int) (P : Int → Prop) (h : ∃ x, x ∈ L ∧ P x) : ∃ x, x ∈ L ∧ P x ∧ ∀ y, y ∈ L → P y → x ≤ y := by
 obtain ⟨x, hx, hp, hm⟩ := greatest_of (L.map fun a => -a) (fun a => P (-a)) (by
  obtain ⟨x, hx, hp⟩ := h
  exact ⟨-x, List.mem_map_of_mem hx, by rwa [Int.neg_neg]⟩)
 obtain ⟨a, ha, rfl⟩ := List.mem_map.1 hx
 rw [Int.neg_neg] at hp
 refine ⟨a, ha, hp, fun y hy hpy => ?_⟩
 have := hm (-y) (List.mem_map_of_mem hy) (by rwa [Int.neg_neg])
 omega
theorem near_cand (L : List Int) (hL : ∀ i, i < n → low i ∈ L ∧ high i ∈ L) (v : Int) (j : Nat) (hj : j < n) (hv0 : low j ≤ v) (hv1 : v ≤ high j) (hle : ∀ i, i < n → low i ≤ high i) :
  ∃ u, u ∈ L ∧ wsum n w (nearF low high u) ≤ wsum n w (nearF low high v) := by
 obtain ⟨p, hp, hpv, hpm⟩ := greatest_of L (· ≤ v) ⟨_, (hL j hj).1, hv0⟩
 obtain ⟨q, hq, hvq, hqm⟩ := least_of L (v ≤ ·) ⟨_, (hL j hj).2, hv1⟩
 have hvq : v ≤ q := hvq

 let t : Nat → Int := fun i => if q ≤ low i then 0 else if high i ≤ p then 0 else 1
 let b : Nat → Int := fun i => if q ≤ low i then low i else if high i ≤ p then high i else 0
 have hx : ∀ x, p ≤ x → x ≤ q → ∀ i, i < n → nearF low high x i = b i + t i * x := by
  intro x h1 h2 i hi
  have l1 := hle i hi
  have l2 : low i ≤ p ∨ q ≤ low i := by
   rcases Int.lt_or_le v (low i) with h | h
   ·exact .inr (hqm _ (hL i hi).1 (show v ≤ low i by omega))
   exact .inl (hpm _ (hL i hi).1 h)
  have l3 : high i ≤ p ∨ q ≤ high i := by
   rcases Int.lt_or_le v (high i) with h | h
   ·exact .inr (hqm _ (hL i hi).2 (show v ≤ high i by omega))
   exact .inl (hpm _ (hL i hi).2 h)
  simp only [nearF, t, b]
  by_cases c1 : q ≤ low i
  ·rw [if_pos c1, if_pos c1]; unfold mx mn; (repeat' split) <;> omega
  rw [if_neg c1, if_neg c1]
  by_cases c2 : high i ≤ p
  ·rw [if_pos c2, if_pos c2]; unfold mx mn; (repeat' split) <;> omega
  rw [if_neg c2, if_neg c2]; unfold mx mn; (repeat' split) <;> omega
 have hs : ∀ x, p ≤ x → x ≤ q → wsum n w (nearF low high x) = wsum n w b + x * wsum n w t := by
  intro x h1 h2
  unfold wsum
  rw [sumN_congr (g := fun i => w i * b i + x * (w i * t i)) (fun i hi => by rw [hx x h1 h2 i hi, Int.mul_add, Int.mul_comm (t i) x, ← Int.mul_assoc, ← Int.mul_assoc, Int.mul_comm (w i) x]), sumN_add, sumN_mul]
 rw [hs v hpv hvq]
 by_cases hB : 0 ≤ wsum n w t
 ·refine ⟨p, hp, ?_⟩
  rw [hs p (Int.le_refl _) (Int.le_trans hpv hvq)]
  have := Int.mul_le_mul_of_nonneg_right (show p ≤ v from hpv) hB
  omega
 refine ⟨q, hq, ?_⟩
 rw [hs q (Int.le_trans hpv hvq) (Int.le_refl _)]
 have := Int.mul_le_mul_of_nonpos_right hvq (show wsum n w t ≤ 0 by omega)
 omega
theorem near_in (hT : Tube n low high) (v : Int) : In n low high (nearF low high v) ∧ Up n (nearF low high v) := by
 refine ⟨⟨fun i hi => ?_, fun i hi => ?_⟩, fun i j hij hj => ?_⟩
 ·unfold nearF mx mn; (repeat' split) <;> omega
 ·have := hT.le i hi
  unfold nearF mx mn; (repeat' split) <;> omega
 have h1 := hT.low i j hij hj
 have h2 := hT.high i j hij hj
 unfold nearF mx mn; (repeat' split) <;> omega
theorem step_in (hT : Tube n low high) (s : Nat) : In n low high (fun i => if i < s then low i else high i) ∧ Up n (fun i => if i < s then low i else high i) := by
 refine ⟨⟨fun i hi => ?_, fun i hi => ?_⟩, fun i j hij hj => ?_⟩
 ·have := hT.le i hi
  split <;> omega
 ·have := hT.le i hi
  split <;> omega
 have h1 := hT.low i j hij hj
 have h2 := hT.high i j hij hj
 have h3 := hT.le i (by omega)
 have h4 := hT.le j hj
 simp only
 split <;> split <;> omega
theorem wsum_least (hS : Signs n w s) (hT : Tube n low high) (h0 : 0 < n) (L : List Int) (hL : ∀ i, i < n → low i ∈ L ∧ high i ∈ L) {c : Nat → Int} (hc : In n low high c) (hu : Up n c) :
  ∃ u, u ∈ L ∧ wsum n w (nearF low high u) ≤ wsum n w c := by
 obtain ⟨v, j, hj, h1, h2, h3⟩ := wsum_near hS h0 hc hu
 obtain ⟨u, hu, h4⟩ := near_cand (w := w) L hL v j hj h1 h2 hT.le
 exact ⟨u, hu, Int.le_trans h4 h3⟩
end
end Go.Proofs.Ytpkajhmchcbbhaa.P
end
section
namespace Go.Proofs.Ytpkajhmchcbbhaa.P
open Go.RowKit Go.Proofs.YtpkajhmchcbbhaaW.PrintWords Go.Proofs.YtpkajhmchcbbhaaW.PrintLast Go.Proofs.YtpkajhmchcbbhaaW.PrintMore
attribute [local go_sem] max2_mx min2_mn max_two min_two
attribute [local go_sem] Oper.semAt_some
attribute [local go_sem ↓] exec_load97 exec_store97 sem_load97 sem_store97
attribute [local go_sem] load97_at store97_at SegOk_alloc seg_alloc SegOk_drew seg_drew SegOk_drewN seg_drewN ints_size Ones_ints store97_new store97_newD
def stepN (lo hi : List Int) (n : Int) (o : List Int) (i : Nat) : List Int := o.set i (mx (lo.getD i 0) (mn (hi.getD i 0) n))
def foldN {N : Nat} (lo hi : List Int) (n : Int) (pre : List (Fin N)) (o : List Int) : List Int := pre.foldl (fun a x => stepN lo hi n a x.val) o
theorem foldN_snoc {N : Nat} (lo hi : List Int) (n : Int) (pre : List (Fin N)) (x : Fin N) (o : List Int) : foldN lo hi n (pre ++ [x]) o = stepN lo hi n (foldN lo hi n pre o) x.val := by simp [foldN]
theorem foldN_length {N : Nat} (lo hi : List Int) (n : Int) (pre : List (Fin N)) (o : List Int) : (foldN lo hi n pre o).length = o.length := by
 unfold foldN
 induction pre generalizing o with
 | nil => rfl
 | cons x pre ih => rw [List.foldl_cons, ih]; simp [stepN]
def nearL (lo hi : List Int) (N : Nat) (n : Int) : List Int := padRow (fun i => mx (lo.getD i 0) (mn (hi.getD i 0) n)) N
theorem foldN_all (lo hi : List Int) (n : Int) (N : Nat) (h16 : N ≤ 16) : foldN lo hi n (rowAll N false) (List.replicate 16 0) = nearL lo hi N n := by
 have key : ∀ k, k ≤ N → foldN lo hi n ((rowAll N false).take k) (List.replicate 16 0) = padRow (fun i => mx (lo.getD i 0) (mn (hi.getD i 0) n)) k := by
  intro k
  induction k with
  | zero =>
   intro _
   apply List.ext_getElem
   ·simp [foldN, padRow]
   intro i h1 h2
   have h3 : i < 16 := by simpa [padRow] using h2
   have e : foldN lo hi n (List.take 0 (rowAll N false)) (List.replicate 16 0) = List.replicate 16 0 := rfl
   rw [List.getElem_of_eq e, List.getElem_replicate]
   simp [padRow]
  | succ k ih =>
   intro hk
   obtain ⟨x, hx, ht⟩ := take_succ_row N false k hk
   rw [ht, foldN_snoc, ih (by omega), hx]
   exact padRow_set _ k (by omega)
 have := key N (Nat.le_refl _)
 rwa [rowAll_full] at this
set_option maxRecDepth 100000 in
set_option maxHeartbeats 4000000 in
theorem near_calls (g : Nat) (A : Option Addr) (c N : Nat) (p : Int) (lo hi : List Int) (n : Int) (h16 : N ≤ 16) (w : World) (hg : Gauge w g A N c p lo hi) :
  Calls Try.prog 87 #[.pointer (some ⟨g, 0, none⟩), .int .i64 n] w fun e w' => e = .returned (.agg (ints (nearL lo hi N n))) ∧ Below w.heap.size w w' := by
 have hu3 := Try.underlying99
 have hu5 := Try.underlying97
 have hgl := hg.lt
 have HG := Aside0.mk hg
 clear hg
 refine (callsIn_wide (n := 10)).1 ?_
 refine callsIn_of_wp_marks Try.func87 rfl trivial ?_ rfl
 simp only [Try.ntmps87, List.size_toArray, List.length_cons, List.length_nil, Nat.reduceAdd, Nat.reduceSub, Array.replicate_succ, Array.replicate_zero, List.push_toArray, List.append_toArray, List.nil_append, List.cons_append]
 gi_wp2_with fail
 obtain ⟨W1, hW1⟩ : ∃ W1, (((w.alloc (.cells #[.pointer (some ⟨g, 0, none⟩)] 90)).alloc (.cells #[.int .i64 n] 2)).alloc (.cells (ints (List.replicate 16 0)) 97)).alloc (.cells (ints (List.replicate 16 0)) 97) = W1 := ⟨_, rfl⟩
 have k0 : W1.heap[w.heap.size]? = some (.cells #[.pointer (some ⟨g, 0, none⟩)] 90 (0, 0)) := by rw [← hW1]; exact blk_old (blk_old (blk_old (blk_new _ _)))
 have k1 : W1.heap[w.heap.size + 1]? = some (.cells #[.int .i64 n] 2 (0, 0)) := by rw [← hW1]; exact blk_old (blk_old (blk_new' (by simp)))
 have k2 : W1.heap[w.heap.size + 2]? = some (.cells (ints (List.replicate 16 0)) 97 (0, 0)) := by rw [← hW1]; exact blk_old (blk_new' (by simp))
 have k3 : W1.heap[w.heap.size + 3]? = some (.cells (ints (List.replicate 16 0)) 97 (0, 0)) := by rw [← hW1]; exact blk_new' (by simp)
 have kb : Below w.heap.size w W1 := by rw [← hW1]; exact ((((Below.refl _ _).alloc (Nat.le_refl _) _).alloc (by simp) _).alloc (by simp; omega) _).alloc (by simp; omega) _
 have ks : W1.heap.size = w.heap.size + 4 := by rw [← hW1]; simp
 have hc0 := (HG.out.below kb).c0
 refine ⟨trivial, (callsIn_wide.2 (rows_calls g A N c false _ (by rw [← hW1] at hc0; exact hc0))).mono ?_⟩
 simp only [zlit]
 rw [show ((((w.alloc (.cells #[.pointer (some ⟨g, 0, none⟩)] 90)).alloc (.cells #[.int .i64 n] 2)).alloc (.cells (ints (List.replicate 16 0)) 97)).alloc (.cells (ints (List.replicate 16 0)) 97)) = W1 from hW1]
 rintro e W2 ⟨rfl, hW2⟩
 clear hW1 hc0
 have K0 : Aside0 (W2.heap[w.heap.size]? = some (.cells #[.pointer (some ⟨g, 0, none⟩)] 90 (0, 0))) := ⟨by rw [hW2]; exact blk_old (blk_old k0)⟩
 have K1 : Aside0 (W2.heap[w.heap.size + 1]? = some (.cells #[.int .i64 n] 2 (0, 0))) := ⟨by rw [hW2]; exact blk_old (blk_old k1)⟩
 have K2 : Aside0 (W2.heap[w.heap.size + 2]? = some (.cells (ints (List.replicate 16 0)) 97 (0, 0))) := ⟨by rw [hW2]; exact blk_old (blk_old k2)⟩
 have K3 : Aside0 (W2.heap[w.heap.size + 3]? = some (.cells (ints (List.replicate 16 0)) 97 (0, 0))) := ⟨by rw [hW2]; exact blk_old (blk_old k3)⟩
 have KB : Aside0 (Below w.heap.size w W2) := ⟨by rw [hW2]; exact (kb.alloc kb.size _).alloc (by simp; omega) _⟩
 have hbb : W2.heap[w.heap.size + 4]? = some (Obj.cells #[.bool false] 4 (0, 0)) := by rw [hW2]; exact blk_old (blk_new' ks.symm)
 have hbn : W2.heap[w.heap.size + 5]? = some (Obj.cells #[.int .i64 N] 3 (0, 0)) := by rw [hW2]; exact blk_new' (by simp; omega)
 have hs2 : W2.heap.size = w.heap.size + 6 := by rw [hW2]; simp; omega
 rw [ks]
 clear hW2 k0 k1 k2 k3 kb ks W1
 gi_wp2_with fail
 (refine rowsRange 10 (w.heap.size + 5)  (w.heap.size + 4)  N  false  (by omega) rfl ?hBn ?hBb ?hN (fun pre W => W.heap[w.heap.size]? = some (.cells #[.pointer (some ⟨g, 0, none⟩)] 90 (0, 0)) ∧ W.heap[w.heap.size + 1]? = some (.cells #[.int .i64 n] 2 (0, 0)) ∧ W.heap[w.heap.size + 2]? = some (.cells (ints (List.replicate 16 0)) 97 (0, 0)) ∧ W.heap[w.heap.size + 3]? = some (.cells (ints (foldN lo hi n pre (List.replicate 16 0))) 97 (0, 0)) ∧ But [] w W)  (fun _ _ _ => False)  ?hJ ?hJx ?h0 (fun x => Go.Act.mk #[Go.Value.pointer (Option.some (Go.Addr.mk g 0 Option.none)), Go.Value.int Go.IntKind.i64 n, Go.Value.pointer (Option.some (Go.Addr.mk (Array.size (Go.World.heap w)) 0 Option.none)), Go.Value.pointer (Option.some (Go.Addr.mk (Array.size (Go.World.heap w) + 1) 0 Option.none)), Go.Value.pointer (Option.some (Go.Addr.mk (Array.size (Go.World.heap w) + 1 + 1) 0 Option.none)), Go.Value.pointer (Option.some (Go.Addr.mk (Array.size (Go.World.heap w) + 1 + 1 + 1) 0 Option.none)), Go.Value.int Go.IntKind.i64 (Nat.cast (Fin.val x)), Go.Value.pointer (Option.some (Go.Addr.mk g 0 Option.none)), Go.Value.func (Go.Fn.func 76) #[] #[Go.Value.pointer (Option.some (Go.Addr.mk (Array.size (Go.World.heap w) + 4 + 1) 0 Option.none)), Go.Value.pointer (Option.some (Go.Addr.mk (Array.size (Go.World.heap w) + 4) 0 Option.none))], Go.Value.int Go.IntKind.i64 (Nat.cast (Fin.val x)), Go.undef, Go.undef, Go.undef, Go.undef, Go.undef, Go.undef, Go.undef, Go.undef, Go.undef, Go.undef, Go.undef, Go.undef, Go.undef, Go.undef, Go.undef, Go.undef, Go.undef, Go.undef] []) ?hassign ?hbody ?hdone ?hstop)
 case hBn => exact hbn
 case hBb => exact hbb
 case hN => omega
 case hJ => exact .and (ownBlk _) (.and (ownBlk _) (.and (ownBlk _) (.and (ownBlk _) (ownBut (by omega)))))
 case hJx => exact fun _ _ _ _ _ h _ _ => h
 case h0 => exact ⟨K0.out, K1.out, K2.out, K3.out, Below.but KB.out _⟩
 case hstop => exact fun _ _ _ _ _ _ h => h.elim
 case hassign =>
  intro l0 x W K hK
  gi_wp2
  exact hK
 case hbody =>
  intro l0 pre x W hJ hbn hbb
  obtain ⟨i, hi16⟩ := x
  obtain ⟨j0, j1, j2, j3, jB⟩ := hJ
  have hcg := cell_of_one j0
  have hcn := cell_of_one j1
  have hgW := HG.out.below jB.nil
  have hcl := hgW.cl i (by omega)
  have hch := hgW.ch i (by omega)
  have hglW := hgW.lt
  have i16 : i < 16 := by omega
  have hlen := foldN_length lo hi n pre (List.replicate 16 0)
  rw [List.length_replicate] at hlen
  have ho := (blk_cell j3 i).trans (ints_getD _ i (by rw [hlen]; exact i16))
  have hof := blk_frozen j3 i
  obtain ⟨o, hoo⟩ : ∃ o, o = foldN lo hi n pre (List.replicate 16 0) := ⟨_, rfl⟩
  have HO := Lib.hid hoo
  rw [← hoo] at ho j3
  obtain ⟨a, ha⟩ : ∃ a, a = lo.getD i 0 := ⟨_, rfl⟩
  obtain ⟨b, hb⟩ : ∃ b, b = hi.getD i 0 := ⟨_, rfl⟩
  rw [← ha] at hcl
  rw [← hb] at hch
  have HA := Lib.hid ha
  have HB := Lib.hid hb
  have J0 := Aside0.mk j0
  have J1 := Aside0.mk j1
  have J2 := Aside0.mk j2
  have J3 := Aside0.mk j3
  have JB := Aside0.mk jB
  have HI := Lib.hid hi16
  clear hoo ha hb
  (skip)
  gi_wp2_with fail
  (refine Code.wpIn_mono calm_le ?_; (first | refine startR_ (k := 18) (S := fun w' => w' = _) (ds := [17]) (List.toArray (false :: false :: false :: false :: false :: false :: false :: false :: false :: false :: false :: false :: false :: false :: false :: false :: false :: false :: [])) (by kernel_rfl) (by kernel_rfl) calm_in rfl rfl rfl (fun plS => ?_) | refine startW_ (k := 18) (S := fun w' => w' = _) (ds := [17]) (List.toArray (false :: false :: false :: false :: false :: false :: false :: false :: false :: false :: false :: false :: false :: false :: false :: false :: false :: false :: [])) (by kernel_rfl) (by kernel_rfl) calm_in rfl rfl rfl (fun plS => ?_)); clear plS; refine pureY (i := 0) (N := (some 10)) ?_; refine pureY (i := 2) (N := (some 12)) ?_; refine pureY (i := 8) (N := (some 18)) ?_; refine takeE (i := 1) (N := (some 11)) ?_; refine pureY (i := 3) (N := (some 13)) ?_; refine pureY (i := 4) (N := (some 14)) ?_; refine pureY (i := 5) (N := (some 15)) ?_; refine takeE (i := 6) (N := (some 16)) ?_; refine takeE (i := 7) (N := (some 17)) ?_; refine pureY (i := 9) (N := (some 19)) ?_; refine pureY (i := 10) (N := (some 20)) ?_; refine pureY (i := 11) (N := (some 21)) ?_; refine takeE (i := 12) (N := (some 22)) ?_; refine takeE (i := 13) (N := (some 23)) ?_; refine pureY (i := 14) (N := (some 24)) ?_; refine pureY (i := 15) (N := (some 25)) ?_; refine pureY (i := 16) (N := (some 26)) ?_; refine lastY (i := 17) (fun plK plH => ?_); rw [if_pos (by rfl)]; (first | gi_big_move | go_big_op | go_simp))
  ((try simp only [Act.put, List.getElem_toArray, List.getElem_cons_succ, List.getElem_cons_zero, List.setIfInBounds_toArray, List.set_cons_succ, List.set_cons_zero]); refine plH _ _ ?_; clear plH plK; refine done_ (by kernel_rfl) ?_; rw [calm_normal])
  have hk3 := blk_put J3.out i (.int .i64 (mx a (mn b n))) (ints_set _ _ _)
  have e0 : ∀ k, k ≠ 3 → w.heap.size + k ≠ w.heap.size + 3 := fun k hk => by omega
  refine ⟨(KeepsOthers.setCell W _ _).trans (.drew _), ?_, (Below.heap_setCell _ ⟨w.heap.size + 3, i, none⟩ _ _ (e0 0 (by omega))).trans J0.out, (Below.heap_setCell _ ⟨w.heap.size + 3, i, none⟩ _ _ (e0 1 (by omega))).trans J1.out, (Below.heap_setCell _ ⟨w.heap.size + 3, i, none⟩ _ _ (e0 2 (by omega))).trans J2.out, ?_, (JB.out.setCell ⟨w.heap.size + 3, i, none⟩ _ (.inr (by show w.heap.size ≤ w.heap.size + 3; omega))).drew⟩
  ·intro b hb
   simp only [List.mem_cons, List.not_mem_nil, or_false] at hb
   refine (Below.heap_setCell _ _ _ _ (fun e => ?_))
   have e : b = w.heap.size + 3 := e
   rcases hb with rfl | rfl <;> omega
  rw [foldN_snoc, ← HO.out]
  unfold stepN
  rw [← HA.out, ← HB.out]
  exact hk3
 case hdone =>
  intro D W3 hD hJ hK
  obtain ⟨j0, j1, j2, j3, jB⟩ := hJ
  rw [foldN_all lo hi n N h16] at j3
  have hnl : (nearL lo hi N n).length = 16 := padRow_length _ _
  have hS3 := SegOk.mk' j3 0 16 (by simp [ints, hnl])
  have hV3 := seg_whole (n := 16) j3 (by simp [ints, hnl])
  have hS2 := SegOk.mk' j2 0 16 (by simp [ints])
  have J2 := Aside0.mk j2
  have JB := Aside0.mk jB
  have HK := Aside0.mk hK
  clear j0 j1 j2 j3 jB hK hbb hbn
  gi_wp2_with fail
  have hfin := putSeg_block J2.out (l := (ints (nearL lo hi N n)).toList) (by simp [ints, hnl])
  have hD2 : D ≠ w.heap.size + 2 := by omega
  refine leaves_marks [D] _ ⟨fun E hE => by
   obtain rfl := List.mem_singleton.1 hE
   exact (putSeg_other _ _ _ _ _ hD2).trans HK.out, by simp⟩ ?_
  intro W8 hb hc
  have h8 := hc _ _ _ _ hfin
  refine ⟨.agg (ints (nearL lo hi N n)), ?_, rfl, ?_⟩
  ·exact (results_arr1 rfl rfl isAgg16 sizeOf16 (SegOk.mk' h8 0 16 (by simp [ints, hnl]))).trans (by rw [seg_whole (n := 16) h8 (by simp [ints, hnl])])
  exact (putSeg_below _ _ _ _ _ _ (by omega) JB.out.nil).trans (hb.below _ (by rw [putSeg_size]; have := JB.out.size; omega) (fun d hd => by
   obtain rfl := List.mem_singleton.1 hd
   omega))
end Go.Proofs.Ytpkajhmchcbbhaa.P
end
