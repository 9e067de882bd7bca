/- Part 27 of 38. -/
import Derived.Test.YtpkajhmchcbbhaaH18
import Derived.Test.YtpkajhmchcbbhaaH26
import Derived.Test.YtpkajhmchcbbhaaH20
import Derived.Test.YtpkajhmchcbbhaaH4
import Derived.Test.YtpkajhmchcbbhaaH5
import Derived.Test.YtpkajhmchcbbhaaH9
import Derived.Test.YtpkajhmchcbbhaaH6
import Derived.Test.YtpkajhmchcbbhaaH7
set_option linter.unusedSimpArgs false
set_option linter.unusedVariables false
section
namespace Go.Proofs.Ytpkajhmchcbbhaa.P
open Go.RowKit Go.Proofs.YtpkajhmchcbbhaaW.PrintWords Go.Proofs.YtpkajhmchcbbhaaW.PrintLast Go.Proofs.YtpkajhmchcbbhaaW.PrintMore
theorem tube {l : List SRow} (hn : 1 ≤ l.length) (ht : tightOk l = true) : Tube l.length (lowN l) (highN l) := by
 have hle : ∀ i, i < l.length → lowN l i ≤ highN l i := fun i hi => by
  unfold tightOk at ht
  rw [List.all_eq_true] at ht
  exact of_decide_eq_true (ht i (List.mem_range.2 hi))
 refine ⟨hle, fun i j hij hj => ?_, fun i j hij hj => ?_⟩
 ·obtain ⟨d, rfl⟩ : ∃ d, j = i + d := ⟨j - i, by omega⟩
  clear hij
  induction d with
  | zero => exact Int.le_refl _
  | succ d ih =>
   have := ih (by omega)
   have h2 : lowN l (i + d) ≤ lowN l (i + d + 1) := by rw [lowN_succ]; exact mx_right
   have e : i + (d + 1) = i + d + 1 := by omega
   rw [e]; omega
 obtain ⟨d, rfl⟩ : ∃ d, j = i + d := ⟨j - i, by omega⟩
 clear hij
 induction d with
 | zero => exact Int.le_refl _
 | succ d ih =>
  have := ih (by omega)
  have h2 : highN l (i + d) ≤ highN l (i + d + 1) := by rw [highN_succ l (i + d) (by omega)]; exact mn_right
  have e : i + (d + 1) = i + d + 1 := by omega
  rw [e]; omega
theorem chartOk_iff (l : List SRow) : ∀ (last : Int) (c : List Int), c.length = l.length → (chartOk last l c = true ↔ (∀ i, i < l.length → loR l i ≤ c.getD i 0 ∧ c.getD i 0 ≤ hiR l i ∧ last ≤ c.getD i 0) ∧ Up l.length (fun i => c.getD i 0)) := by
 induction l with
 | nil => intro last c _; exact ⟨fun _ => ⟨fun i hi => absurd hi (Nat.not_lt_zero _), fun i j _ hj => absurd hj (Nat.not_lt_zero _)⟩, fun _ => by simp [chartOk]⟩
 | cons r l ih =>
  intro last c hc
  cases c with
  | nil => simp at hc
  | cons n c =>
   have hc2 : c.length = l.length := by simpa using hc
   rw [chartOk, Bool.and_eq_true, inB_iff, ih n c hc2]
   have hm : mx last r.f1.f0 ≤ n ↔ last ≤ n ∧ r.f1.f0 ≤ n := by unfold mx; split <;> omega
   rw [hm]
   constructor
   ·rintro ⟨⟨⟨h1, h2⟩, h3⟩, h4, h5⟩
    refine ⟨fun i hi => ?_, fun i j hij hj => ?_⟩
    ·cases i with
     | zero => exact ⟨h2, h3, h1⟩
     | succ i =>
      obtain ⟨g1, g2, g3⟩ := h4 i (by simpa using hi)
      exact ⟨g1, g2, by simpa using Int.le_trans h1 g3⟩
    cases i with
    | zero =>
     cases j with
     | zero => exact Int.le_refl _
     | succ j => simpa using (h4 j (by simpa using hj)).2.2
    | succ i =>
     cases j with
     | zero => omega
     | succ j => simpa using h5 i j (by omega) (by simpa using hj)
   rintro ⟨h1, h2⟩
   obtain ⟨g1, g2, g3⟩ := h1 0 (by simp)
   refine ⟨⟨⟨g3, g1⟩, g2⟩, fun i hi => ?_, fun i j hij hj => ?_⟩
   ·obtain ⟨k1, k2, _⟩ := h1 (i + 1) (by simpa using hi)
    exact ⟨k1, k2, by simpa using h2 0 (i + 1) (by omega) (by simpa using hi)⟩
   simpa using h2 (i + 1) (j + 1) (by omega) (by simpa using hj)
theorem chart_in {l : List SRow} {c : List Int} (hc : c.length = l.length) (h : chartOk 0 l c = true) : In l.length (lowN l) (highN l) (fun i => c.getD i 0) ∧ Up l.length (fun i => c.getD i 0) := by
 obtain ⟨h1, h2⟩ := (chartOk_iff l 0 c hc).1 h
 refine ⟨⟨fun i hi => ?_, fun i hi => ?_⟩, h2⟩
 ·obtain ⟨k, hk, e⟩ := lowN_of l i
  rw [e]
  exact Int.le_trans (h1 k (by omega)).1 (h2 k i hk hi)
 obtain ⟨k, hk, hk2, e⟩ := highN_of l (l.length - (i + 1)) i (by omega)
 rw [e]
 exact Int.le_trans (h2 i k hk hk2) (h1 k hk2).2.1
theorem chart_of {l : List SRow} {p : Int} (hT : TankOk l p) {c : List Int} (hc : c.length = l.length) (hin : In l.length (lowN l) (highN l) (fun i => c.getD i 0)) (hup : Up l.length (fun i => c.getD i 0)) : checkChart l p c = 0 ↔ checkTank l p = 0 := by
 have hok : chartOk 0 l c = true := (chartOk_iff l 0 c hc).2 ⟨fun i hi => by
  have h1 := hin.lo i hi
  have h2 := hin.hi i hi
  have h3 := hT.lowN_in i hi
  have h4 := highN_le l (l.length - (i + 1)) i (by omega) i (Nat.le_refl _) hi
  exact ⟨by omega, by omega, by omega⟩, hup⟩
 unfold checkChart
 constructor
 ·intro h
  split at h
  ·rename_i h2; exact absurd h h2
  rename_i h2; exact Classical.byContradiction h2
 intro h
 rw [if_neg (by simp [h]), if_neg (by simp [hc]), if_pos hok]
end Go.Proofs.Ytpkajhmchcbbhaa.P
end
section
namespace Go.Proofs.Ytpkajhmchcbbhaa.P
open Go.RowKit Go.Proofs.YtpkajhmchcbbhaaW.PrintWords Go.Proofs.YtpkajhmchcbbhaaW.PrintLast Go.Proofs.YtpkajhmchcbbhaaW.PrintMore
theorem tightL_len (l : List SRow) : (tightL l).length = l.length := by simp [tightL]
theorem rdTight (l : List SRow) (i : Nat) (hi : i < l.length) : rd_T43 (tightL l) (i : Int) = ⟨lowN l i, highN l i⟩ := by rw [rdT_nat, tightL_get l i hi]
theorem range_getD (f : Nat → Int) (n i : Nat) (hi : i < n) : ((List.range n).map f).getD i 0 = f i := by
 rw [List.getD_eq_getElem?_getD, List.getElem?_map, List.getElem?_range hi]; rfl
structure Chart (l : List SRow) (c : List Int) : Prop where
 len : c.length = l.length
 inn : In l.length (lowN l) (highN l) (fun i => c.getD i 0)
 up : Up l.length (fun i => c.getD i 0)
theorem Chart.of_fun {l : List SRow} {f : Nat → Int} (h : In l.length (lowN l) (highN l) f ∧ Up l.length f) : Chart l ((List.range l.length).map f) :=
 ⟨by simp, ⟨fun i hi => by simp only [range_getD f _ i hi]; exact h.1.lo i hi, fun i hi => by simp only [range_getD f _ i hi]; exact h.1.hi i hi⟩, fun i j hij hj => by
  simp only [range_getD f _ i (show i < l.length by omega), range_getD f _ j hj]; exact h.2 i j hij hj⟩
end Go.Proofs.Ytpkajhmchcbbhaa.P
end
section
namespace Go.Proofs.Ytpkajhmchcbbhaa.P
open Go.RowKit Go.Proofs.YtpkajhmchcbbhaaW.PrintWords Go.Proofs.YtpkajhmchcbbhaaW.PrintLast Go.Proofs.YtpkajhmchcbbhaaW.PrintMore
theorem least_above {p : Nat → Prop} (n : Nat) : ∀ j, n ≤ j → p j → ∃ m, n ≤ m ∧ m ≤ j ∧ p m ∧ ∀ q, n ≤ q → q < m → ¬ p q := by
 intro j
 induction j using Nat.strongRecOn with
 | _ j ih =>
  intro hj hp
  by_cases hq : ∃ q, n ≤ q ∧ q < j ∧ p q
  ·obtain ⟨q, h1, h2, h3⟩ := hq
   obtain ⟨m, a, b, c, d⟩ := ih q h2 h1 h3
   exact ⟨m, a, by omega, c, d⟩
  exact ⟨j, hj, Nat.le_refl _, hp, fun q h1 h2 h3 => hq ⟨q, h1, h2, h3⟩⟩
theorem clash_first (l : List SRow) (d : Nat) : ∀ i : Nat, i + d = l.length →
  (∃ a b, clashAux (l.drop i) i = (((a : Nat) : Int), ((b : Nat) : Int), 0) ∧ i ≤ a ∧ a < b ∧ b < l.length ∧ hiR l b < loR l a ∧ ∀ x y, i ≤ x → x < y → y < l.length → (x < a ∨ x = a ∧ y < b) → ¬ hiR l y < loR l x) ∨
  (clashAux (l.drop i) i = (0, 0, 5) ∧ ∀ x y, i ≤ x → x < y → y < l.length → ¬ hiR l y < loR l x) := by
 induction d with
 | zero =>
  intro i hi
  rw [List.drop_eq_nil_of_le (by omega)]
  exact Or.inr ⟨rfl, fun x y h1 h2 h3 => by omega⟩
 | succ d ih =>
  intro i hi
  by_cases hx : ∃ j, i + 1 ≤ j ∧ (j < l.length ∧ hiR l j < loR l i)
  ·obtain ⟨j, hj1, hj2⟩ := hx
   obtain ⟨m, h1, _, h3, h4⟩ := least_above (p := fun j => j < l.length ∧ hiR l j < loR l i) (i + 1) j hj1 hj2
   refine Or.inl ⟨i, m, clash_here l i m (by omega) h3.1 (fun j a b c => h4 j a b ⟨by omega, c⟩) h3.2, Nat.le_refl _, by omega, h3.1, h3.2, fun x y g1 g2 g3 g4 g5 => ?_⟩
   rcases g4 with g4 | ⟨rfl, g4⟩
   ·omega
   exact h4 y (by omega) g4 ⟨g3, g5⟩
  rw [clash_next l i (by omega) (fun j h1 h2 h3 => hx ⟨j, h1, h2, h3⟩)]
  rcases ih (i + 1) (by omega) with ⟨a, b, e, h1, h2, h3, h4, h5⟩ | ⟨e, h⟩
  ·refine Or.inl ⟨a, b, e, by omega, h2, h3, h4, fun x y g1 g2 g3 g4 g5 => ?_⟩
   by_cases hxi : x = i
   ·subst hxi; exact hx ⟨y, by omega, g3, g5⟩
   exact h5 x y (by omega) g2 g3 g4 g5
  refine Or.inr ⟨e, fun x y g1 g2 g3 g5 => ?_⟩
  by_cases hxi : x = i
  ·subst hxi; exact hx ⟨y, by omega, g3, g5⟩
  exact h x y (by omega) g2 g3 g5
section
variable {l : List SRow} {p : Int}
theorem no_chart (hT : TankOk l p) (h0 : checkTank l p = 0) (hn : tightOk l = false) (c : List Int) : checkChart l p c ≠ 0 := by
 intro h
 have h2 := (tightOk_clash hT).2 hn
 obtain ⟨a, b, h3, h4, h5, h6⟩ := (clashAux_iff l l.length 0 (by omega)).1 h2
 unfold checkChart at h
 rw [if_neg (by simp [h0])] at h
 by_cases hl : c.length = l.length
 ·rw [if_neg (by simpa using hl)] at h
  by_cases hok : chartOk 0 l c = true
  ·obtain ⟨k1, k2⟩ := (chartOk_iff l 0 c hl).1 hok
   have e1 := (k1 a (by omega)).1
   have e2 := (k1 b h5).2.1
   have e3 := k2 a b (by omega) h5
   simp only at e3
   omega
  rw [if_neg hok] at h; simp at h
 rw [if_pos hl] at h; simp at h
theorem low_chart (hT : TankOk l p) (ht : tightOk l = true) : Chart l (lows l) :=
 Chart.of_fun ⟨⟨fun i hi => Int.le_refl _, fun i hi => (tube (by have := hT.n2; omega) ht).le i hi⟩, (tube (by have := hT.n2; omega) ht).low⟩
theorem high_chart (hT : TankOk l p) (ht : tightOk l = true) : Chart l (highs l) :=
 Chart.of_fun ⟨⟨fun i hi => (tube (by have := hT.n2; omega) ht).le i hi, fun i hi => Int.le_refl _⟩, (tube (by have := hT.n2; omega) ht).high⟩
end
end Go.Proofs.Ytpkajhmchcbbhaa.P
end
