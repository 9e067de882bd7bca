/- Part 31 of 46. -/
import Derived.Test.YtpkajhmchcbbhaaB30
import Derived.Test.YtpkajhmchcbbhaaB25
import Derived.Test.YtpkajhmchcbbhaaB13
import Derived.Test.YtpkajhmchcbbhaaB14
set_option linter.unusedSimpArgs false
set_option linter.unusedVariables false
section
namespace Go.Proofs.Ytpkajhmchcbbhaa.P
open Go.RowKit Go.Proofs.YtpkajhmchcbbhaaW.PrintWords Go.Proofs.YtpkajhmchcbbhaaW.PrintLast Go.Proofs.YtpkajhmchcbbhaaW.PrintMore
theorem wrap_id {x : Int} (h : -9223372036854775808 ≤ x ∧ x ≤ 9223372036854775807) : wrap64 x = x := by unfold wrap64; omega
theorem inside_ev (l : List SRow) (p dip : Int) (h0 : 0 < l.length) (hn : l.length ≤ 1000) : forecourtref01_Inside.f l p dip = some (inB (firstD l) (lastD l) dip) := by
 unfold forecourtref01_Inside.f
 have e0 : rd_T70 l 0 = l.getD 0 zRow := rfl
 have e1 : wrap64 ((l.length : Int) - 1) = ((l.length - 1 : Nat) : Int) := by unfold wrap64; omega
 have hb : inB (firstD l) (lastD l) dip = (decide (firstD l ≤ dip) && decide (dip ≤ lastD l)) := by
  rw [Bool.eq_iff_iff, inB_iff, Bool.and_eq_true, decide_eq_true_eq, decide_eq_true_eq]
 rw [if_pos (by omega), e0, e1, rdR_nat, hb]
 by_cases h1 : firstD l ≤ dip
 ·rw [if_pos (show dip ≥ (l.getD 0 zRow).f0 from h1), if_pos (by omega), if_pos (by omega), decide_eq_true h1]; rfl
 rw [if_neg (show ¬ dip ≥ (l.getD 0 zRow).f0 from h1), decide_eq_false h1]; rfl
theorem fraction_l0 (x0 x1 : Int) (hx0 : -4611686018427387904 ≤ x0 ∧ x0 ≤ 4611686018427387904) (hx1 : -4611686018427387904 ≤ x1 ∧ x1 ≤ 4611686018427387904) (n : Nat) : ∀ (a b : Int), b.natAbs < n → (a ≠ 0 ∨ b ≠ 0) →
  Ev (fun k => forecourtref01_Fraction.l0 k x0 x1 a b) (x0.tdiv (gcdT a b), x1.tdiv (gcdT a b)) := by
 induction n with
 | zero => intro a b h _; omega
 | succ n ih =>
  intro a b h h0
  by_cases hb : b = 0
  ·subst hb
   refine Ev.step (f := fun _ => some _) (fun k => ?_) (Ev.now _)
   simp only [forecourtref01_Fraction.l0, if_true]
   rw [if_neg (by simpa using h0), gcdT_zero, tdiv_in _ _ hx0, tdiv_in _ _ hx1]
  refine Ev.step (f := fun k => forecourtref01_Fraction.l0 k x0 x1 b (a.tmod b)) (fun k => ?_) ?_
  ·simp only [forecourtref01_Fraction.l0]
   rw [if_neg hb]
  rw [gcdT_step a b hb]
  exact ih b _ (by have := tmod_abs a b hb; omega) (.inl hb)
theorem fraction_ev (a b : Int) (ha : -4611686018427387904 ≤ a ∧ a ≤ 4611686018427387904) (hb : -4611686018427387904 ≤ b ∧ b ≤ 4611686018427387904) (h0 : b ≠ 0) : Ev (fun k => forecourtref01_Fraction.f k a b) (leastN a b, leastD a b) :=
 fraction_l0 a b ha hb (b.natAbs + 1) a b (Nat.lt_succ_self _) (.inr h0)
theorem piece_ev (l : List SRow) (p dip : Int) (h2 : 2 ≤ l.length) (hn : l.length ≤ 1000) (d : Nat) : ∀ i : Nat, i + 2 + d = l.length → (∀ j, 1 ≤ j → j ≤ i → dipN l j ≤ dip) →
  ∃ r : Nat, r + 1 < l.length ∧ Ev (fun k => forecourtref01_piece.l0 k dip i l p) (r : Int) ∧ (∀ j, 1 ≤ j → j ≤ r → dipN l j ≤ dip) ∧ (r + 2 < l.length → dip < dipN l (r + 1)) := by
 induction d with
 | zero =>
  intro i hi hj
  refine ⟨i, by omega, Ev.step (f := fun _ => some _) (fun k => ?_) (Ev.now _), hj, fun h => by omega⟩
  simp only [forecourtref01_piece.l0]
  rw [if_neg (by unfold wrap64; omega)]
 | succ d ih =>
  intro i hi hj
  by_cases hd : dipN l (i + 1) ≤ dip
  ·obtain ⟨r, h1, h3, h4, h5⟩ := ih (i + 1) (by omega) (fun j h6 h7 => by
    rcases Nat.lt_or_ge j (i + 1) with h | h
    ·exact hj j h6 (by omega)
    obtain rfl : j = i + 1 := by omega
    exact hd)
   refine ⟨r, h1, Ev.step (f := fun k => forecourtref01_piece.l0 k dip ((i + 1 : Nat) : Int) l p) (fun k => ?_) h3, h4, h5⟩
   simp only [forecourtref01_piece.l0]
   rw [if_pos (by unfold wrap64; omega), wrap_nat i (by omega), if_pos (by omega), if_pos (by omega), rdR_nat, if_pos (show (l.getD (i + 1) zRow).f0 ≤ dip from hd)]
  refine ⟨i, by omega, Ev.step (f := fun _ => some _) (fun k => ?_) (Ev.now _), hj, fun _ => by omega⟩
  simp only [forecourtref01_piece.l0]
  rw [if_pos (by unfold wrap64; omega), wrap_nat i (by omega), if_pos (by omega), if_pos (by omega), rdR_nat, if_neg (show ¬ (l.getD (i + 1) zRow).f0 ≤ dip from hd)]
theorem mul_in {x y A B : Int} (hA : 0 ≤ A) (hx : 0 ≤ x ∧ x ≤ A) (hy : 0 ≤ y ∧ y ≤ B) : 0 ≤ x * y ∧ x * y ≤ A * B :=
 ⟨Int.mul_nonneg hx.1 hy.1, Int.mul_le_mul hx.2 hy.2 hy.1 hA⟩
theorem refbelow_ev {l : List SRow} {p : Int} (hT : TankOk l p) (c : List Int) (hc : c.length = l.length) (hin : ∀ x, x ∈ c → 0 ≤ x ∧ x ≤ 100000) (dip : Int) (hd0 : firstD l ≤ dip) (hd1 : dip ≤ lastD l) (q : Int) :
  ∃ (i : Nat), i + 1 < l.length ∧ (∀ j, 1 ≤ j → j ≤ i → dipN l j ≤ dip) ∧ (i + 2 < l.length → dip < dipN l (i + 1)) ∧ dipN l i ≤ dip ∧ dip ≤ dipN l (i + 1) ∧
   Ev (fun k => forecourtref01_below.f k l q c dip) (c.getD i 0 * (dipN l (i + 1) - dip) + c.getD (i + 1) 0 * (dip - dipN l i), dipN l (i + 1) - dipN l i) := by
 obtain ⟨i, h1, h2, h3, h4⟩ := piece_ev l q dip hT.n2 (by have := hT.n16; omega) (l.length - 2) 0 (by have := hT.n2; omega) (fun j h1 h2 => by omega)
 have hi1 : dipN l i ≤ dip := by
  cases i with
  | zero => exact hd0
  | succ i => exact h3 (i + 1) (by omega) (Nat.le_refl _)
 have hi2 : dip ≤ dipN l (i + 1) := by
  by_cases h : i + 2 < l.length
  ·have := h4 h; omega
  have e : i + 1 = l.length - 1 := by omega
  rw [e]; exact hd1
 refine ⟨i, h1, h3, h4, hi1, hi2, Ev.bind h2 ?_⟩
 have h16 := hT.n16
 have r1 := hT.top i (by omega)
 have r2 := hT.top (i + 1) h1
 have r3 := hT.low i (by omega)
 have r4 := hT.low (i + 1) h1
 have m1 : 0 ≤ c.getD i 0 ∧ c.getD i 0 ≤ 100000 := hin _ (by rw [List.getD_eq_getElem?_getD, List.getElem?_eq_getElem (by omega)]; exact List.getElem_mem _)
 have m2 : 0 ≤ c.getD (i + 1) 0 ∧ c.getD (i + 1) 0 ≤ 100000 := hin _ (by rw [List.getD_eq_getElem?_getD, List.getElem?_eq_getElem (by omega)]; exact List.getElem_mem _)
 have e1 : rd_T70 l ((i + 1 : Nat) : Int) = l.getD (i + 1) zRow := rdR_nat l (i + 1)
 have w1 := mul_in (by omega) m1 (show 0 ≤ dipN l (i + 1) - dip ∧ dipN l (i + 1) - dip ≤ 4000 by omega)
 have w2 := mul_in (by omega) m2 (show 0 ≤ dip - dipN l i ∧ dip - dipN l i ≤ 4000 by omega)
 have k1 : (l.getD (i + 1) zRow).f0 = dipN l (i + 1) := rfl
 have k2 : (l.getD i zRow).f0 = dipN l i := rfl
 rw [show (fun n : Nat => _) = (fun n : Nat => some (c.getD i 0 * (dipN l (i + 1) - dip) + c.getD (i + 1) 0 * (dip - dipN l i), dipN l (i + 1) - dipN l i)) from ?_]
 ·exact Ev.now _
 funext _
 rw [if_pos (by omega), if_pos (by omega), wrap_nat i (by omega), if_pos (by omega), if_pos (by omega), if_pos (by omega), if_pos (by omega), rd_nat, rd_nat, rdR_nat, rdR_nat, k1, k2,
  wrap_id (x := dipN l (i + 1) - dip) (by omega), wrap_id (x := dip - dipN l i) (by omega), wrap_id (x := c.getD i 0 * _) (by omega), wrap_id (x := c.getD (i + 1) 0 * _) (by omega), wrap_id (x := _ + _) (by omega), wrap_id (x := dipN l (i + 1) - dipN l i) (by omega)]
theorem refBelow_ev (l : List SRow) (p : Int) (c : List Int) (dip : Int) (hn : l.length ≤ 1000) :
  Ev (fun k => forecourtref01_Below.f k l p c dip) (if checkChart l p c ≠ 0 then (0, 0, checkChart l p c) else if inB (firstD l) (lastD l) dip = false then (0, 0, 3) else (leastN (dot (wts l dip) c) (wden l dip), leastD (dot (wts l dip) c) (wden l dip), 0)) := by
 refine Ev.bind (refCheckChart_ev l p c hn) ?_
 by_cases h : checkChart l p c = 0
 ·rw [if_neg (by simp [h])]
  simp only [if_pos h]
  obtain ⟨h0, hlen, _, hin⟩ := checkChart_spec h
  have hT := tankOk_of h0
  have h16 := hT.n16
  refine Ev.bind (a := inB (firstD l) (lastD l) dip) (by rw [inside_ev l p dip (by have := hT.n2; omega) hn]; exact Ev.now _) ?_
  cases hb : inB (firstD l) (lastD l) dip with
  | false =>
   simp only [Bool.false_eq_true, if_false, if_true]
   exact Ev.now _
  | true =>
   simp only [if_true, Bool.true_eq_false, if_false]
   obtain ⟨hd0, hd1⟩ := (inB_iff _ _ _).1 hb
   obtain ⟨i, hi, h3, h4, h5, h6, hev⟩ := refbelow_ev hT c hlen hin dip hd0 hd1 p
   refine Ev.bind hev ?_
   have r1 := hT.top i (by omega)
   have r2 := hT.top (i + 1) hi
   have r3 := hT.low i (by omega)
   have r4 := hT.low (i + 1) hi
   have m1 : 0 ≤ c.getD i 0 ∧ c.getD i 0 ≤ 100000 := hin _ (by rw [List.getD_eq_getElem?_getD, List.getElem?_eq_getElem (by omega)]; exact List.getElem_mem _)
   have m2 : 0 ≤ c.getD (i + 1) 0 ∧ c.getD (i + 1) 0 ≤ 100000 := hin _ (by rw [List.getD_eq_getElem?_getD, List.getElem?_eq_getElem (by omega)]; exact List.getElem_mem _)
   have w1 := mul_in (by omega) m1 (show 0 ≤ dipN l (i + 1) - dip ∧ dipN l (i + 1) - dip ≤ 4000 by omega)
   have w2 := mul_in (by omega) m2 (show 0 ≤ dip - dipN l i ∧ dip - dipN l i ≤ 4000 by omega)
   have hup := hT.up i hi
   have hsame := below_same hT dip i hi h3 h4 c (by omega) (by omega)
   have hwd := hT.wden_pos dip
   have hdot : 0 ≤ dot (wts l dip) c := by
    rw [dot_wts hT dip c (by omega) (by omega)]
    obtain ⟨p1, p2, p3, p4⟩ := pos_spec hT.n2 dip
    have g1 : dip ≤ dipN l (pos l dip) := by
     by_cases hq : pos l dip < l.length - 1
     ·exact p4 hq
     have e : pos l dip = l.length - 1 := by omega
     rw [e]; exact hd1
    have g2 : dipN l (pos l dip - 1) ≤ dip := by
     by_cases hq : pos l dip = 1
     ·rw [hq]; exact hd0
     have := p3 (pos l dip - 1) (by omega) (by omega); omega
    have g3 : ∀ j, j < l.length → 0 ≤ c.getD j 0 := fun j hj => (hin _ (by rw [List.getD_eq_getElem?_getD, List.getElem?_eq_getElem (by omega)]; exact List.getElem_mem _)).1
    have g4 := Int.mul_nonneg (show 0 ≤ dipN l (pos l dip) - dip by omega) (g3 (pos l dip - 1) (by omega))
    have g5 := Int.mul_nonneg (show 0 ≤ dip - dipN l (pos l dip - 1) by omega) (g3 (pos l dip) p2)
    omega
   obtain ⟨f1, f2⟩ := frac_eq hdot hwd (by omega) (show 1 ≤ dipN l (i + 1) - dipN l i by omega) hsame
   refine Ev.bind (fraction_ev _ _ (by omega) (by omega) (by omega)) ?_
   rw [f1, f2]
   exact Ev.now _
 rw [if_pos h]
 simp only [if_neg h]
 exact Ev.bind (refCheckChart_ev l p c hn) (Ev.now _)
theorem rdT_nat (l : List SRange) (i : Nat) : rd_T43 l (i : Int) = l.getD i z43 := by simp [rd_T43]
theorem tightL_get (l : List SRow) (i : Nat) (hi : i < l.length) : (tightL l).getD i z43 = ⟨lowN l i, highN l i⟩ := by
 unfold tightL
 rw [List.getD_eq_getElem?_getD, List.getElem?_map, List.getElem?_range hi]; rfl
theorem refMetered_ev (l : List SRow) (p frm tu : Int) (hn : l.length ≤ 1000) : ∃ r, chart_Metered.f l p frm tu = some r ∧ Ev (fun k => forecourtref01_Metered.f k l p frm tu) r := by
 refine ⟨_, rfl, Ev.bind (refCheckTank_ev l p hn) ?_⟩
 by_cases h : checkTank l p = 0
 ·rw [if_neg (by simp [h])]
  simp only [if_pos h]
  have hT := tankOk_of h
  have h16 := hT.n16

  have hout : ∀ b : Bool, (b = true ↔ frm < 0 ∨ (l.length : Int) ≤ frm ∨ tu < 0 ∨ (l.length : Int) ≤ tu) → Ev (fun k => forecourtref01_Metered.j0 k frm tu b l p)
    (if frm < 0 ∨ (l.length : Int) ≤ frm ∨ tu < 0 ∨ (l.length : Int) ≤ tu then (0, 0, 3) else if tu < frm then (0, 0, 2)
     else if tightOk l = false then (0, 0, 21) else if frm = tu then (0, 0, 0) else (mx 0 (lowN l tu.toNat - highN l frm.toNat), highN l tu.toNat - lowN l frm.toNat, 0)) := by
   intro b hb
   cases b with
   | true =>
    rw [if_pos (hb.1 rfl)]
    exact Ev.step (f := fun _ => some _) (fun k => by simp only [forecourtref01_Metered.j0, if_true]) (Ev.now _)
   | false =>
    have hno : ¬ (frm < 0 ∨ (l.length : Int) ≤ frm ∨ tu < 0 ∨ (l.length : Int) ≤ tu) := fun h => by have := hb.2 h; cases this
    rw [if_neg hno]
    obtain ⟨i, rfl⟩ := Int.eq_ofNat_of_zero_le (show 0 ≤ frm by omega)
    obtain ⟨j, rfl⟩ := Int.eq_ofNat_of_zero_le (show 0 ≤ tu by omega)
    refine Ev.step (fun k => by simp only [forecourtref01_Metered.j0, Bool.false_eq_true, if_false]; exact rfl) ?_
    by_cases hgt : (j : Int) < i
    ·rw [if_pos hgt]
     simp only [if_pos (show (i : Int) > j from hgt)]
     exact Ev.now _
    rw [if_neg hgt]
    simp only [if_neg (show ¬ (i : Int) > j from hgt)]
    refine Ev.bind (refClashes_ev l p hn) ?_
    rw [clashes_of h]
    cases ht : tightOk l with
    | false => simp only [Bool.not_false, if_true]; exact Ev.now _
    | true =>
     simp only [Bool.not_true, Bool.false_eq_true, if_false, Bool.true_eq_false]
     by_cases hij : (i : Int) = j
     ·simp only [if_pos hij]; exact Ev.now _
     simp only [if_neg hij]
     refine Ev.bind (reftight_ev l p hn) ?_
     have hi : i < l.length := by omega
     have hj : j < l.length := by omega
     have hl : (tightL l).length = l.length := by simp [tightL]
     have a1 := hT.lowN_in i hi
     have a2 := hT.lowN_in j hj
     have a3 := hT.highN_in i hi
     have a4 := hT.highN_in j hj
     rw [show (fun n : Nat => _) = (fun n : Nat => some (mx 0 (lowN l j - highN l i), highN l j - lowN l i, (0 : Int))) from ?_]
     ·exact Ev.now _
     funext _
     rw [hl, if_pos (by omega), if_pos (by omega), if_pos (by omega), if_pos (by omega), rdT_nat, rdT_nat, tightL_get l i hi, tightL_get l j hj]
     simp only
     rw [wrap_id (x := lowN l j - highN l i) (by omega), wrap_id (x := highN l j - lowN l i) (by omega)]
  by_cases c1 : frm < 0
  ·simp only [if_pos c1]; exact hout true (by simp [c1])
  simp only [if_neg c1]
  by_cases c2 : frm ≥ (l.length : Int)
  ·simp only [if_pos c2]; exact hout true (by simp only [true_iff]; omega)
  simp only [if_neg c2]
  by_cases c3 : tu < 0
  ·simp only [if_pos c3]; exact hout true (by simp only [true_iff]; omega)
  simp only [if_neg c3]
  exact hout _ (by rw [decide_eq_true_eq]; omega)
 rw [if_pos h]
 simp only [if_neg h]
 exact Ev.bind (refCheckTank_ev l p hn) (Ev.now _)
end Go.Proofs.Ytpkajhmchcbbhaa.P
end
