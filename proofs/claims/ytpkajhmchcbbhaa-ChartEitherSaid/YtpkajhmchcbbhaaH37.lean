/- Part 37 of 38. -/
import Derived.Test.YtpkajhmchcbbhaaH34
import Derived.Test.YtpkajhmchcbbhaaH35
import Derived.Test.YtpkajhmchcbbhaaH36
import Derived.Test.YtpkajhmchcbbhaaH12
set_option linter.unusedSimpArgs false
set_option linter.unusedVariables false
section
namespace Go.Proofs.Ytpkajhmchcbbhaa.P
open Go.RowKit Go.Proofs.YtpkajhmchcbbhaaW.PrintWords Go.Proofs.YtpkajhmchcbbhaaW.PrintLast Go.Proofs.YtpkajhmchcbbhaaW.PrintMore
theorem chartEither_walk (A : Option Addr) (c : Nat) (l : List SRow) (p : Int) (A1 : Option Addr) (c1 : Nat) (l1 : List Int) (x0 x1 : Int) (w : World) (hC : Kd.C kRow w A l.length l) (hc : l.length ≤ c) (_hr : ∀ r, r ∈ l → Row64 r) (_hp : I64 p)
  (hC1 : Kd.C (Kd.int .i64) w A1 l1.length l1) (hc1 : l1.length ≤ c1) (_hr1 : ∀ n, n ∈ l1 → I64 n) (g0 : (Lit.int .u8 x0).wf = true) (g1 : (Lit.int .u8 x1).wf = true) :
  Calls Try.prog 8 #[.agg #[.slice A l.length c, .int .i64 p], .slice A1 l1.length c1, .agg #[.int .u8 x0, .int .u8 x1]] w fun e w' => e = .returned (.bool true) ∧ Below w.heap.size w w' := by
 have hx0 := u8_of g0
 have hx1 := u8_of g1
 by_cases h25 : (l.length : Int) > 25
 ·exact eitherC_calls A c l p A1 c1 l1 x0 x1 0 w w ⟨hC⟩ (Lib.hid hc) ⟨hC1⟩ (Lib.hid hc1) ⟨Below.refl _ _⟩ true 0 (Lib.hid (by unfold forecourtlaw01_great.f; rw [decide_eq_true h25])) (Lib.hid (fun h => by cases h)) (Lib.hid (fun h => by cases h))
 have hn : l.length ≤ 1000 := by omega
 have hg : forecourtlaw01_great.f l p = some false := by unfold forecourtlaw01_great.f; rw [decide_eq_false h25]
 obtain ⟨K1, hK1⟩ := refCheckTank_ev l p hn
 by_cases hq : checkTank l p = 0 → (l1.length : Int) > 40
 ·exact eitherC_calls A c l p A1 c1 l1 x0 x1 K1 w w ⟨hC⟩ (Lib.hid hc) ⟨hC1⟩ (Lib.hid hc1) ⟨Below.refl _ _⟩ false (checkTank l p) (Lib.hid hg) (Lib.hid (fun _ => hK1 _ (Nat.le_refl _))) (Lib.hid (fun _ => hq))
 obtain ⟨h0, h40⟩ : checkTank l p = 0 ∧ ¬ (l1.length : Int) > 40 := by
  by_cases h : checkTank l p = 0
  ·exact ⟨h, fun hh => hq (fun _ => hh)⟩
  exact absurd (fun hh => absurd hh h) hq
 have hT := tankOk_of h0
 have h2 := hT.n2
 have h16 := hT.n16
 have hcl : chart_Clash.f l p = some (clashAux l 0) := by unfold chart_Clash.f; rw [if_pos h0]
 have ho : openE l p [] = if tightOk l then 0 else 21 := by
  unfold openE
  rw [if_neg (by rw [h0]; simp)]
  simp
 obtain ⟨an, ha⟩ := Int.eq_ofNat_of_zero_le (Int.tmod_nonneg (l.length : Int) hx0.1)
 obtain ⟨bn, hb⟩ := Int.eq_ofNat_of_zero_le (Int.tmod_nonneg (l.length : Int) hx1.1)
 have ha2 := Int.tmod_lt_of_pos x0 (show (0 : Int) < (l.length : Int) by omega)
 have hb2 := Int.tmod_lt_of_pos x1 (show (0 : Int) < (l.length : Int) by omega)
 rw [ha] at ha2
 rw [hb] at hb2
 have ra : (rd_T70 l (an : Int)).f1.f0 = loR l an := by rw [rdR_nat]; rfl
 have rb : (rd_T70 l (bn : Int)).f1.f1 = hiR l bn := by rw [rdR_nat]; rfl
 cases ht : tightOk l with
 | false =>
  rcases clash_first l l.length 0 (by omega) with ⟨i, j, e, i1, i2, i3, i4, i5⟩ | ⟨e, _⟩
  ·obtain ⟨K2, hK2⟩ := chartCheck_ev l p l1
   replace e : clashAux l 0 = ((i : Int), (j : Int), 0) := e
   have ri : (rd_T70 l (i : Int)).f1.f0 = loR l i := by rw [rdR_nat]; rfl
   have rj : (rd_T70 l (j : Int)).f1.f1 = hiR l j := by rw [rdR_nat]; rfl
   refine eitherA_calls A c l p A1 c1 l1 x0 x1 (K1 + K2) w w ⟨hC⟩ (Lib.hid hc) ⟨hC1⟩ (Lib.hid hc1) ⟨Below.refl _ _⟩ i j 0 an bn (loR l an) (hiR l bn) (Lib.hid hg) (Lib.hid ((hK1 _ (by omega)).trans (by rw [h0]))) (Lib.hid (by omega)) (Lib.hid ⟨h2, h16⟩)
    (Lib.hid (by rw [hcl]; exact congrArg some e)) (Lib.hid ⟨hx0.1, hx0.2, hx1.1, hx1.2⟩) (Lib.hid ⟨ha, hb⟩) (Lib.hid (by omega)) (Lib.hid ⟨ra, rb⟩) (loR l i) (hiR l j) (checkChart l p l1)
    (Lib.hid (by unfold chart_Tight.f; rw [ho, ht]; rfl)) (Lib.hid ⟨by omega, by omega, by omega, ri, rj, by omega⟩) (Lib.hid rfl) (Lib.hid (fun hab hor => ?_)) (Lib.hid ⟨hK2 _ (by omega), no_chart hT h0 ht l1⟩)
   have := i5 an bn (by omega) (by omega) (by omega) (by omega)
   omega
  replace e : clashAux l 0 = (0, 0, 5) := e
  have := (tightOk_clash hT).2 ht
  rw [e] at this
  simp at this
 | true =>
  rcases clash_first l l.length 0 (by omega) with ⟨i, j, e, _⟩ | ⟨e, e2⟩
  ·replace e : clashAux l 0 = ((i : Int), (j : Int), 0) := e
   have := (tightOk_clash hT).1 (by rw [e])
   rw [ht] at this
   cases this
  replace e : clashAux l 0 = (0, 0, 5) := e
  obtain ⟨K2, hK2⟩ := refCheckChart_ev l p (lows l) hn
  obtain ⟨K3, hK3⟩ := refCheckChart_ev l p (highs l) hn
  obtain ⟨K4, hK4⟩ := chartCheck_ev l p (lows l)
  obtain ⟨K5, hK5⟩ := chartCheck_ev l p (highs l)
  have cl := (chart_of hT (low_chart hT ht).len (low_chart hT ht).inn (low_chart hT ht).up).2 h0
  have ch := (chart_of hT (high_chart hT ht).len (high_chart hT ht).inn (high_chart hT ht).up).2 h0
  refine eitherB_calls A c l p A1 c1 l1 x0 x1 (K1 + K2 + K3 + K4 + K5) w w ⟨hC⟩ (Lib.hid hc) ⟨hC1⟩ (Lib.hid hc1) ⟨Below.refl _ _⟩ 0 0 5 an bn (loR l an) (hiR l bn) (Lib.hid hg) (Lib.hid ((hK1 _ (by omega)).trans (by rw [h0]))) (Lib.hid (by omega)) (Lib.hid ⟨h2, h16⟩)
   (Lib.hid (by rw [hcl]; exact congrArg some e)) (Lib.hid ⟨hx0.1, hx0.2, hx1.1, hx1.2⟩) (Lib.hid ⟨ha, hb⟩) (Lib.hid (by omega)) (Lib.hid ⟨ra, rb⟩)
   (Lib.hid (by unfold chart_Tight.f; rw [ho, ht]; rfl)) (Lib.hid rfl) (Lib.hid (fun hab => ?_)) (Lib.hid ((hK2 _ (by omega)).trans (by rw [cl]))) (Lib.hid ((hK3 _ (by omega)).trans (by rw [ch]))) (Lib.hid ((hK4 _ (by omega)).trans (by rw [cl]))) (Lib.hid ((hK5 _ (by omega)).trans (by rw [ch])))
  have := e2 an bn (by omega) (by omega) (by omega)
  omega
end Go.Proofs.Ytpkajhmchcbbhaa.P
end
