/- Part 21 of 42. -/
import Derived.Test.YtpkajhmchcbbhaaA14
import Derived.Test.YtpkajhmchcbbhaaA20
import Derived.Test.YtpkajhmchcbbhaaA19
import Derived.Test.YtpkajhmchcbbhaaA18
set_option linter.unusedSimpArgs false
set_option linter.unusedVariables false
section
namespace Go.Proofs.Ytpkajhmchcbbhaa.P
open Go.RowKit Go.Proofs.YtpkajhmchcbbhaaW.PrintWords Go.Proofs.YtpkajhmchcbbhaaW.PrintLast Go.Proofs.YtpkajhmchcbbhaaW.PrintMore
def isR (lo hi a b : Int) : Bool := inB lo hi a && inB lo hi b && decide (a ≤ b)
theorem mul_400 {a b : Int} (h0 : -400 ≤ a) (h1 : a ≤ 400) (k0 : 0 ≤ b) (k1 : b ≤ 200) : -80000 ≤ a * b ∧ a * b ≤ 80000 := by
 constructor
 ·have h := Int.mul_le_mul_of_nonneg_right h0 k0
  have : -400 * 200 ≤ -400 * b := by omega
  omega
 have h := Int.mul_le_mul_of_nonneg_right h1 k0
 omega
theorem put4_below {w W : World} {b : Nat} {x0 x1 x2 x3 : Value} (hB : Below w.heap.size w W) (hb : w.heap.size ≤ b) : Below w.heap.size w ((((W.setCell ⟨b, 0, none⟩ x0).setCell ⟨b, 1, none⟩ x1).setCell ⟨b, 2, none⟩ x2).setCell ⟨b, 3, none⟩ x3) := (((hB.setCell (p := ⟨b, 0, none⟩) hb x0).setCell (p := ⟨b, 1, none⟩) hb x1).setCell (p := ⟨b, 2, none⟩) hb x2).setCell (p := ⟨b, 3, none⟩) hb x3
theorem isRange_eq (a b lo hi : Int) : chart_isRange.f a b lo hi = some (isR lo hi a b) := by
 unfold chart_isRange.f chart_within.f isR
 simp only [Option.bind_some, List.all_cons, List.all_nil, Bool.and_true]
 cases inB lo hi a <;> cases inB lo hi b <;> simp
def warmest (a1_1 a2_0 a2_1 : Int) : Int := if a1_1 < 0 then a1_1 * a2_0 else a1_1 * a2_1
def coldest (a1_0 a2_0 a2_1 : Int) : Int := if a1_0 < 0 then a1_0 * a2_1 else a1_0 * a2_0
def common5.f (a0 a1_0 a1_1 a2_0 a2_1 : Int) : Option (Int × Int × Int × Int × Int) :=
 some (if inB 0 100000 a0 = false then (0, 0, 0, 0, 3) else if isR (-400) 400 a1_0 a1_1 = false then (0, 0, 0, 0, 2) else if isR 0 200 a2_0 a2_1 = false then (0, 0, 0, 0, 2)
  else (leastN (1000000 * a0) (1000000 + warmest a1_1 a2_0 a2_1), leastD (1000000 * a0) (1000000 + warmest a1_1 a2_0 a2_1), leastN (1000000 * a0) (1000000 + coldest a1_0 a2_0 a2_1), leastD (1000000 * a0) (1000000 + coldest a1_0 a2_0 a2_1), 0))
set_option maxRecDepth 100000 in
set_option maxHeartbeats 40000000 in
theorem common5.calls (a0 : Int) (a1_0 : Int) (a1_1 : Int) (a2_0 : Int) (a2_1 : Int) (r1 : Int) (r2 : Int) (r3 : Int) (r4 : Int) (r5 : Int) (w : World) (h : common5.f a0 a1_0 a1_1 a2_0 a2_1 = some (r1, r2, r3, r4, r5)) :
  Calls Try.prog 36 #[.int .i64 a0, .agg #[.int .i64 a1_0, .int .i64 a1_1], .agg #[.int .i64 a2_0, .int .i64 a2_1]] w fun e w' => e = .returned (.tuple #[.agg #[.int .i64 r1, .int .i64 r2, .int .i64 r3, .int .i64 r4], .int .i64 r5]) ∧ Below w.heap.size w w' := by
 have HE := Aside0.mk (Option.some.inj h)
 clear h
 have hu4 := Try.underlying43
 have hu8 := Try.underlying39
 have hu3 := Try.underlying48
 go_enter Try.func36, Try.ntmps36
 go_wp2_with fail
 obtain ⟨V0, hV0⟩ : ∃ V, (((w.alloc (.cells #[.int .i64 a1_0, .int .i64 a1_1] 43)).alloc (.cells #[.int .i64 a2_0, .int .i64 a2_1] 43)).alloc (.cells #[.int .i64 0, .int .i64 0, .int .i64 0, .int .i64 0] 48)).alloc (.cells #[.int .i64 a0] 2) = V := ⟨_, rfl⟩
 have K0 : Aside0 (V0.heap[w.heap.size]? = some (.cells #[.int .i64 a1_0, .int .i64 a1_1] 43 (0, 0))) := ⟨by rw [← hV0]; exact blk_old (blk_old (blk_old (blk_new _ _)))⟩
 have K1 : Aside0 (V0.heap[w.heap.size + 1]? = some (.cells #[.int .i64 a2_0, .int .i64 a2_1] 43 (0, 0))) := ⟨by rw [← hV0]; exact blk_old (blk_old (blk_new' (by simp)))⟩
 have K2 : Aside0 (V0.heap[w.heap.size + 2]? = some (.cells #[.int .i64 0, .int .i64 0, .int .i64 0, .int .i64 0] 48 (0, 0))) := ⟨by rw [← hV0]; exact blk_old (blk_new' (by simp))⟩
 have K3 : Aside0 (V0.heap[w.heap.size + 3]? = some (.cells #[.int .i64 a0] 2 (0, 0))) := ⟨by rw [← hV0]; exact blk_new' (by simp)⟩
 have KB : Aside0 (Below w.heap.size w V0) := ⟨by rw [← hV0]; exact ((((Below.refl _ _).alloc (Nat.le_refl _) _).alloc (by simp) _).alloc (by simp; omega) _).alloc (by simp; omega) _⟩
 rw [hV0]
 clear hV0
 refine (chart_within.calls 0 100000 (some ⟨w.heap.size + 3, 0, none⟩) 1 [a0] (inB 0 100000 a0) V0 (C_arr (l := [a0]) K3.out (by simp)) (by simp) (by simp [chart_within.f])).mono ?_
 rintro e w1 ⟨rfl, hB1⟩
 have M0 := Aside0.mk (below_blk hB1 K0.out (blk_lt K0.out))
 have M1 := Aside0.mk (below_blk hB1 K1.out (blk_lt K1.out))
 have M2 := Aside0.mk (below_blk hB1 K2.out (blk_lt K2.out))
 have MB := Aside0.mk (below_then KB.out hB1)
 clear hB1 K0 K1 K2 K3 KB V0
 have HZ : ∀ (W : World), W.heap[w.heap.size + 2]? = some (.cells #[.int .i64 0, .int .i64 0, .int .i64 0, .int .i64 0] 48 (0, 0)) → True := fun _ _ => trivial
 clear HZ
 cases hin : inB 0 100000 a0 with
 | false =>
  have he := HE.out
  rw [if_pos hin] at he
  simp only [Prod.mk.injEq] at he
  obtain ⟨rfl, rfl, rfl, rfl, rfl⟩ := he
  clear HE hin
  have g0 : w1.cell? ⟨w.heap.size + 2, 0, none⟩ = some (.int .i64 0) := blk_cell M2.out 0
  have g1 : w1.cell? ⟨w.heap.size + 2, 1, none⟩ = some (.int .i64 0) := blk_cell M2.out 1
  have g2 : w1.cell? ⟨w.heap.size + 2, 2, none⟩ = some (.int .i64 0) := blk_cell M2.out 2
  have g3 : w1.cell? ⟨w.heap.size + 2, 3, none⟩ = some (.int .i64 0) := blk_cell M2.out 3
  have f0 := blk_frozen M2.out 0
  have f1 := blk_frozen M2.out 1
  have f2 := blk_frozen M2.out 2
  have f3 := blk_frozen M2.out 3
  have hlt := blk_lt M2.out
  go_wp2_with fail
  have hf := blk_put (blk_put (blk_put (blk_put M2.out 0 (.int .i64 0) rfl) 1 (.int .i64 0) rfl) 2 (.int .i64 0) rfl) 3 (.int .i64 0) rfl
  refine bodyPost_ret (results_arr2 rfl rfl isAggS sizeOfS (SegOk.mk' hf 0 4 (by simp))) rfl ⟨?_, ?_⟩
  ·rw [seg_whole (n := 4) hf rfl]; rfl
  exact put4_below MB.out (by omega)
 | true =>
  have HE2 := Aside0.mk (HE.out.symm.trans (if_neg (by rw [hin]; simp))).symm
  obtain ⟨q0, q1⟩ := (inB_iff 0 100000 a0).1 hin
  clear HE hin
  have x0 : w1.cell? ⟨w.heap.size, 0, none⟩ = some (.int .i64 a1_0) := blk_cell M0.out 0
  have x1 : w1.cell? ⟨w.heap.size, 1, none⟩ = some (.int .i64 a1_1) := blk_cell M0.out 1
  have hlt := blk_lt M2.out
  go_wp2_with fail
  refine (chart_isRange.calls a1_0 a1_1 (-400) 400 _ w1 (isRange_eq _ _ _ _)).mono ?_
  rintro e w2 ⟨rfl, hB2⟩
  have N0 := Aside0.mk (below_blk hB2 M0.out (blk_lt M0.out))
  have N1 := Aside0.mk (below_blk hB2 M1.out (blk_lt M1.out))
  have N2 := Aside0.mk (below_blk hB2 M2.out (blk_lt M2.out))
  have NB := Aside0.mk (below_then MB.out hB2)
  clear hB2 M0 M1 M2 MB x0 x1 hlt w1
  cases hin : isR (-400) 400 a1_0 a1_1 with
  | false =>
   have he := HE2.out
   rw [if_pos hin] at he
   simp only [Prod.mk.injEq] at he
   obtain ⟨rfl, rfl, rfl, rfl, rfl⟩ := he
   clear HE2 hin
   have g0 : w2.cell? ⟨w.heap.size + 2, 0, none⟩ = some (.int .i64 0) := blk_cell N2.out 0
   have g1 : w2.cell? ⟨w.heap.size + 2, 1, none⟩ = some (.int .i64 0) := blk_cell N2.out 1
   have g2 : w2.cell? ⟨w.heap.size + 2, 2, none⟩ = some (.int .i64 0) := blk_cell N2.out 2
   have g3 : w2.cell? ⟨w.heap.size + 2, 3, none⟩ = some (.int .i64 0) := blk_cell N2.out 3
   have f0 := blk_frozen N2.out 0
   have f1 := blk_frozen N2.out 1
   have f2 := blk_frozen N2.out 2
   have f3 := blk_frozen N2.out 3
   have hlt := blk_lt N2.out
   go_wp2_with fail
   have hf := blk_put (blk_put (blk_put (blk_put N2.out 0 (.int .i64 0) rfl) 1 (.int .i64 0) rfl) 2 (.int .i64 0) rfl) 3 (.int .i64 0) rfl
   refine bodyPost_ret (results_arr2 rfl rfl isAggS sizeOfS (SegOk.mk' hf 0 4 (by simp))) rfl ⟨?_, ?_⟩
   ·rw [seg_whole (n := 4) hf rfl]; rfl
   exact put4_below NB.out (by omega)
  | true =>
   have HE3 := Aside0.mk (HE2.out.symm.trans (if_neg (by rw [hin]; simp))).symm
   have hr1 : -400 ≤ a1_0 ∧ a1_0 ≤ a1_1 ∧ a1_1 ≤ 400 := by
    simp only [isR, Bool.and_eq_true, decide_eq_true_eq] at hin
    have h1 := (inB_iff _ _ _).1 hin.1.1
    have h2 := (inB_iff _ _ _).1 hin.1.2
    omega
   clear HE2 hin
   have y0 : w2.cell? ⟨w.heap.size + 1, 0, none⟩ = some (.int .i64 a2_0) := blk_cell N1.out 0
   have y1 : w2.cell? ⟨w.heap.size + 1, 1, none⟩ = some (.int .i64 a2_1) := blk_cell N1.out 1
   have hlt := blk_lt N2.out
   go_wp2_with fail
   refine (chart_isRange.calls a2_0 a2_1 0 200 _ w2 (isRange_eq _ _ _ _)).mono ?_
   rintro e w3 ⟨rfl, hB3⟩
   have P0 := Aside0.mk (below_blk hB3 N0.out (blk_lt N0.out))
   have P1 := Aside0.mk (below_blk hB3 N1.out (blk_lt N1.out))
   have P2 := Aside0.mk (below_blk hB3 N2.out (blk_lt N2.out))
   have PB := Aside0.mk (below_then NB.out hB3)
   clear hB3 N0 N1 N2 NB y0 y1 hlt w2
   cases hin : isR 0 200 a2_0 a2_1 with
   | false =>
    have he := HE3.out
    rw [if_pos hin] at he
    simp only [Prod.mk.injEq] at he
    obtain ⟨rfl, rfl, rfl, rfl, rfl⟩ := he
    clear HE3 hin
    have g0 : w3.cell? ⟨w.heap.size + 2, 0, none⟩ = some (.int .i64 0) := blk_cell P2.out 0
    have g1 : w3.cell? ⟨w.heap.size + 2, 1, none⟩ = some (.int .i64 0) := blk_cell P2.out 1
    have g2 : w3.cell? ⟨w.heap.size + 2, 2, none⟩ = some (.int .i64 0) := blk_cell P2.out 2
    have g3 : w3.cell? ⟨w.heap.size + 2, 3, none⟩ = some (.int .i64 0) := blk_cell P2.out 3
    have f0 := blk_frozen P2.out 0
    have f1 := blk_frozen P2.out 1
    have f2 := blk_frozen P2.out 2
    have f3 := blk_frozen P2.out 3
    have hlt := blk_lt P2.out
    go_wp2_with fail
    have hf := blk_put (blk_put (blk_put (blk_put P2.out 0 (.int .i64 0) rfl) 1 (.int .i64 0) rfl) 2 (.int .i64 0) rfl) 3 (.int .i64 0) rfl
    refine bodyPost_ret (results_arr2 rfl rfl isAggS sizeOfS (SegOk.mk' hf 0 4 (by simp))) rfl ⟨?_, ?_⟩
    ·rw [seg_whole (n := 4) hf rfl]; rfl
    exact put4_below PB.out (by omega)
   | true =>
    have HE4 := Aside0.mk (HE3.out.symm.trans (if_neg (by rw [hin]; simp))).symm
    have hr2 : 0 ≤ a2_0 ∧ a2_0 ≤ a2_1 ∧ a2_1 ≤ 200 := by
     simp only [isR, Bool.and_eq_true, decide_eq_true_eq] at hin
     have h1 := (inB_iff _ _ _).1 hin.1.1
     have h2 := (inB_iff _ _ _).1 hin.1.2
     omega
    clear HE3 hin
    have hlt := blk_lt P2.out
    have m11 := mul_400 hr1.1 (by omega : a1_0 ≤ 400) hr2.1 (by omega : a2_0 ≤ 200)
    have m12 := mul_400 hr1.1 (by omega : a1_0 ≤ 400) (by omega : 0 ≤ a2_1) hr2.2.2
    have m21 := mul_400 (by omega : -400 ≤ a1_1) hr1.2.2 hr2.1 (by omega : a2_0 ≤ 200)
    have m22 := mul_400 (by omega : -400 ≤ a1_1) hr1.2.2 (by omega : 0 ≤ a2_1) hr2.2.2
    have HWM := Lib.hid (show warmest a1_1 a2_0 a2_1 = if a1_1 < 0 then a1_1 * a2_0 else a1_1 * a2_1 from rfl)
    have HCM := Lib.hid (show coldest a1_0 a2_0 a2_1 = if a1_0 < 0 then a1_0 * a2_1 else a1_0 * a2_0 from rfl)
    have hwm : -80000 ≤ warmest a1_1 a2_0 a2_1 ∧ warmest a1_1 a2_0 a2_1 ≤ 80000 := by rw [HWM.out]; split <;> omega
    have hcm : -80000 ≤ coldest a1_0 a2_0 a2_1 ∧ coldest a1_0 a2_0 a2_1 ≤ 80000 := by rw [HCM.out]; split <;> omega
    have x0 : w3.drew.cell? ⟨w.heap.size, 0, none⟩ = some (.int .i64 a1_0) := blk_cell P0.out 0
    have x1 : w3.drew.cell? ⟨w.heap.size, 1, none⟩ = some (.int .i64 a1_1) := blk_cell P0.out 1
    have y0 : w3.drew.cell? ⟨w.heap.size + 1, 0, none⟩ = some (.int .i64 a2_0) := blk_cell P1.out 0
    have y1 : w3.drew.cell? ⟨w.heap.size + 1, 1, none⟩ = some (.int .i64 a2_1) := blk_cell P1.out 1
    go_wp2_with fail
    (refine start_ (n := 12) (S := fun w' => w' = _) (ds := []) (List.toArray (false :: false :: false :: false :: false :: false :: false :: false :: false :: false :: false :: false :: [])) (by kernel_rfl) rfl rfl rfl (fun plS => ?_); clear plS; refine pureY (i := 0) (N := (some 26)) ?_; refine pureY (i := 2) (N := (some 28)) ?_; refine pureY (i := 5) (N := (some 31)) ?_; refine pureY (i := 7) (N := (some 33)) ?_; refine takeE (i := 1) (N := (some 27)) ?_; refine takeE (i := 3) (N := (some 29)) ?_; refine pureY (i := 4) (N := (some 30)) ?_; refine pureY (i := 10) (N := (some 8)) ?_; refine takeE (i := 6) (N := (some 32)) ?_; refine takeE (i := 8) (N := (some 34)) ?_; refine pureY (i := 9) (N := (some 35)) ?_; refine pureY (i := 11) (N := (some 9)) ?_; refine done_ (by kernel_rfl) ?_)
    rcases Decidable.em (a1_1 < 0) with h1 | h1 <;> rcases Decidable.em (a1_0 < 0) with h2 | h2
    all_goals try (exfalso; omega)
    all_goals
     have HW : Hid (warmest a1_1 a2_0 a2_1 = _) := Lib.hid (HWM.out.trans (by first | rw [if_pos h1] | rw [if_neg h1]))
     have HC : Hid (coldest a1_0 a2_0 a2_1 = _) := Lib.hid (HCM.out.trans (by first | rw [if_pos h2] | rw [if_neg h2]))
     go_wp2_with fail
     refine (least_calls _ _ (by omega) (by omega) (by omega) _).mono ?_
     rintro e w4 ⟨rfl, hB4⟩
     go_wp2_with fail
     refine (least_calls _ _ (by omega) (by omega) (by omega) _).mono ?_
     rintro e w5 ⟨rfl, hB5⟩
     have hB6 : Below w3.heap.size w3 w5 := below_then (((Below.refl _ w3).drew).trans hB4) hB5
     have Q2 := Aside0.mk (below_blk hB6 P2.out (blk_lt P2.out))
     have QB := Aside0.mk (below_then PB.out hB6)
     have he := HE4.out
     rw [HW.out, HC.out] at he
     simp only [Prod.mk.injEq] at he
     obtain ⟨e1, e2, e3, e4, rfl⟩ := he
     rw [e1, e2, e3, e4]
     clear hB4 hB5 hB6 e1 e2 e3 e4 hlt x0 x1 y0 y1 HE4 HW HC HWM HCM
     have g0 : w5.cell? ⟨w.heap.size + 2, 0, none⟩ = some (.int .i64 0) := blk_cell Q2.out 0
     have g1 : w5.cell? ⟨w.heap.size + 2, 1, none⟩ = some (.int .i64 0) := blk_cell Q2.out 1
     have g2 : w5.cell? ⟨w.heap.size + 2, 2, none⟩ = some (.int .i64 0) := blk_cell Q2.out 2
     have g3 : w5.cell? ⟨w.heap.size + 2, 3, none⟩ = some (.int .i64 0) := blk_cell Q2.out 3
     have f0 := blk_frozen Q2.out 0
     have f1 := blk_frozen Q2.out 1
     have f2 := blk_frozen Q2.out 2
     have f3 := blk_frozen Q2.out 3
     have hlt := blk_lt Q2.out
     go_wp2_with fail
     have hf := blk_put (blk_put (blk_put (blk_put Q2.out 0 (.int .i64 r1) rfl) 1 (.int .i64 r2) rfl) 2 (.int .i64 r3) rfl) 3 (.int .i64 r4) rfl
     refine bodyPost_ret (results_arr2 rfl rfl isAggS sizeOfS (SegOk.mk' hf 0 4 (by simp))) rfl ⟨?_, ?_⟩
     ·rw [seg_whole (n := 4) hf rfl]; rfl
     exact put4_below QB.out (by omega)
end Go.Proofs.Ytpkajhmchcbbhaa.P
end
section
namespace Go.Proofs.Ytpkajhmchcbbhaa.P
open Go.RowKit Go.Proofs.YtpkajhmchcbbhaaW.PrintWords Go.Proofs.YtpkajhmchcbbhaaW.PrintLast Go.Proofs.YtpkajhmchcbbhaaW.PrintMore
def forecourtref01_Less.f (a0_0 : Int) (a0_1 : Int) (a1_0 : Int) (a1_1 : Int) : Option Bool :=
 if a0_0 < 0 ∨ a1_0 < 0 ∨ a0_1 < 1 ∨ a1_1 < 1 then some false
 else if a0_0 ≤ 4611686018427387904 ∧ a1_0 ≤ 4611686018427387904 ∧ a0_1 ≤ 4611686018427387904 ∧ a1_1 ≤ 4611686018427387904 then some (decide (a0_0 * a1_1 < a1_0 * a0_1)) else none
theorem less_parts {a b c d : Int} (hb : 1 ≤ b) (hd : 1 ≤ d) (h : a / b < c / d) : a * d < c * b := by
 have e1 := Int.mul_ediv_add_emod a b
 have e2 := Int.mul_ediv_add_emod c d
 have r1 := Int.emod_lt_of_pos a (show 0 < b by omega)
 have r2 := Int.emod_nonneg c (show d ≠ 0 by omega)
 have r3 := Int.emod_nonneg a (show b ≠ 0 by omega)
 generalize a / b = p at *
 generalize c / d = q at *
 generalize a % b = u at *
 generalize c % d = v at *
 subst e1 e2
 have h1 : (p + 1) * (b * d) ≤ q * (b * d) := Int.mul_le_mul_of_nonneg_right (by omega) (Int.mul_nonneg (by omega) (by omega))
 have h2 : u * d < b * d := Int.mul_lt_mul_of_pos_right r1 (by omega)
 have h3 : 0 ≤ v * b := Int.mul_nonneg r2 (by omega)
 have e3 : (b * p + u) * d = p * (b * d) + u * d := by rw [Int.add_mul, Int.mul_comm b p, Int.mul_assoc]
 have e4 : (d * q + v) * b = q * (b * d) + v * b := by rw [Int.add_mul, Int.mul_comm d q, Int.mul_assoc, Int.mul_comm d b]
 have e5 : (p + 1) * (b * d) = p * (b * d) + b * d := by rw [Int.add_mul, Int.one_mul]
 rw [e3, e4]
 omega
theorem less_rest {a b c d : Int} (h : a / b = c / d) : (a * d < c * b) ↔ (a % b * d < c % d * b) := by
 have e1 := Int.mul_ediv_add_emod a b
 have e2 := Int.mul_ediv_add_emod c d
 rw [← h] at e2
 generalize a / b = p at *
 generalize a % b = u at *
 generalize c % d = v at *
 subst e1 e2
 have e3 : (b * p + u) * d = p * (b * d) + u * d := by rw [Int.add_mul, Int.mul_comm b p, Int.mul_assoc]
 have e4 : (d * p + v) * b = p * (b * d) + v * b := by rw [Int.add_mul, Int.mul_comm d p, Int.mul_assoc, Int.mul_comm d b]
 rw [e3, e4]
 omega
def lessT (t : Bool) (a b c d : Int) : Bool := if t then decide (c * b < a * d) else decide (a * d < c * b)
theorem lessT_parts {t : Bool} {a b c d : Int} (hb : 1 ≤ b) (hd : 1 ≤ d) (h : a / b ≠ c / d) : lessT t a b c d = (decide (a / b < c / d) != t) := by
 rcases Int.lt_or_gt_of_ne h with h1 | h1
 ·have := less_parts hb hd h1
  have h2 : ¬ c * b < a * d := by omega
  cases t <;> simp [lessT, h1, this, h2]
 have := less_parts hd hb h1
 have h2 : ¬ a * d < c * b := by omega
 have h3 : ¬ a / b < c / d := by omega
 cases t <;> simp [lessT, h3, this, h2]
theorem lessT_zero {t : Bool} {a b c d : Int} (hb : 1 ≤ b) (hd : 1 ≤ d) (h : a / b = c / d) (hz : a % b = 0 ∨ c % d = 0) : lessT t a b c d = (decide (a % b ≠ c % d) && (decide (a % b = 0) != t)) := by
 have h1 := less_rest h
 have h2 := less_rest h.symm
 have r2 := Int.emod_nonneg c (show d ≠ 0 by omega)
 have r3 := Int.emod_nonneg a (show b ≠ 0 by omega)
 have e : lessT t a b c d = lessT t (a % b) b (c % d) d := by
  unfold lessT
  cases t <;> simp [h1, h2]
 rw [e]
 generalize a % b = u at *
 generalize c % d = v at *
 by_cases hu : u = 0
 ·subst hu
  by_cases hv : v = 0
  ·subst hv; cases t <;> simp [lessT]
  have h4 : 0 < v * b := Int.mul_pos (by omega) (by omega)
  have h5 : ¬ v * b < 0 := by omega
  have h6 : (0 : Int) ≠ v := fun e => hv e.symm
  cases t <;> simp [lessT, h4, h5, h6]
 obtain rfl : v = 0 := by omega
 have h4 : 0 < u * d := Int.mul_pos (by omega) (by omega)
 have h5 : ¬ u * d < 0 := by omega
 cases t <;> simp [lessT, hu, h4, h5]
theorem lessT_turn {t : Bool} {a b c d : Int} (h : a / b = c / d) : lessT t a b c d = lessT (!t) b (a % b) d (c % d) := by
 have h1 := less_rest h
 have h2 := less_rest h.symm
 cases t
 ·exact decide_eq_decide.2 (by rw [h1, Int.mul_comm (a % b), Int.mul_comm (c % d)])
 exact decide_eq_decide.2 (by rw [h2, Int.mul_comm (a % b), Int.mul_comm (c % d)])
set_option maxRecDepth 100000 in
set_option maxHeartbeats 4000000 in
theorem forecourtref01_Less.calls (a0_0 : Int) (a0_1 : Int) (a1_0 : Int) (a1_1 : Int) (r : Bool) (w : World) (h : forecourtref01_Less.f a0_0 a0_1 a1_0 a1_1 = some r) :
  Calls Try.prog 44 #[.agg #[.int .i64 a0_0, .int .i64 a0_1], .agg #[.int .i64 a1_0, .int .i64 a1_1]] w fun e w' => e = .returned (.bool r) ∧ Below w.heap.size w w' := by
 have hu8 := Try.underlying39
 by_cases hneg : a0_0 < 0 ∨ a1_0 < 0 ∨ a0_1 < 1 ∨ a1_1 < 1
 ·have hr : r = false := by
   unfold forecourtref01_Less.f at h
   rw [if_pos hneg] at h
   exact (Option.some.inj h).symm
  subst hr
  have key : a0_0 < 0 ∨ (¬ a0_0 < 0 ∧ a1_0 < 0) ∨ (¬ a0_0 < 0 ∧ ¬ a1_0 < 0 ∧ a0_1 < 1) ∨ (¬ a0_0 < 0 ∧ ¬ a1_0 < 0 ∧ ¬ a0_1 < 1 ∧ a1_1 < 1) := by omega
  clear hneg h
  rcases key with q1 | ⟨q1, q2⟩ | ⟨q1, q2, q3⟩ | ⟨q1, q2, q3, q4⟩
  all_goals
   go_enter Try.func44, Try.ntmps44
   go_wp2
   go_ret
   exact ⟨rfl, ((Below.refl _ _).alloc (Nat.le_refl _) _).alloc (by simp) _⟩
 have hrg : a0_0 ≤ 4611686018427387904 ∧ a1_0 ≤ 4611686018427387904 ∧ a0_1 ≤ 4611686018427387904 ∧ a1_1 ≤ 4611686018427387904 := by
  unfold forecourtref01_Less.f at h
  rw [if_neg hneg] at h
  split at h
  ·assumption
  cases h
 have hr : r = lessT false a0_0 a0_1 a1_0 a1_1 := by
  unfold forecourtref01_Less.f at h
  rw [if_neg hneg, if_pos hrg] at h
  exact (Option.some.inj h).symm
 have HRR := Lib.hid hr
 obtain ⟨q1, q2, q3, q4⟩ : ¬ a0_0 < 0 ∧ ¬ a1_0 < 0 ∧ ¬ a0_1 < 1 ∧ ¬ a1_1 < 1 := by omega
 have HRG := Aside0.mk hrg
 clear hneg h hr hrg
 go_enter Try.func44, Try.ntmps44
 go_wp2_with fail
 obtain ⟨V0, hV0⟩ : ∃ V, (w.alloc (.cells #[.int .i64 a0_0, .int .i64 a0_1] 39)).alloc (.cells #[.int .i64 a1_0, .int .i64 a1_1] 39) = V := ⟨_, rfl⟩
 have K0 : Aside0 (V0.heap[w.heap.size]? = some (.cells #[.int .i64 a0_0, .int .i64 a0_1] 39 (0, 0))) := ⟨by rw [← hV0]; exact blk_old (blk_new _ _)⟩
 have K1 : Aside0 (V0.heap[w.heap.size + 1]? = some (.cells #[.int .i64 a1_0, .int .i64 a1_1] 39 (0, 0))) := ⟨by rw [← hV0]; exact blk_new' (by simp)⟩
 have KB : Aside0 (Below w.heap.size w V0) := ⟨by rw [← hV0]; exact ((Below.refl _ _).alloc (Nat.le_refl _) _).alloc (by simp) _⟩
 try rw [hV0]
 clear hV0
 have HQ := Aside0.mk (show (0 ≤ a0_0 ∧ 1 ≤ a0_1) ∧ 0 ≤ a1_0 ∧ 1 ≤ a1_1 by omega)
 clear q1 q2 q3 q4
 go_loopg [5] (a0_1.toNat) (fun g v5 w' => ∃ (a b c d : Int) (t : Bool), v5 = .bool t ∧ b.toNat ≤ g ∧ w'.heap[w.heap.size]? = some (.cells #[.int .i64 a, .int .i64 b] 39 (0, 0)) ∧ w'.heap[w.heap.size + 1]? = some (.cells #[.int .i64 c, .int .i64 d] 39 (0, 0)) ∧
  0 ≤ a ∧ 1 ≤ b ∧ 0 ≤ c ∧ 1 ≤ d ∧ a ≤ 4611686018427387904 ∧ b ≤ 4611686018427387904 ∧ c ≤ 4611686018427387904 ∧ d ≤ 4611686018427387904 ∧ Aside0 (r = lessT t a b c d) ∧ Below w.heap.size w w')
 case atStart => exact ⟨_, _, _, _, _, rfl, Nat.le_refl _, K0.out, K1.out, HQ.out.1.1, HQ.out.1.2, HQ.out.2.1, HQ.out.2.2, HRG.out.1, HRG.out.2.2.1, HRG.out.2.1, HRG.out.2.2.2, ⟨HRR.out⟩, KB.out⟩
 case round =>
  obtain ⟨a, b, c, d, t, rfl, hbg, p0, p1, b1, b2, b3, b4, b5, b6, b7, b8, HL, hB⟩ := hrel
  have P0 := Aside0.mk p0
  have P1 := Aside0.mk p1
  have PB := Aside0.mk hB
  have HBG := Lib.hid hbg
  clear p0 p1 hB hbg K0 K1 KB HQ HRG HRR
  have x0 : wr.cell? ⟨w.heap.size, 0, none⟩ = some (.int .i64 a) := blk_cell P0.out 0
  have x1 : wr.cell? ⟨w.heap.size, 1, none⟩ = some (.int .i64 b) := blk_cell P0.out 1
  have y0 : wr.cell? ⟨w.heap.size + 1, 0, none⟩ = some (.int .i64 c) := blk_cell P1.out 0
  have y1 : wr.cell? ⟨w.heap.size + 1, 1, none⟩ = some (.int .i64 d) := blk_cell P1.out 1
  have z0 := blk_frozen P0.out 0
  have z1 := blk_frozen P0.out 1
  have z2 := blk_frozen P1.out 0
  have z3 := blk_frozen P1.out 1
  go_wp2_with fail
  (refine start_ (n := 12) (S := fun w' => w' = _) (ds := []) (List.toArray (false :: false :: false :: false :: false :: false :: false :: false :: false :: false :: false :: false :: [])) (by kernel_rfl) rfl rfl rfl (fun plS => ?_); clear plS; refine pureY (i := 0) (N := (some 28)) ?_; refine pureY (i := 2) (N := (some 30)) ?_; refine pureY (i := 5) (N := (some 33)) ?_; refine pureY (i := 7) (N := (some 35)) ?_; refine takeE (i := 1) (N := (some 29)) ?_; refine takeE (i := 3) (N := (some 31)) ?_; refine pureY (i := 4) (N := (some 32)) ?_; refine pureY (i := 10) (N := (some 6)) ?_; refine takeE (i := 6) (N := (some 34)) ?_; refine takeE (i := 8) (N := (some 36)) ?_; refine pureY (i := 9) (N := (some 37)) ?_; refine pureY (i := 11) (N := (some 7)) ?_; refine done_ (by kernel_rfl) ?_)
  have e1 := Int.mul_ediv_add_emod a b
  have e2 := Int.mul_ediv_add_emod c d
  have s1 := Int.emod_nonneg a (show b ≠ 0 by omega)
  have s2 := Int.emod_nonneg c (show d ≠ 0 by omega)
  have s3 := Int.emod_lt_of_pos a (show 0 < b by omega)
  have s4 := Int.emod_lt_of_pos c (show 0 < d by omega)
  have s5 : 0 ≤ a / b := Int.ediv_nonneg b1 (by omega)
  have s6 : 0 ≤ c / d := Int.ediv_nonneg b3 (by omega)
  have s7 : 0 ≤ a / b * b := Int.mul_nonneg s5 (by omega)
  have s8 : 0 ≤ c / d * d := Int.mul_nonneg s6 (by omega)
  rw [Int.mul_comm] at e1 e2
  have hle1 : a / b ≤ a := Int.ediv_le_self _ b1
  have hle2 : c / d ≤ c := Int.ediv_le_self _ b3
  have HP := Lib.hid (fun (h : a / b ≠ c / d) => lessT_parts (t := t) b2 b4 h)
  have HZ := Lib.hid (fun (h : a / b = c / d) (hz : a % b = 0 ∨ c % d = 0) => lessT_zero (t := t) b2 b4 h hz)
  have HT := Lib.hid (fun (h : a / b = c / d) => lessT_turn (t := t) h)
  obtain ⟨P, hP⟩ : ∃ P, P = a / b := ⟨_, rfl⟩
  obtain ⟨Q, hQ⟩ : ∃ Q, Q = c / d := ⟨_, rfl⟩
  obtain ⟨u, hu⟩ : ∃ u, u = a % b := ⟨_, rfl⟩
  obtain ⟨v, hv⟩ : ∃ v, v = c % d := ⟨_, rfl⟩
  rw [← hP] at e1 s5 s7 hle1 HP HZ HT
  rw [← hQ] at e2 s6 s8 hle2 HP HZ HT
  rw [← hu] at e1 s1 s3 HZ HT
  rw [← hv] at e2 s2 s4 HZ HT
  rw [← hP, ← hQ]
  clear hP hQ hu hv
  by_cases hpq : P = Q
  ·subst hpq
   have HZ2 := Aside0.mk (HZ.out rfl)
   have HT2 := Aside0.mk (HT.out rfl)
   clear HZ HT HP
   have t1 : P * b ≤ 4611686018427387904 := by omega
   have t2 : P * d ≤ 4611686018427387904 := by omega
   have t3 : a - P * b = u := by omega
   have t4 : c - P * d = v := by omega
   have T3 := Lib.hid t3
   have T4 := Lib.hid t4
   have u1 : P * b ≤ a := by omega
   have u2 : P * d ≤ c := by omega
   clear t3 t4
   go_wp2_with fail
   (refine start_ (n := 16) (S := fun w' => w' = _) (ds := []) (List.toArray (false :: false :: false :: false :: false :: false :: false :: false :: false :: false :: false :: false :: false :: false :: false :: false :: [])) (by kernel_rfl) rfl rfl rfl (fun plS => ?_); clear plS; refine pureY (i := 0) (N := (some 46)) ?_; refine pureY (i := 2) (N := (some 48)) ?_; refine pureY (i := 3) (N := (some 49)) ?_; refine pureY (i := 7) (N := (some 53)) ?_; refine pureY (i := 9) (N := (some 55)) ?_; refine pureY (i := 10) (N := (some 56)) ?_; refine takeE (i := 1) (N := (some 47)) ?_; refine takeE (i := 4) (N := (some 50)) ?_; refine pureY (i := 5) (N := (some 51)) ?_; refine pureY (i := 6) (N := (some 52)) ?_; refine pureY (i := 14) (N := (some 8)) ?_; refine takeE (i := 8) (N := (some 54)) ?_; refine takeE (i := 11) (N := (some 57)) ?_; refine pureY (i := 12) (N := (some 58)) ?_; refine pureY (i := 13) (N := (some 59)) ?_; refine pureY (i := 15) (N := (some 9)) ?_; refine done_ (by kernel_rfl) ?_)
   rw [T3.out, T4.out]
   clear e1 e2 t1 t2 T3 T4 u1 u2 s5 s6 s7 s8 hle1 hle2
   by_cases hu0 : u = 0
   ·subst hu0
    by_cases hv0 : v = 0
    ·subst hv0
     obtain rfl : r = false := by rw [HL.out, HZ2.out (.inl rfl)]; simp
     clear HL HZ2 HT2
     go_wp2
     go_ret
     exact ⟨rfl, PB.out.drew.drew⟩
    have hv1 : ((0 : Int) == v) = false := by simpa using fun e => hv0 e.symm
    have hv2 : ((0 : Int) != v) = true := by simpa using fun e => hv0 e.symm
    obtain rfl : r = !t := by rw [HL.out, HZ2.out (.inl rfl)]; simp [show (0 : Int) ≠ v from fun e => hv0 e.symm]
    clear HL HZ2 HT2
    cases t <;> go_wp2 <;> go_ret <;> exact ⟨rfl, PB.out.drew.drew⟩
   have hu1 : (u == 0) = false := by simpa using hu0
   by_cases hv0 : v = 0
   ·subst hv0
    have hu2 : (u != 0) = true := by simpa using hu0
    obtain rfl : r = t := by rw [HL.out, HZ2.out (.inr rfl)]; simp [hu0]
    clear HL HZ2 HT2
    cases r <;> go_wp2 <;> go_ret <;> exact ⟨rfl, PB.out.drew.drew⟩
   have hv1 : (v == 0) = false := by simpa using hv0
   go_wp2_with fail
   have n1 : w.heap.size ≠ w.heap.size + 1 := by omega
   have n2 : w.heap.size + 1 ≠ w.heap.size := by omega
   go_region
   have p0' := blk_put (blk_put P0.out 0 (.int .i64 b) rfl) 1 (.int .i64 u) rfl
   have p1' := (Below.heap_setCell _ ⟨w.heap.size, 1, none⟩ (.int .i64 u) _ n2).trans ((Below.heap_setCell wr ⟨w.heap.size, 0, none⟩ (.int .i64 b) _ n2).trans P1.out)
   have p2' := blk_put (blk_put p1' 0 (.int .i64 d) rfl) 1 (.int .i64 v) rfl
   have p3' := (Below.heap_setCell _ ⟨w.heap.size + 1, 1, none⟩ (.int .i64 v) _ n1).trans ((Below.heap_setCell _ ⟨w.heap.size + 1, 0, none⟩ (.int .i64 d) _ n1).trans p0')
   have PB2 := (((PB.out.setCell (p := ⟨w.heap.size, 0, none⟩) (Nat.le_refl _) (.int .i64 b)).setCell (p := ⟨w.heap.size, 1, none⟩) (Nat.le_refl _) (.int .i64 u)).setCell (p := ⟨w.heap.size + 1, 0, none⟩) (Nat.le_succ _) (.int .i64 d)).setCell (p := ⟨w.heap.size + 1, 1, none⟩) (Nat.le_succ _) (.int .i64 v)
   have Q0 := Aside0.mk p3'
   have Q1 := Aside0.mk p2'
   have QB := Aside0.mk PB2.drew.drew.drew
   clear p0' p1' p2' p3' PB2 x0 x1 y0 y1 z0 z1 z2 z3
   go_wp2
   go_roundg u.toNat
   case measure => have := HBG.out; omega
   case rel => exact ⟨b, u, d, v, !t, rfl, Nat.le_refl _, Q0.out, Q1.out, by omega, by omega, by omega, by omega, by omega, by omega, by omega, by omega, ⟨by rw [HL.out, HT2.out]⟩, QB.out⟩
  have hpb : (P == Q) = false := by simpa using hpq
  have hpn : (P != Q) = true := by simpa using hpq
  obtain rfl : r = (decide (P < Q) != t) := by rw [HL.out, HP.out hpq]
  clear HZ HT HP HL
  go_wp2
  go_ret
  exact ⟨rfl, PB.out.drew⟩
end Go.Proofs.Ytpkajhmchcbbhaa.P
end
section
namespace Go.Proofs.Ytpkajhmchcbbhaa.P
open Go.RowKit Go.Proofs.YtpkajhmchcbbhaaW.PrintWords Go.Proofs.YtpkajhmchcbbhaaW.PrintLast Go.Proofs.YtpkajhmchcbbhaaW.PrintMore
attribute [local go_sem] max2_mx min2_mn max_two min_two
attribute [local go_sem] Oper.semAt_some
attribute [local go_sem ↓] exec_load97 exec_store97 sem_load97 sem_store97
attribute [local go_sem] load97_at store97_at SegOk_alloc seg_alloc SegOk_drew seg_drew SegOk_drewN seg_drewN ints_size Ones_ints store97_new store97_newD
def stepN (lo hi : List Int) (n : Int) (o : List Int) (i : Nat) : List Int := o.set i (mx (lo.getD i 0) (mn (hi.getD i 0) n))
def foldN {N : Nat} (lo hi : List Int) (n : Int) (pre : List (Fin N)) (o : List Int) : List Int := pre.foldl (fun a x => stepN lo hi n a x.val) o
theorem foldN_snoc {N : Nat} (lo hi : List Int) (n : Int) (pre : List (Fin N)) (x : Fin N) (o : List Int) : foldN lo hi n (pre ++ [x]) o = stepN lo hi n (foldN lo hi n pre o) x.val := by simp [foldN]
theorem foldN_length {N : Nat} (lo hi : List Int) (n : Int) (pre : List (Fin N)) (o : List Int) : (foldN lo hi n pre o).length = o.length := by
 unfold foldN
 induction pre generalizing o with
 | nil => rfl
 | cons x pre ih => rw [List.foldl_cons, ih]; simp [stepN]
def nearL (lo hi : List Int) (N : Nat) (n : Int) : List Int := padRow (fun i => mx (lo.getD i 0) (mn (hi.getD i 0) n)) N
theorem foldN_all (lo hi : List Int) (n : Int) (N : Nat) (h16 : N ≤ 16) : foldN lo hi n (rowAll N false) (List.replicate 16 0) = nearL lo hi N n := by
 have key : ∀ k, k ≤ N → foldN lo hi n ((rowAll N false).take k) (List.replicate 16 0) = padRow (fun i => mx (lo.getD i 0) (mn (hi.getD i 0) n)) k := by
  intro k
  induction k with
  | zero =>
   intro _
   apply List.ext_getElem
   ·simp [foldN, padRow]
   intro i h1 h2
   have h3 : i < 16 := by simpa [padRow] using h2
   have e : foldN lo hi n (List.take 0 (rowAll N false)) (List.replicate 16 0) = List.replicate 16 0 := rfl
   rw [List.getElem_of_eq e, List.getElem_replicate]
   simp [padRow]
  | succ k ih =>
   intro hk
   obtain ⟨x, hx, ht⟩ := take_succ_row N false k hk
   rw [ht, foldN_snoc, ih (by omega), hx]
   exact padRow_set _ k (by omega)
 have := key N (Nat.le_refl _)
 rwa [rowAll_full] at this
set_option maxRecDepth 100000 in
set_option maxHeartbeats 4000000 in
theorem near_calls (g : Nat) (A : Option Addr) (c N : Nat) (p : Int) (lo hi : List Int) (n : Int) (h16 : N ≤ 16) (w : World) (hg : Gauge w g A N c p lo hi) :
  Calls Try.prog 87 #[.pointer (some ⟨g, 0, none⟩), .int .i64 n] w fun e w' => e = .returned (.agg (ints (nearL lo hi N n))) ∧ Below w.heap.size w w' := by
 have hu3 := Try.underlying99
 have hu5 := Try.underlying97
 have hgl := hg.lt
 have HG := Aside0.mk hg
 clear hg
 refine (callsIn_wide (n := 10)).1 ?_
 refine callsIn_of_wp_marks Try.func87 rfl trivial ?_ rfl
 simp only [Try.ntmps87, List.size_toArray, List.length_cons, List.length_nil, Nat.reduceAdd, Nat.reduceSub, Array.replicate_succ, Array.replicate_zero, List.push_toArray, List.append_toArray, List.nil_append, List.cons_append]
 gi_wp2_with fail
 obtain ⟨W1, hW1⟩ : ∃ W1, (((w.alloc (.cells #[.pointer (some ⟨g, 0, none⟩)] 90)).alloc (.cells #[.int .i64 n] 2)).alloc (.cells (ints (List.replicate 16 0)) 97)).alloc (.cells (ints (List.replicate 16 0)) 97) = W1 := ⟨_, rfl⟩
 have k0 : W1.heap[w.heap.size]? = some (.cells #[.pointer (some ⟨g, 0, none⟩)] 90 (0, 0)) := by rw [← hW1]; exact blk_old (blk_old (blk_old (blk_new _ _)))
 have k1 : W1.heap[w.heap.size + 1]? = some (.cells #[.int .i64 n] 2 (0, 0)) := by rw [← hW1]; exact blk_old (blk_old (blk_new' (by simp)))
 have k2 : W1.heap[w.heap.size + 2]? = some (.cells (ints (List.replicate 16 0)) 97 (0, 0)) := by rw [← hW1]; exact blk_old (blk_new' (by simp))
 have k3 : W1.heap[w.heap.size + 3]? = some (.cells (ints (List.replicate 16 0)) 97 (0, 0)) := by rw [← hW1]; exact blk_new' (by simp)
 have kb : Below w.heap.size w W1 := by rw [← hW1]; exact ((((Below.refl _ _).alloc (Nat.le_refl _) _).alloc (by simp) _).alloc (by simp; omega) _).alloc (by simp; omega) _
 have ks : W1.heap.size = w.heap.size + 4 := by rw [← hW1]; simp
 have hc0 := (HG.out.below kb).c0
 refine ⟨trivial, (callsIn_wide.2 (rows_calls g A N c false _ (by rw [← hW1] at hc0; exact hc0))).mono ?_⟩
 simp only [zlit]
 rw [show ((((w.alloc (.cells #[.pointer (some ⟨g, 0, none⟩)] 90)).alloc (.cells #[.int .i64 n] 2)).alloc (.cells (ints (List.replicate 16 0)) 97)).alloc (.cells (ints (List.replicate 16 0)) 97)) = W1 from hW1]
 rintro e W2 ⟨rfl, hW2⟩
 clear hW1 hc0
 have K0 : Aside0 (W2.heap[w.heap.size]? = some (.cells #[.pointer (some ⟨g, 0, none⟩)] 90 (0, 0))) := ⟨by rw [hW2]; exact blk_old (blk_old k0)⟩
 have K1 : Aside0 (W2.heap[w.heap.size + 1]? = some (.cells #[.int .i64 n] 2 (0, 0))) := ⟨by rw [hW2]; exact blk_old (blk_old k1)⟩
 have K2 : Aside0 (W2.heap[w.heap.size + 2]? = some (.cells (ints (List.replicate 16 0)) 97 (0, 0))) := ⟨by rw [hW2]; exact blk_old (blk_old k2)⟩
 have K3 : Aside0 (W2.heap[w.heap.size + 3]? = some (.cells (ints (List.replicate 16 0)) 97 (0, 0))) := ⟨by rw [hW2]; exact blk_old (blk_old k3)⟩
 have KB : Aside0 (Below w.heap.size w W2) := ⟨by rw [hW2]; exact (kb.alloc kb.size _).alloc (by simp; omega) _⟩
 have hbb : W2.heap[w.heap.size + 4]? = some (Obj.cells #[.bool false] 4 (0, 0)) := by rw [hW2]; exact blk_old (blk_new' ks.symm)
 have hbn : W2.heap[w.heap.size + 5]? = some (Obj.cells #[.int .i64 N] 3 (0, 0)) := by rw [hW2]; exact blk_new' (by simp; omega)
 have hs2 : W2.heap.size = w.heap.size + 6 := by rw [hW2]; simp; omega
 rw [ks]
 clear hW2 k0 k1 k2 k3 kb ks W1
 gi_wp2_with fail
 (refine rowsRange 10 (w.heap.size + 5)  (w.heap.size + 4)  N  false  (by omega) rfl ?hBn ?hBb ?hN (fun pre W => W.heap[w.heap.size]? = some (.cells #[.pointer (some ⟨g, 0, none⟩)] 90 (0, 0)) ∧ W.heap[w.heap.size + 1]? = some (.cells #[.int .i64 n] 2 (0, 0)) ∧ W.heap[w.heap.size + 2]? = some (.cells (ints (List.replicate 16 0)) 97 (0, 0)) ∧ W.heap[w.heap.size + 3]? = some (.cells (ints (foldN lo hi n pre (List.replicate 16 0))) 97 (0, 0)) ∧ But [] w W)  (fun _ _ _ => False)  ?hJ ?hJx ?h0 (fun x => Go.Act.mk #[Go.Value.pointer (Option.some (Go.Addr.mk g 0 Option.none)), Go.Value.int Go.IntKind.i64 n, Go.Value.pointer (Option.some (Go.Addr.mk (Array.size (Go.World.heap w)) 0 Option.none)), Go.Value.pointer (Option.some (Go.Addr.mk (Array.size (Go.World.heap w) + 1) 0 Option.none)), Go.Value.pointer (Option.some (Go.Addr.mk (Array.size (Go.World.heap w) + 1 + 1) 0 Option.none)), Go.Value.pointer (Option.some (Go.Addr.mk (Array.size (Go.World.heap w) + 1 + 1 + 1) 0 Option.none)), Go.Value.int Go.IntKind.i64 (Nat.cast (Fin.val x)), Go.Value.pointer (Option.some (Go.Addr.mk g 0 Option.none)), Go.Value.func (Go.Fn.func 76) #[] #[Go.Value.pointer (Option.some (Go.Addr.mk (Array.size (Go.World.heap w) + 4 + 1) 0 Option.none)), Go.Value.pointer (Option.some (Go.Addr.mk (Array.size (Go.World.heap w) + 4) 0 Option.none))], Go.Value.int Go.IntKind.i64 (Nat.cast (Fin.val x)), Go.undef, Go.undef, Go.undef, Go.undef, Go.undef, Go.undef, Go.undef, Go.undef, Go.undef, Go.undef, Go.undef, Go.undef, Go.undef, Go.undef, Go.undef, Go.undef, Go.undef, Go.undef] []) ?hassign ?hbody ?hdone ?hstop)
 case hBn => exact hbn
 case hBb => exact hbb
 case hN => omega
 case hJ => exact .and (ownBlk _) (.and (ownBlk _) (.and (ownBlk _) (.and (ownBlk _) (ownBut (by omega)))))
 case hJx => exact fun _ _ _ _ _ h _ _ => h
 case h0 => exact ⟨K0.out, K1.out, K2.out, K3.out, Below.but KB.out _⟩
 case hstop => exact fun _ _ _ _ _ _ h => h.elim
 case hassign =>
  intro l0 x W K hK
  gi_wp2
  exact hK
 case hbody =>
  intro l0 pre x W hJ hbn hbb
  obtain ⟨i, hi16⟩ := x
  obtain ⟨j0, j1, j2, j3, jB⟩ := hJ
  have hcg := cell_of_one j0
  have hcn := cell_of_one j1
  have hgW := HG.out.below jB.nil
  have hcl := hgW.cl i (by omega)
  have hch := hgW.ch i (by omega)
  have hglW := hgW.lt
  have i16 : i < 16 := by omega
  have hlen := foldN_length lo hi n pre (List.replicate 16 0)
  rw [List.length_replicate] at hlen
  have ho := (blk_cell j3 i).trans (ints_getD _ i (by rw [hlen]; exact i16))
  have hof := blk_frozen j3 i
  obtain ⟨o, hoo⟩ : ∃ o, o = foldN lo hi n pre (List.replicate 16 0) := ⟨_, rfl⟩
  have HO := Lib.hid hoo
  rw [← hoo] at ho j3
  obtain ⟨a, ha⟩ : ∃ a, a = lo.getD i 0 := ⟨_, rfl⟩
  obtain ⟨b, hb⟩ : ∃ b, b = hi.getD i 0 := ⟨_, rfl⟩
  rw [← ha] at hcl
  rw [← hb] at hch
  have HA := Lib.hid ha
  have HB := Lib.hid hb
  have J0 := Aside0.mk j0
  have J1 := Aside0.mk j1
  have J2 := Aside0.mk j2
  have J3 := Aside0.mk j3
  have JB := Aside0.mk jB
  have HI := Lib.hid hi16
  clear hoo ha hb
  (skip)
  gi_wp2_with fail
  (refine Code.wpIn_mono calm_le ?_; (first | refine startR_ (k := 18) (S := fun w' => w' = _) (ds := [17]) (List.toArray (false :: false :: false :: false :: false :: false :: false :: false :: false :: false :: false :: false :: false :: false :: false :: false :: false :: false :: [])) (by kernel_rfl) (by kernel_rfl) calm_in rfl rfl rfl (fun plS => ?_) | refine startW_ (k := 18) (S := fun w' => w' = _) (ds := [17]) (List.toArray (false :: false :: false :: false :: false :: false :: false :: false :: false :: false :: false :: false :: false :: false :: false :: false :: false :: false :: [])) (by kernel_rfl) (by kernel_rfl) calm_in rfl rfl rfl (fun plS => ?_)); clear plS; refine pureY (i := 0) (N := (some 10)) ?_; refine pureY (i := 2) (N := (some 12)) ?_; refine pureY (i := 8) (N := (some 18)) ?_; refine takeE (i := 1) (N := (some 11)) ?_; refine pureY (i := 3) (N := (some 13)) ?_; refine pureY (i := 4) (N := (some 14)) ?_; refine pureY (i := 5) (N := (some 15)) ?_; refine takeE (i := 6) (N := (some 16)) ?_; refine takeE (i := 7) (N := (some 17)) ?_; refine pureY (i := 9) (N := (some 19)) ?_; refine pureY (i := 10) (N := (some 20)) ?_; refine pureY (i := 11) (N := (some 21)) ?_; refine takeE (i := 12) (N := (some 22)) ?_; refine takeE (i := 13) (N := (some 23)) ?_; refine pureY (i := 14) (N := (some 24)) ?_; refine pureY (i := 15) (N := (some 25)) ?_; refine pureY (i := 16) (N := (some 26)) ?_; refine lastY (i := 17) (fun plK plH => ?_); rw [if_pos (by rfl)]; (first | gi_big_move | go_big_op | go_simp))
  ((try simp only [Act.put, List.getElem_toArray, List.getElem_cons_succ, List.getElem_cons_zero, List.setIfInBounds_toArray, List.set_cons_succ, List.set_cons_zero]); refine plH _ _ ?_; clear plH plK; refine done_ (by kernel_rfl) ?_; rw [calm_normal])
  have hk3 := blk_put J3.out i (.int .i64 (mx a (mn b n))) (ints_set _ _ _)
  have e0 : ∀ k, k ≠ 3 → w.heap.size + k ≠ w.heap.size + 3 := fun k hk => by omega
  refine ⟨(KeepsOthers.setCell W _ _).trans (.drew _), ?_, (Below.heap_setCell _ ⟨w.heap.size + 3, i, none⟩ _ _ (e0 0 (by omega))).trans J0.out, (Below.heap_setCell _ ⟨w.heap.size + 3, i, none⟩ _ _ (e0 1 (by omega))).trans J1.out, (Below.heap_setCell _ ⟨w.heap.size + 3, i, none⟩ _ _ (e0 2 (by omega))).trans J2.out, ?_, (JB.out.setCell ⟨w.heap.size + 3, i, none⟩ _ (.inr (by show w.heap.size ≤ w.heap.size + 3; omega))).drew⟩
  ·intro b hb
   simp only [List.mem_cons, List.not_mem_nil, or_false] at hb
   refine (Below.heap_setCell _ _ _ _ (fun e => ?_))
   have e : b = w.heap.size + 3 := e
   rcases hb with rfl | rfl <;> omega
  rw [foldN_snoc, ← HO.out]
  unfold stepN
  rw [← HA.out, ← HB.out]
  exact hk3
 case hdone =>
  intro D W3 hD hJ hK
  obtain ⟨j0, j1, j2, j3, jB⟩ := hJ
  rw [foldN_all lo hi n N h16] at j3
  have hnl : (nearL lo hi N n).length = 16 := padRow_length _ _
  have hS3 := SegOk.mk' j3 0 16 (by simp [ints, hnl])
  have hV3 := seg_whole (n := 16) j3 (by simp [ints, hnl])
  have hS2 := SegOk.mk' j2 0 16 (by simp [ints])
  have J2 := Aside0.mk j2
  have JB := Aside0.mk jB
  have HK := Aside0.mk hK
  clear j0 j1 j2 j3 jB hK hbb hbn
  gi_wp2_with fail
  have hfin := putSeg_block J2.out (l := (ints (nearL lo hi N n)).toList) (by simp [ints, hnl])
  have hD2 : D ≠ w.heap.size + 2 := by omega
  refine leaves_marks [D] _ ⟨fun E hE => by
   obtain rfl := List.mem_singleton.1 hE
   exact (putSeg_other _ _ _ _ _ hD2).trans HK.out, by simp⟩ ?_
  intro W8 hb hc
  have h8 := hc _ _ _ _ hfin
  refine ⟨.agg (ints (nearL lo hi N n)), ?_, rfl, ?_⟩
  ·exact (results_arr1 rfl rfl isAgg16 sizeOf16 (SegOk.mk' h8 0 16 (by simp [ints, hnl]))).trans (by rw [seg_whole (n := 16) h8 (by simp [ints, hnl])])
  exact (putSeg_below _ _ _ _ _ _ (by omega) JB.out.nil).trans (hb.below _ (by rw [putSeg_size]; have := JB.out.size; omega) (fun d hd => by
   obtain rfl := List.mem_singleton.1 hd
   omega))
end Go.Proofs.Ytpkajhmchcbbhaa.P
end
