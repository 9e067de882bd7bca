/- Part 22 of 44. -/
import Derived.Test.YtpkajhmchcbbhaaL13
import Derived.Test.YtpkajhmchcbbhaaL18
import Derived.Test.YtpkajhmchcbbhaaL17
import Derived.Test.YtpkajhmchcbbhaaL12
set_option linter.unusedSimpArgs false
set_option linter.unusedVariables false
section
namespace Go.Proofs.Ytpkajhmchcbbhaa.P
open Go.RowKit Go.Proofs.YtpkajhmchcbbhaaW.PrintWords Go.Proofs.YtpkajhmchcbbhaaW.PrintLast Go.Proofs.YtpkajhmchcbbhaaW.PrintMore
def isR (lo hi a b : Int) : Bool := inB lo hi a && inB lo hi b && decide (a ≤ b)
theorem mul_400 {a b : Int} (h0 : -400 ≤ a) (h1 : a ≤ 400) (k0 : 0 ≤ b) (k1 : b ≤ 200) : -80000 ≤ a * b ∧ a * b ≤ 80000 := by
 constructor
 ·have h := Int.mul_le_mul_of_nonneg_right h0 k0
  have : -400 * 200 ≤ -400 * b := by omega
  omega
 have h := Int.mul_le_mul_of_nonneg_right h1 k0
 omega
theorem put4_below {w W : World} {b : Nat} {x0 x1 x2 x3 : Value} (hB : Below w.heap.size w W) (hb : w.heap.size ≤ b) : Below w.heap.size w ((((W.setCell ⟨b, 0, none⟩ x0).setCell ⟨b, 1, none⟩ x1).setCell ⟨b, 2, none⟩ x2).setCell ⟨b, 3, none⟩ x3) := (((hB.setCell (p := ⟨b, 0, none⟩) hb x0).setCell (p := ⟨b, 1, none⟩) hb x1).setCell (p := ⟨b, 2, none⟩) hb x2).setCell (p := ⟨b, 3, none⟩) hb x3
theorem isRange_eq (a b lo hi : Int) : chart_isRange.f a b lo hi = some (isR lo hi a b) := by
 unfold chart_isRange.f chart_within.f isR
 simp only [Option.bind_some, List.all_cons, List.all_nil, Bool.and_true]
 cases inB lo hi a <;> cases inB lo hi b <;> simp
def warmest (a1_1 a2_0 a2_1 : Int) : Int := if a1_1 < 0 then a1_1 * a2_0 else a1_1 * a2_1
def coldest (a1_0 a2_0 a2_1 : Int) : Int := if a1_0 < 0 then a1_0 * a2_1 else a1_0 * a2_0
def common5.f (a0 a1_0 a1_1 a2_0 a2_1 : Int) : Option (Int × Int × Int × Int × Int) :=
 some (if inB 0 100000 a0 = false then (0, 0, 0, 0, 3) else if isR (-400) 400 a1_0 a1_1 = false then (0, 0, 0, 0, 2) else if isR 0 200 a2_0 a2_1 = false then (0, 0, 0, 0, 2)
  else (leastN (1000000 * a0) (1000000 + warmest a1_1 a2_0 a2_1), leastD (1000000 * a0) (1000000 + warmest a1_1 a2_0 a2_1), leastN (1000000 * a0) (1000000 + coldest a1_0 a2_0 a2_1), leastD (1000000 * a0) (1000000 + coldest a1_0 a2_0 a2_1), 0))
set_option maxRecDepth 100000 in
set_option maxHeartbeats 40000000 in
theorem common5.calls (a0 : Int) (a1_0 : Int) (a1_1 : Int) (a2_0 : Int) (a2_1 : Int) (r1 : Int) (r2 : Int) (r3 : Int) (r4 : Int) (r5 : Int) (w : World) (h : common5.f a0 a1_0 a1_1 a2_0 a2_1 = some (r1, r2, r3, r4, r5)) :
  Calls Try.prog 36 #[.int .i64 a0, .agg #[.int .i64 a1_0, .int .i64 a1_1], .agg #[.int .i64 a2_0, .int .i64 a2_1]] w fun e w' => e = .returned (.tuple #[.agg #[.int .i64 r1, .int .i64 r2, .int .i64 r3, .int .i64 r4], .int .i64 r5]) ∧ Below w.heap.size w w' := by
 have HE := Aside0.mk (Option.some.inj h)
 clear h
 have hu4 := Try.underlying43
 have hu8 := Try.underlying39
 have hu3 := Try.underlying48
 go_enter Try.func36, Try.ntmps36
 go_wp2_with fail
 obtain ⟨V0, hV0⟩ : ∃ V, (((w.alloc (.cells #[.int .i64 a1_0, .int .i64 a1_1] 43)).alloc (.cells #[.int .i64 a2_0, .int .i64 a2_1] 43)).alloc (.cells #[.int .i64 0, .int .i64 0, .int .i64 0, .int .i64 0] 48)).alloc (.cells #[.int .i64 a0] 2) = V := ⟨_, rfl⟩
 have K0 : Aside0 (V0.heap[w.heap.size]? = some (.cells #[.int .i64 a1_0, .int .i64 a1_1] 43 (0, 0))) := ⟨by rw [← hV0]; exact blk_old (blk_old (blk_old (blk_new _ _)))⟩
 have K1 : Aside0 (V0.heap[w.heap.size + 1]? = some (.cells #[.int .i64 a2_0, .int .i64 a2_1] 43 (0, 0))) := ⟨by rw [← hV0]; exact blk_old (blk_old (blk_new' (by simp)))⟩
 have K2 : Aside0 (V0.heap[w.heap.size + 2]? = some (.cells #[.int .i64 0, .int .i64 0, .int .i64 0, .int .i64 0] 48 (0, 0))) := ⟨by rw [← hV0]; exact blk_old (blk_new' (by simp))⟩
 have K3 : Aside0 (V0.heap[w.heap.size + 3]? = some (.cells #[.int .i64 a0] 2 (0, 0))) := ⟨by rw [← hV0]; exact blk_new' (by simp)⟩
 have KB : Aside0 (Below w.heap.size w V0) := ⟨by rw [← hV0]; exact ((((Below.refl _ _).alloc (Nat.le_refl _) _).alloc (by simp) _).alloc (by simp; omega) _).alloc (by simp; omega) _⟩
 rw [hV0]
 clear hV0
 refine (chart_within.calls 0 100000 (some ⟨w.heap.size + 3, 0, none⟩) 1 [a0] (inB 0 100000 a0) V0 (C_arr (l := [a0]) K3.out (by simp)) (by simp) (by simp [chart_within.f])).mono ?_
 rintro e w1 ⟨rfl, hB1⟩
 have M0 := Aside0.mk (below_blk hB1 K0.out (blk_lt K0.out))
 have M1 := Aside0.mk (below_blk hB1 K1.out (blk_lt K1.out))
 have M2 := Aside0.mk (below_blk hB1 K2.out (blk_lt K2.out))
 have MB := Aside0.mk (below_then KB.out hB1)
 clear hB1 K0 K1 K2 K3 KB V0
 have HZ : ∀ (W : World), W.heap[w.heap.size + 2]? = some (.cells #[.int .i64 0, .int .i64 0, .int .i64 0, .int .i64 0] 48 (0, 0)) → True := fun _ _ => trivial
 clear HZ
 cases hin : inB 0 100000 a0 with
 | false =>
  have he := HE.out
  rw [if_pos hin] at he
  simp only [Prod.mk.injEq] at he
  obtain ⟨rfl, rfl, rfl, rfl, rfl⟩ := he
  clear HE hin
  have g0 : w1.cell? ⟨w.heap.size + 2, 0, none⟩ = some (.int .i64 0) := blk_cell M2.out 0
  have g1 : w1.cell? ⟨w.heap.size + 2, 1, none⟩ = some (.int .i64 0) := blk_cell M2.out 1
  have g2 : w1.cell? ⟨w.heap.size + 2, 2, none⟩ = some (.int .i64 0) := blk_cell M2.out 2
  have g3 : w1.cell? ⟨w.heap.size + 2, 3, none⟩ = some (.int .i64 0) := blk_cell M2.out 3
  have f0 := blk_frozen M2.out 0
  have f1 := blk_frozen M2.out 1
  have f2 := blk_frozen M2.out 2
  have f3 := blk_frozen M2.out 3
  have hlt := blk_lt M2.out
  go_wp2_with fail
  have hf := blk_put (blk_put (blk_put (blk_put M2.out 0 (.int .i64 0) rfl) 1 (.int .i64 0) rfl) 2 (.int .i64 0) rfl) 3 (.int .i64 0) rfl
  refine bodyPost_ret (results_arr2 rfl rfl isAggS sizeOfS (SegOk.mk' hf 0 4 (by simp))) rfl ⟨?_, ?_⟩
  ·rw [seg_whole (n := 4) hf rfl]; rfl
  exact put4_below MB.out (by omega)
 | true =>
  have HE2 := Aside0.mk (HE.out.symm.trans (if_neg (by rw [hin]; simp))).symm
  obtain ⟨q0, q1⟩ := (inB_iff 0 100000 a0).1 hin
  clear HE hin
  have x0 : w1.cell? ⟨w.heap.size, 0, none⟩ = some (.int .i64 a1_0) := blk_cell M0.out 0
  have x1 : w1.cell? ⟨w.heap.size, 1, none⟩ = some (.int .i64 a1_1) := blk_cell M0.out 1
  have hlt := blk_lt M2.out
  go_wp2_with fail
  refine (chart_isRange.calls a1_0 a1_1 (-400) 400 _ w1 (isRange_eq _ _ _ _)).mono ?_
  rintro e w2 ⟨rfl, hB2⟩
  have N0 := Aside0.mk (below_blk hB2 M0.out (blk_lt M0.out))
  have N1 := Aside0.mk (below_blk hB2 M1.out (blk_lt M1.out))
  have N2 := Aside0.mk (below_blk hB2 M2.out (blk_lt M2.out))
  have NB := Aside0.mk (below_then MB.out hB2)
  clear hB2 M0 M1 M2 MB x0 x1 hlt w1
  cases hin : isR (-400) 400 a1_0 a1_1 with
  | false =>
   have he := HE2.out
   rw [if_pos hin] at he
   simp only [Prod.mk.injEq] at he
   obtain ⟨rfl, rfl, rfl, rfl, rfl⟩ := he
   clear HE2 hin
   have g0 : w2.cell? ⟨w.heap.size + 2, 0, none⟩ = some (.int .i64 0) := blk_cell N2.out 0
   have g1 : w2.cell? ⟨w.heap.size + 2, 1, none⟩ = some (.int .i64 0) := blk_cell N2.out 1
   have g2 : w2.cell? ⟨w.heap.size + 2, 2, none⟩ = some (.int .i64 0) := blk_cell N2.out 2
   have g3 : w2.cell? ⟨w.heap.size + 2, 3, none⟩ = some (.int .i64 0) := blk_cell N2.out 3
   have f0 := blk_frozen N2.out 0
   have f1 := blk_frozen N2.out 1
   have f2 := blk_frozen N2.out 2
   have f3 := blk_frozen N2.out 3
   have hlt := blk_lt N2.out
   go_wp2_with fail
   have hf := blk_put (blk_put (blk_put (blk_put N2.out 0 (.int .i64 0) rfl) 1 (.int .i64 0) rfl) 2 (.int .i64 0) rfl) 3 (.int .i64 0) rfl
   refine bodyPost_ret (results_arr2 rfl rfl isAggS sizeOfS (SegOk.mk' hf 0 4 (by simp))) rfl ⟨?_, ?_⟩
   ·rw [seg_whole (n := 4) hf rfl]; rfl
   exact put4_below NB.out (by omega)
  | true =>
   have HE3 := Aside0.mk (HE2.out.symm.trans (if_neg (by rw [hin]; simp))).symm
   have hr1 : -400 ≤ a1_0 ∧ a1_0 ≤ a1_1 ∧ a1_1 ≤ 400 := by
    simp only [isR, Bool.and_eq_true, decide_eq_true_eq] at hin
    have h1 := (inB_iff _ _ _).1 hin.1.1
    have h2 := (inB_iff _ _ _).1 hin.1.2
    omega
   clear HE2 hin
   have y0 : w2.cell? ⟨w.heap.size + 1, 0, none⟩ = some (.int .i64 a2_0) := blk_cell N1.out 0
   have y1 : w2.cell? ⟨w.heap.size + 1, 1, none⟩ = some (.int .i64 a2_1) := blk_cell N1.out 1
   have hlt := blk_lt N2.out
   go_wp2_with fail
   refine (chart_isRange.calls a2_0 a2_1 0 200 _ w2 (isRange_eq _ _ _ _)).mono ?_
   rintro e w3 ⟨rfl, hB3⟩
   have P0 := Aside0.mk (below_blk hB3 N0.out (blk_lt N0.out))
   have P1 := Aside0.mk (below_blk hB3 N1.out (blk_lt N1.out))
   have P2 := Aside0.mk (below_blk hB3 N2.out (blk_lt N2.out))
   have PB := Aside0.mk (below_then NB.out hB3)
   clear hB3 N0 N1 N2 NB y0 y1 hlt w2
   cases hin : isR 0 200 a2_0 a2_1 with
   | false =>
    have he := HE3.out
    rw [if_pos hin] at he
    simp only [Prod.mk.injEq] at he
    obtain ⟨rfl, rfl, rfl, rfl, rfl⟩ := he
    clear HE3 hin
    have g0 : w3.cell? ⟨w.heap.size + 2, 0, none⟩ = some (.int .i64 0) := blk_cell P2.out 0
    have g1 : w3.cell? ⟨w.heap.size + 2, 1, none⟩ = some (.int .i64 0) := blk_cell P2.out 1
    have g2 : w3.cell? ⟨w.heap.size + 2, 2, none⟩ = some (.int .i64 0) := blk_cell P2.out 2
    have g3 : w3.cell? ⟨w.heap.size + 2, 3, none⟩ = some (.int .i64 0) := blk_cell P2.out 3
    have f0 := blk_frozen P2.out 0
    have f1 := blk_frozen P2.out 1
    have f2 := blk_frozen P2.out 2
    have f3 := blk_frozen P2.out 3
    have hlt := blk_lt P2.out
    go_wp2_with fail
    have hf := blk_put (blk_put (blk_put (blk_put P2.out 0 (.int .i64 0) rfl) 1 (.int .i64 0) rfl) 2 (.int .i64 0) rfl) 3 (.int .i64 0) rfl
    refine bodyPost_ret (results_arr2 rfl rfl isAggS sizeOfS (SegOk.mk' hf 0 4 (by simp))) rfl ⟨?_, ?_⟩
    ·rw [seg_whole (n := 4) hf rfl]; rfl
    exact put4_below PB.out (by omega)
   | true =>
    have HE4 := Aside0.mk (HE3.out.symm.trans (if_neg (by rw [hin]; simp))).symm
    have hr2 : 0 ≤ a2_0 ∧ a2_0 ≤ a2_1 ∧ a2_1 ≤ 200 := by
     simp only [isR, Bool.and_eq_true, decide_eq_true_eq] at hin
     have h1 := (inB_iff _ _ _).1 hin.1.1
     have h2 := (inB_iff _ _ _).1 hin.1.2
     omega
    clear HE3 hin
    have hlt := blk_lt P2.out
    have m11 := mul_400 hr1.1 (by omega : a1_0 ≤ 400) hr2.1 (by omega : a2_0 ≤ 200)
    have m12 := mul_400 hr1.1 (by omega : a1_0 ≤ 400) (by omega : 0 ≤ a2_1) hr2.2.2
    have m21 := mul_400 (by omega : -400 ≤ a1_1) hr1.2.2 hr2.1 (by omega : a2_0 ≤ 200)
    have m22 := mul_400 (by omega : -400 ≤ a1_1) hr1.2.2 (by omega : 0 ≤ a2_1) hr2.2.2
    have HWM := Lib.hid (show warmest a1_1 a2_0 a2_1 = if a1_1 < 0 then a1_1 * a2_0 else a1_1 * a2_1 from rfl)
    have HCM := Lib.hid (show coldest a1_0 a2_0 a2_1 = if a1_0 < 0 then a1_0 * a2_1 else a1_0 * a2_0 from rfl)
    have hwm : -80000 ≤ warmest a1_1 a2_0 a2_1 ∧ warmest a1_1 a2_0 a2_1 ≤ 80000 := by rw [HWM.out]; split <;> omega
    have hcm : -80000 ≤ coldest a1_0 a2_0 a2_1 ∧ coldest a1_0 a2_0 a2_1 ≤ 80000 := by rw [HCM.out]; split <;> omega
    have x0 : w3.drew.cell? ⟨w.heap.size, 0, none⟩ = some (.int .i64 a1_0) := blk_cell P0.out 0
    have x1 : w3.drew.cell? ⟨w.heap.size, 1, none⟩ = some (.int .i64 a1_1) := blk_cell P0.out 1
    have y0 : w3.drew.cell? ⟨w.heap.size + 1, 0, none⟩ = some (.int .i64 a2_0) := blk_cell P1.out 0
    have y1 : w3.drew.cell? ⟨w.heap.size + 1, 1, none⟩ = some (.int .i64 a2_1) := blk_cell P1.out 1
    go_wp2_with fail
    (refine start_ (n := 12) (S := fun w' => w' = _) (ds := []) (List.toArray (false :: false :: false :: false :: false :: false :: false :: false :: false :: false :: false :: false :: [])) (by kernel_rfl) rfl rfl rfl (fun plS => ?_); clear plS; refine pureY (i := 0) (N := (some 26)) ?_; refine pureY (i := 2) (N := (some 28)) ?_; refine pureY (i := 5) (N := (some 31)) ?_; refine pureY (i := 7) (N := (some 33)) ?_; refine takeE (i := 1) (N := (some 27)) ?_; refine takeE (i := 3) (N := (some 29)) ?_; refine pureY (i := 4) (N := (some 30)) ?_; refine pureY (i := 10) (N := (some 8)) ?_; refine takeE (i := 6) (N := (some 32)) ?_; refine takeE (i := 8) (N := (some 34)) ?_; refine pureY (i := 9) (N := (some 35)) ?_; refine pureY (i := 11) (N := (some 9)) ?_; refine done_ (by kernel_rfl) ?_)
    rcases Decidable.em (a1_1 < 0) with h1 | h1 <;> rcases Decidable.em (a1_0 < 0) with h2 | h2
    all_goals try (exfalso; omega)
    all_goals
     have HW : Hid (warmest a1_1 a2_0 a2_1 = _) := Lib.hid (HWM.out.trans (by first | rw [if_pos h1] | rw [if_neg h1]))
     have HC : Hid (coldest a1_0 a2_0 a2_1 = _) := Lib.hid (HCM.out.trans (by first | rw [if_pos h2] | rw [if_neg h2]))
     go_wp2_with fail
     refine (least_calls _ _ (by omega) (by omega) (by omega) _).mono ?_
     rintro e w4 ⟨rfl, hB4⟩
     go_wp2_with fail
     refine (least_calls _ _ (by omega) (by omega) (by omega) _).mono ?_
     rintro e w5 ⟨rfl, hB5⟩
     have hB6 : Below w3.heap.size w3 w5 := below_then (((Below.refl _ w3).drew).trans hB4) hB5
     have Q2 := Aside0.mk (below_blk hB6 P2.out (blk_lt P2.out))
     have QB := Aside0.mk (below_then PB.out hB6)
     have he := HE4.out
     rw [HW.out, HC.out] at he
     simp only [Prod.mk.injEq] at he
     obtain ⟨e1, e2, e3, e4, rfl⟩ := he
     rw [e1, e2, e3, e4]
     clear hB4 hB5 hB6 e1 e2 e3 e4 hlt x0 x1 y0 y1 HE4 HW HC HWM HCM
     have g0 : w5.cell? ⟨w.heap.size + 2, 0, none⟩ = some (.int .i64 0) := blk_cell Q2.out 0
     have g1 : w5.cell? ⟨w.heap.size + 2, 1, none⟩ = some (.int .i64 0) := blk_cell Q2.out 1
     have g2 : w5.cell? ⟨w.heap.size + 2, 2, none⟩ = some (.int .i64 0) := blk_cell Q2.out 2
     have g3 : w5.cell? ⟨w.heap.size + 2, 3, none⟩ = some (.int .i64 0) := blk_cell Q2.out 3
     have f0 := blk_frozen Q2.out 0
     have f1 := blk_frozen Q2.out 1
     have f2 := blk_frozen Q2.out 2
     have f3 := blk_frozen Q2.out 3
     have hlt := blk_lt Q2.out
     go_wp2_with fail
     have hf := blk_put (blk_put (blk_put (blk_put Q2.out 0 (.int .i64 r1) rfl) 1 (.int .i64 r2) rfl) 2 (.int .i64 r3) rfl) 3 (.int .i64 r4) rfl
     refine bodyPost_ret (results_arr2 rfl rfl isAggS sizeOfS (SegOk.mk' hf 0 4 (by simp))) rfl ⟨?_, ?_⟩
     ·rw [seg_whole (n := 4) hf rfl]; rfl
     exact put4_below QB.out (by omega)
end Go.Proofs.Ytpkajhmchcbbhaa.P
end
section
namespace Go.Proofs.Ytpkajhmchcbbhaa.P
open Go.RowKit Go.Proofs.YtpkajhmchcbbhaaW.PrintWords Go.Proofs.YtpkajhmchcbbhaaW.PrintLast Go.Proofs.YtpkajhmchcbbhaaW.PrintMore
def forecourtlaw01_probed.f : Option ((List (S70)) × Int) := (forecourtlaw01_Tank.f).bind fun t => some (t.1, 10)
theorem forecourtlaw01_probed.calls (r1 : List (S70)) (r2 : Int) (w : World) (h : forecourtlaw01_probed.f = some (r1, r2)) :
  Calls Try.prog 52 #[] w fun e w' => ∃ v0_ : Value, e = .returned (.agg #[v0_, .int .i64 r2]) ∧ Kd.R k70 70 w' w.heap.size (fun _ => True) v0_ r1 ∧ Below w.heap.size w w' := by
 unfold forecourtlaw01_probed.f at h
 obtain ⟨⟨t1, t2⟩, hT, h⟩ := Option.bind_eq_some_iff.mp h
 simp only [Option.some.injEq, Prod.mk.injEq] at h
 obtain ⟨rfl, rfl⟩ := h
 have HT := Aside0.mk hT
 clear hT
 have hu1 := Try.underlying24
 go_enter Try.func52, Try.ntmps52
 go_wp2_with fail
 refine (forecourtlaw01_Tank.calls t1 t2 _ HT.out).mono ?_
 rintro e w2 ⟨v, rfl, hR, hB⟩
 have hs2 : w.heap.size + 1 ≤ w2.heap.size := by have := hB.size; simp at this; omega
 have M0 := Aside0.mk (below_blk hB (blk_new w _) (by simp))
 have MB := Aside0.mk (below_then ((Below.refl _ w).alloc (Nat.le_refl _) _) hB)
 obtain ⟨A, c, rfl, hc, hC⟩ := Kd.R_reads hR
 have HR := Aside0.mk (Kd.R_bound hR)
 clear hR hC hB
 have g0 : w2.cell? ⟨w.heap.size, 0, none⟩ = some (.slice none 0 0) := blk_cell M0.out 0
 have g1 : w2.cell? ⟨w.heap.size, 1, none⟩ = some (.int .i64 0) := blk_cell M0.out 1
 have f0 := blk_frozen M0.out 0
 have f1 := blk_frozen M0.out 1
 have hlt : w.heap.size < w2.heap.size := by omega
 go_wp2_with fail
 have hf := blk_old (o := .cells #[.slice A t1.length c, .int .i64 10] 24) (blk_put (blk_put M0.out 0 (.slice A t1.length c) rfl) 1 (.int .i64 10) rfl)
 refine bodyPost_ret (results_arr1 rfl rfl (n := 2) (fun w => by kernel_rfl) (fun w => by kernel_rfl) (SegOk.mk' hf 0 2 (by simp))) rfl ⟨.slice A t1.length c, ?_, ?_, ?_⟩
 ·rw [seg_whole (n := 2) hf rfl]; rfl
 ·refine Kd.R_mono (Kd.R_lower (Kd.R_move HR.out (fun k hk => ?_)) (by simp)) (fun _ _ => trivial)
  obtain ⟨_, h1, h2, _⟩ := hk
  have h3 : w.heap.size + 1 ≤ k := by simpa using h1
  exact (Below.heap_alloc _ _ _ (by simpa using h2)).trans ((Below.heap_setCell _ ⟨w.heap.size, 1, none⟩ _ k (by show k ≠ w.heap.size; omega)).trans (Below.heap_setCell _ ⟨w.heap.size, 0, none⟩ _ k (by show k ≠ w.heap.size; omega)))
 exact ((MB.out.setCell (p := ⟨w.heap.size, 0, none⟩) (Nat.le_refl _) _).setCell (p := ⟨w.heap.size, 1, none⟩) (Nat.le_refl _) _).alloc (by simp; omega) _
end Go.Proofs.Ytpkajhmchcbbhaa.P
end
